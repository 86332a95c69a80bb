/-
  Part 5 of the proof: contracts of the program's functions. Conditions: those of the theorems below.
-/
import Derived.Test.YtejfdhcigkgbmaaDoorRests4
import Derived.Test.YtejfdhcigkgbmaaDoorRests2
import Derived.RowKit3
import GoSem.ClaimChange
set_option linter.all false
namespace Go.Proofs.YtejfdhcigkgbmaaDoor.PE
open Go
set_option maxRecDepth 100000
variable {G : World → (Nat → Prop) → Prop} (hG : GOk G)

/-! gantkeep3.TimingRests -/
noncomputable def b4 : Code := (loopsOf (bodyC Tryd.f4)).getD 0 .skip
def pol4 : Pol := { live := [(10, [8, 11, 12, 13, 14, 16, 17, 65, 66, 67])], own := [62, 95], wr := [(30, [0])] }
noncomputable def O4 : Orc := [(19, s19), (21, s21), (22, s22), (23, s23), (24, s24), (25, s25), (26, s26), (27, s27), (28, s28), (29, s29), (30, s30)]
theorem enter4 : Enters Tryd.prog 4 Tryd.f4 (bodyC Tryd.f4) := ⟨Tryd.func4, by kernel_rfl, rfl⟩
def st4 (x s a sm la : Rat) (vs ws : List Rat) (n : Nat) (len i : Int) : LS := ⟨[.bl false, .ptr 0 3 0 0 [], .ptr 1 3 0 0 [], .ptr 2 3 0 0 [], .lst 3 (.rats 64 vs), .ptr 3 3 0 0 [], .ptr 4 3 0 0 [], .sl 5 3 0 n, .i .i64 len, .i .i64 i],
  [some ⟨3, .vals [.q x 64]⟩, some ⟨3, .vals [.q s 64]⟩, some ⟨3, .vals [.q a 64]⟩, some ⟨3, .vals [.q sm 64]⟩, some ⟨3, .vals [.q la 64]⟩, some ⟨3, .rats 64 ws⟩]⟩
theorem r4 (x s a sm la : Rat) (vs ws : List Rat) (n : Nat) (len i : Int) : evRound Tryd.prog O4 [] pol4 Tryd.f4.ntmps 0 [8, 11, 12, 13, 14, 16, 17, 65, 66, 67] b4 (st4 x s a sm la vs ws n len i) =
  Tr.br (decide (i < len))
    (Tr.br (decide ((0 : Int) ≤ i) && decide (i < (↑n : Int)))
      (Tr.br (((0 : Nat) + i.toNat + (1 : Nat)).ble ws.length)
        (Tr.br (s64 (ws.getD ((0 : Nat) + i.toNat) (0 : Rat)))
          (Tr.br (decide (rcmp (ws.getD ((0 : Nat) + i.toNat) (0 : Rat)) (0 : Rat) < (0 : Int)))
            (Tr.ok
              (Res.out Exit.ret
                {
                  t :=
                    [PV.bl false, PV.ptr (0) (3) (0) (0) [],
                      PV.ptr (1) (3) (0) (0) [],
                      PV.ptr (2) (3) (0) (0) [],
                      PV.lst (3) (Cont.rats (64) vs),
                      PV.ptr (3) (3) (0) (0) [],
                      PV.ptr (4) (3) (0) (0) [],
                      PV.sl (5) (3) (0) n, PV.i IntKind.i64 len, PV.i IntKind.i64 i],
                  h :=
                    [some { e := 3, c := Cont.vals [PV.q x (64)] },
                      some { e := 3, c := Cont.vals [PV.q s (64)] },
                      some { e := 3, c := Cont.vals [PV.q a (64)] },
                      some { e := 3, c := Cont.vals [PV.q sm (64)] },
                      some { e := 3, c := Cont.vals [PV.q la (64)] },
                      some { e := 3, c := Cont.rats (64) ws }] }))
            (Tr.br (s32 (ws.getD ((0 : Nat) + i.toNat) (0 : Rat)) && s32 s)
              (Tr.br (decide ((0 : Int) < rcmp (ws.getD ((0 : Nat) + i.toNat) (0 : Rat)) s))
                (Tr.ok
                  (Res.out Exit.ret
                    {
                      t :=
                        [PV.bl false, PV.ptr (0) (3) (0) (0) [],
                          PV.ptr (1) (3) (0) (0) [],
                          PV.ptr (2) (3) (0) (0) [],
                          PV.lst (3) (Cont.rats (64) vs),
                          PV.ptr (3) (3) (0) (0) [],
                          PV.ptr (4) (3) (0) (0) [],
                          PV.sl (5) (3) (0) n, PV.i IntKind.i64 len, PV.i IntKind.i64 i],
                      h :=
                        [some { e := 3, c := Cont.vals [PV.q x (64)] },
                          some { e := 3, c := Cont.vals [PV.q s (64)] },
                          some { e := 3, c := Cont.vals [PV.q a (64)] },
                          some { e := 3, c := Cont.vals [PV.q sm (64)] },
                          some { e := 3, c := Cont.vals [PV.q la (64)] },
                          some { e := 3, c := Cont.rats (64) ws }] }))
                (Tr.br
                  (s32 (ws.getD ((0 : Nat) + i.toNat) (0 : Rat)) && s32 la &&
                      decide
                        ((ws.getD ((0 : Nat) + i.toNat) (0 : Rat)).num.natAbs * la.den < (72057594037927936 : Nat)) &&
                    decide (la.num.natAbs * (ws.getD ((0 : Nat) + i.toNat) (0 : Rat)).den < (72057594037927936 : Nat)))
                  (Tr.br (s64 (ws.getD ((0 : Nat) + i.toNat) (0 : Rat) - la))
                    (Tr.br (s32 (rabs (ws.getD ((0 : Nat) + i.toNat) (0 : Rat) - la)) && s32 a)
                      (Tr.br (decide ((0 : Int) < rcmp (rabs (ws.getD ((0 : Nat) + i.toNat) (0 : Rat) - la)) a))
                        (Tr.ok
                          (Res.out Exit.ret
                            {
                              t :=
                                [PV.bl false, PV.ptr (0) (3) (0) (0) [],
                                  PV.ptr (1) (3) (0) (0) [],
                                  PV.ptr (2) (3) (0) (0) [],
                                  PV.lst (3) (Cont.rats (64) vs),
                                  PV.ptr (3) (3) (0) (0) [],
                                  PV.ptr (4) (3) (0) (0) [],
                                  PV.sl (5) (3) (0) n, PV.i IntKind.i64 len, PV.i IntKind.i64 i],
                              h :=
                                [some { e := 3, c := Cont.vals [PV.q x (64)] },
                                  some { e := 3, c := Cont.vals [PV.q s (64)] },
                                  some { e := 3, c := Cont.vals [PV.q a (64)] },
                                  some { e := 3, c := Cont.vals [PV.q sm (64)] },
                                  some { e := 3, c := Cont.vals [PV.q la (64)] },
                                  some { e := 3, c := Cont.rats (64) ws }] }))
                        (Tr.br
                          (s32 sm && s32 (ws.getD ((0 : Nat) + i.toNat) (0 : Rat)) &&
                              decide
                                (sm.num.natAbs * (ws.getD ((0 : Nat) + i.toNat) (0 : Rat)).den <
                                  (72057594037927936 : Nat)) &&
                            decide
                              ((ws.getD ((0 : Nat) + i.toNat) (0 : Rat)).num.natAbs * sm.den < (72057594037927936 : Nat)))
                          (Tr.br
                            (decide ((-9223372036854775808 : Int) ≤ i + (1 : Int)) &&
                              decide (i + (1 : Int) ≤ (9223372036854775807 : Int)))
                            (Tr.ok
                              (Res.out Exit.normal
                                {
                                  t :=
                                    [PV.bl false, PV.ptr (0) (3) (0) (0) [],
                                      PV.ptr (1) (3) (0) (0) [],
                                      PV.ptr (2) (3) (0) (0) [],
                                      PV.lst (3) (Cont.rats (64) vs),
                                      PV.ptr (3) (3) (0) (0) [],
                                      PV.ptr (4) (3) (0) (0) [],
                                      PV.sl (5) (3) (0) n, PV.i IntKind.i64 len,
                                      PV.i IntKind.i64 (i + (1 : Int))],
                                  h :=
                                    [some { e := 3, c := Cont.vals [PV.q x (64)] },
                                      some { e := 3, c := Cont.vals [PV.q s (64)] },
                                      some { e := 3, c := Cont.vals [PV.q a (64)] },
                                      some
                                        { e := 3,
                                          c :=
                                            Cont.vals
                                              [PV.q (sm + ws.getD ((0 : Nat) + i.toNat) (0 : Rat)) (64)] },
                                      some
                                        { e := 3,
                                          c := Cont.vals [PV.q (ws.getD ((0 : Nat) + i.toNat) (0 : Rat)) (64)] },
                                      some { e := 3, c := Cont.rats (64) ws }] }))
                            (Tr.no (16002)))
                          (Tr.no (1))))
                      (Tr.no (1)))
                    (Tr.no (1)))
                  (Tr.no (1))))
              (Tr.no (1))))
          (Tr.no (1)))
        (Tr.no (12003)))
      (Tr.no (12004)))
    (Tr.ok
      (Res.out (Exit.exit (0))
        {
          t :=
            [PV.bl false, PV.ptr (0) (3) (0) (0) [],
              PV.ptr (1) (3) (0) (0) [],
              PV.ptr (2) (3) (0) (0) [], PV.lst (3) (Cont.rats (64) vs),
              PV.ptr (3) (3) (0) (0) [],
              PV.ptr (4) (3) (0) (0) [], PV.sl (5) (3) (0) n,
              PV.i IntKind.i64 len, PV.i IntKind.i64 i],
          h :=
            [some { e := 3, c := Cont.vals [PV.q x (64)] },
              some { e := 3, c := Cont.vals [PV.q s (64)] },
              some { e := 3, c := Cont.vals [PV.q a (64)] },
              some { e := 3, c := Cont.vals [PV.q sm (64)] },
              some { e := 3, c := Cont.vals [PV.q la (64)] },
              some { e := 3, c := Cont.rats (64) ws }] })) := by kernel_rfl
include hG in
theorem orc4 : OrcOK Tryd.prog G O4 := .cons (ok19 hG) (.cons (ok21 hG) (.cons (ok22 hG) (.cons (ok23 hG) (.cons (ok24 hG) (.cons (ok25 hG) (.cons (ok26 hG) (.cons (ok27 hG) (.cons (ok28 hG) (.cons (ok29 hG) (.cons (ok30 hG) .nil))))))))))
noncomputable def leB (x y : Rat) : Bool := decide (x ≤ y)
noncomputable def l4 : LSpec := fun ls K => match ls with
  | ⟨[.bl false, .ptr 0 3 0 0 [], .ptr 1 3 0 0 [], .ptr 2 3 0 0 [], .lst 3 (.rats 64 vs), .ptr 3 3 0 0 [], .ptr 4 3 0 0 [], .sl 5 3 0 n, .i .i64 len, .i .i64 i],
      [some ⟨3, .vals [.q x w1]⟩, some ⟨3, .vals [.q s w2]⟩, some ⟨3, .vals [.q a w3]⟩, some ⟨3, .vals [.q sm w4]⟩, some ⟨3, .vals [.q la w5]⟩, some ⟨3, .rats w6 ws⟩]⟩ =>
    .br (prB s a && distB x && decide (1 ≤ vs.length) && decide (vs.length ≤ 50) && leB x (Prof.cover s a vs.length) && decide (vs = Prof.vals x s a vs.length) && decide (ws = vs ++ [0]) && decide (sm = 0) && decide (la = 0) && decide (i = 0) && decide (len = vs.length + 1) && decide (n = vs.length + 1) &&
      Nat.beq w1 64 && Nat.beq w2 64 && Nat.beq w3 64 && Nat.beq w4 64 && Nat.beq w5 64 && Nat.beq w6 64) (K (.exit 0) (st4 x s a x 0 vs (vs ++ [0]) (vs.length + 1) (vs.length + 1) (vs.length + 1))) (.no 1)
  | _ => .no 1
theorem val_zero {c s a : Rat} {n : Nat} (hs : 0 ≤ s) : Prof.val c s a n 0 = 0 := by unfold Prof.val; rw [Prof.cap_zero hs, Rat.mul_zero]
theorem val_end {c s a : Rat} {n : Nat} (hs : 0 ≤ s) : Prof.val c s a n (n + 1) = 0 := by unfold Prof.val; rw [Prof.cap_end hs, Rat.mul_zero]
theorem ws_get {x s a : Rat} {n i : Nat} (hs : 0 ≤ s) (hi : i ≤ n) : (Prof.vals x s a n ++ [0]).getD i 0 = Prof.val (x / Prof.cover s a n) s a n (i + 1) := by
  have hl := Prof.vals_len x s a n
  rcases Nat.lt_or_ge i n with h | h
  · rw [← Prof.vals_get h]
    simp [List.getD_eq_getElem?_getD, List.getElem?_append, hl, h]
  · have : i = n := by omega
    subst this
    rw [val_end hs]
    simp [List.getD_eq_getElem?_getD, List.getElem?_append, hl]
theorem rabs_le {d a : Rat} (h1 : d ≤ a) (h2 : -d ≤ a) : rabs d ≤ a := by unfold rabs; split <;> assumption
theorem step4 (x s a : Rat) (n i : Nat) (hp : Prof.pr s a) (hx : Prof.dist x) (hn : n ≤ 50) (h1 : 1 ≤ n) (hle : x ≤ Prof.cover s a n) (hi : i ≤ n) :
    (evRound Tryd.prog O4 [] pol4 Tryd.f4.ntmps 0 [8, 11, 12, 13, 14, 16, 17, 65, 66, 67] b4 (st4 x s a (x / Prof.cover s a n * Prof.cov s a n i) (Prof.val (x / Prof.cover s a n) s a n i) (Prof.vals x s a n) (Prof.vals x s a n ++ [0]) (n + 1) (n + 1) i)).run =
      some (.out .normal (st4 x s a (x / Prof.cover s a n * Prof.cov s a n (i + 1)) (Prof.val (x / Prof.cover s a n) s a n (i + 1)) (Prof.vals x s a n) (Prof.vals x s a n ++ [0]) (n + 1) (n + 1) ((i + 1 : Nat) : Int))) := by
  have hpos := hp.pos
  have hs0 := Rat.le_of_lt hpos.1
  have ha0 := Rat.le_of_lt hpos.2
  obtain ⟨hc0, hc1⟩ := Prof.scale_01 hx hp hn h1 hle
  have e0 : 0 + ((i : Nat) : Int).toNat = i := by omega
  have hl : (Prof.vals x s a n ++ [0]).length = n + 1 := by simp [Prof.vals_len]
  have b1 := Prof.val_bd hx hp hn h1 (i + 1)
  have b2 := Prof.val_bd hx hp hn h1 i
  have b3 := Prof.diff_bd hx hp hn h1 (i + 1) i
  have b4 := Prof.sum_bd hx hp hn h1 (k := i) (by omega)
  have v1 := Prof.val_nonneg (n := n) hc0 hs0 ha0 (i + 1)
  have v2 := Prof.val_le (n := n) hc0 hc1 hs0 ha0 (i + 1)
  have v3 := Prof.val_up (s := s) (n := n) hc0 hc1 ha0 i
  have v4 := Prof.val_down (s := s) (n := n) hc0 hc1 ha0 i
  have v5 := Prof.val_sum (x / Prof.cover s a n) s a n i
  rw [r4, e0, ws_get hs0 hi, ← v5]
  generalize Prof.val (x / Prof.cover s a n) s a n (i + 1) = v at *
  generalize Prof.val (x / Prof.cover s a n) s a n i = la at *
  generalize x / Prof.cover s a n * Prof.cov s a n i = sm at *
  have r1 := rabs_le v3 (by grind)
  rw [Tr.run_t (decide_eq_true (by omega)), Tr.run_t (by simp only [Bool.and_eq_true, decide_eq_true_eq]; omega), Tr.run_t (by rw [Nat.ble_eq, hl]; omega),
    Tr.run_t (s32_s64 (Bd32 b1 (by omega) (by omega))), Tr.run_f (decide_eq_false (by rw [rcmp_lt]; exact Rat.not_lt.2 v1)),
    Tr.run_t (by rw [Bd32 b1 (by omega) (by omega), Bd32 hp.bs (by omega) (by omega)]; rfl), Tr.run_f (decide_eq_false (by rw [rcmp_gt]; exact Rat.not_lt.2 v2)),
    Tr.run_t (by rw [Bd32 b1 (by omega) (by omega), Bd32 b2 (by omega) (by omega)]; simp only [Bool.true_and, Bool.and_eq_true, decide_eq_true_eq]; exact ⟨b1.cross b2 (by omega), b2.cross b1 (by omega)⟩),
    Tr.run_t (s32_s64 (Bd32 b3 (by omega) (by omega))), Tr.run_t (by rw [s32_abs, Bd32 b3 (by omega) (by omega), Bd32 hp.ba (by omega) (by omega)]; rfl),
    Tr.run_f (decide_eq_false (by rw [rcmp_gt]; exact Rat.not_lt.2 r1)),
    Tr.run_t (by rw [Bd32 b4 (by omega) (by omega), Bd32 b1 (by omega) (by omega)]; simp only [Bool.true_and, Bool.and_eq_true, decide_eq_true_eq]; exact ⟨b4.cross b1 (by omega), b1.cross b4 (by omega)⟩),
    Tr.run_t (by simp only [Bool.and_eq_true, decide_eq_true_eq]; omega), Tr.run_ok]
  rfl
include hG in
theorem loop4 : LoopOK Tryd.prog G Tryd.f4.ntmps 0 [8, 11, 12, 13, 14, 16, 17, 65, 66, 67] b4 l4 := by
  intro ls K y hm h
  unfold l4 at h
  split at h
  case h_2 => cases h
  rename_i vs n' len i x w1 s w2 a w3 sm w4 la w5 w6 ws
  obtain ⟨hc, hr⟩ := Tr.of_br h
  simp only [Bool.and_eq_true, decide_eq_true_eq, prB_iff, distB_iff, Nat.beq_eq] at hc
  obtain ⟨⟨⟨⟨⟨⟨⟨⟨⟨⟨⟨⟨⟨⟨⟨⟨⟨hp, hx⟩, h1⟩, hn⟩, hle⟩, hv⟩, rfl⟩, rfl⟩, rfl⟩, rfl⟩, rfl⟩, rfl⟩, rfl⟩, rfl⟩, rfl⟩, rfl⟩, rfl⟩, rfl⟩ := hc
  have hle' : x ≤ Prof.cover s a vs.length := of_decide_eq_true hle
  generalize hN : vs.length = n at *
  subst hv
  have hs0 := Rat.le_of_lt hp.pos.1
  have hg := Goes.count (R := Rnd Tryd.prog G Tryd.f4.ntmps 0 [8, 11, 12, 13, 14, 16, 17, 65, 66, 67] b4)
    (fun i => st4 x s a (x / Prof.cover s a n * Prof.cov s a n i) (Prof.val (x / Prof.cover s a n) s a n i) (Prof.vals x s a n) (Prof.vals x s a n ++ [0]) (n + 1) (n + 1) i) (e := .exit 0)
    (ls' := st4 x s a (x / Prof.cover s a n * Prof.cov s a n (n + 1)) (Prof.val (x / Prof.cover s a n) s a n (n + 1)) (Prof.vals x s a n) (Prof.vals x s a n ++ [0]) (n + 1) (n + 1) ((n + 1 : Nat) : Int)) (by simp) (n + 1) 0
    (fun j _ hj => round_ok hG (orc4 hG) mix (L := []) (pol := pol4) (O := O4) (LpsOK.none (by kernel_rfl)) (Nat.zero_le _) (step4 x s a n j hp hx hn h1 hle' (by omega)))
    (by
      refine round_ok hG (orc4 hG) mix (L := []) (pol := pol4) (O := O4) (LpsOK.none (by kernel_rfl)) (Nat.zero_le _) ?_
      rw [Nat.zero_add, r4, Tr.run_f (decide_eq_false (by omega)), Tr.run_ok]
      rfl)
  have hne : Prof.cover s a n ≠ 0 := Rat.ne_of_gt (Prof.cover_pos hp.pos.1 hp.pos.2 h1)
  have e1 : x / Prof.cover s a n * Prof.cov s a n (n + 1) = x := by
    show x / Prof.cover s a n * (Prof.cov s a n n + Prof.cap s a n (n + 1)) = x
    rw [Prof.cap_end hs0, Rat.add_zero]
    exact Rat.div_mul_cancel hne
  have e2 : x / Prof.cover s a n * Prof.cov s a n 0 = 0 := by
    show x / Prof.cover s a n * 0 = 0
    rw [Rat.mul_zero]
  rw [e1, val_end hs0] at hg
  simp only [e2, val_zero hs0] at hg
  exact ⟨_, _, goes_ok hg, hr⟩
theorem e4 (x y z t : Int) : evF Tryd.prog O4 [(10, l4)] pol4 Tryd.f4 [.i .i64 x, .i .i64 y, .i .i64 z, .i .i64 t] [] retK =
  Tr.br
    (decide ((0 : Int) < (1 : Int)) && decide ((1 : Int) < (4611686018427387904 : Int)) &&
        decide ((-4611686018427387904 : Int) < (4 : Int)) &&
      decide ((4 : Int) < (4611686018427387904 : Int)))
    (Tr.br
      (decide ((0 : Int) < (1 : Int)) && decide ((1 : Int) < (4611686018427387904 : Int)) &&
          decide ((-4611686018427387904 : Int) < (2 : Int)) &&
        decide ((2 : Int) < (4611686018427387904 : Int)))
      (Tr.br
        (decide ((0 : Int) < (1 : Int)) && decide ((1 : Int) < (4611686018427387904 : Int)) &&
            decide ((-4611686018427387904 : Int) < (1 : Int)) &&
          decide ((1 : Int) < (4611686018427387904 : Int)))
        (Tr.br
          (prB (mkRat (2 : Int) (Int.toNat (1 : Int))) (mkRat (1 : Int) (Int.toNat (1 : Int))) &&
                distB (mkRat (4 : Int) (Int.toNat (1 : Int))) &&
              decide ((0 : Int) ≤ (0 : Int)) &&
            decide ((0 : Int) ≤ (50 : Int)))
          (Tr.br
            (late (mkRat (4 : Int) (Int.toNat (1 : Int))) (mkRat (2 : Int) (Int.toNat (1 : Int)))
              (mkRat (1 : Int) (Int.toNat (1 : Int))) (0 : Int))
            (Tr.br (!decide ((19 : Int) = (0 : Int))) (Tr.ok (Res.ret (PV.bl false) []))
              (Tr.br (!decide ((0 : Int) = (3 : Int))) (Tr.ok (Res.ret (PV.bl false) []))
                (Tr.br (decide ((0 : Int) < (40 : Int)) && decide ((40 : Int) ≤ (4294967296 : Int)))
                  (Tr.br
                    (decide ((0 : Int) < (4 : Int)) && decide ((4 : Int) < (4611686018427387904 : Int)) &&
                        decide ((-4611686018427387904 : Int) < x % (40 : Int)) &&
                      decide (x % (40 : Int) < (4611686018427387904 : Int)))
                    (Tr.br (decide ((0 : Int) < (12 : Int)) && decide ((12 : Int) ≤ (4294967296 : Int)))
                      (Tr.br
                        (decide ((-9223372036854775808 : Int) ≤ (1 : Int) + y % (12 : Int)) &&
                          decide ((1 : Int) + y % (12 : Int) ≤ (9223372036854775807 : Int)))
                        (Tr.br
                          (decide ((0 : Int) < (6 : Int)) && decide ((6 : Int) < (4611686018427387904 : Int)) &&
                              decide ((-4611686018427387904 : Int) < (1 : Int) + y % (12 : Int)) &&
                            decide ((1 : Int) + y % (12 : Int) < (4611686018427387904 : Int)))
                          (Tr.br (decide ((0 : Int) < (8 : Int)) && decide ((8 : Int) ≤ (4294967296 : Int)))
                            (Tr.br
                              (decide ((-9223372036854775808 : Int) ≤ (1 : Int) + z % (8 : Int)) &&
                                decide ((1 : Int) + z % (8 : Int) ≤ (9223372036854775807 : Int)))
                              (Tr.br
                                (decide ((0 : Int) < (8 : Int)) && decide ((8 : Int) < (4611686018427387904 : Int)) &&
                                    decide ((-4611686018427387904 : Int) < (1 : Int) + z % (8 : Int)) &&
                                  decide ((1 : Int) + z % (8 : Int) < (4611686018427387904 : Int)))
                                (Tr.br (decide ((0 : Int) < (51 : Int)) && decide ((51 : Int) ≤ (4294967296 : Int)))
                                  (Tr.br
                                    (prB (mkRat ((1 : Int) + y % (12 : Int)) (Int.toNat (6 : Int)))
                                            (mkRat ((1 : Int) + z % (8 : Int)) (Int.toNat (8 : Int))) &&
                                          distB (mkRat (x % (40 : Int)) (Int.toNat (4 : Int))) &&
                                        decide ((0 : Int) ≤ t % (51 : Int)) &&
                                      decide (t % (51 : Int) ≤ (50 : Int)))
                                    (Tr.br
                                      (late (mkRat (x % (40 : Int)) (Int.toNat (4 : Int)))
                                        (mkRat ((1 : Int) + y % (12 : Int)) (Int.toNat (6 : Int)))
                                        (mkRat ((1 : Int) + z % (8 : Int)) (Int.toNat (8 : Int))) (t % (51 : Int)))
                                      (Tr.br (!decide ((19 : Int) = (0 : Int)))
                                        (Tr.ok (Res.ret (PV.b (decide ((19 : Int) = (19 : Int)))) []))
                                        (Tr.br
                                          (decide ((0 : Int) < (1 : Int)) &&
                                                decide ((1 : Int) < (4611686018427387904 : Int)) &&
                                              decide ((-4611686018427387904 : Int) < (0 : Int)) &&
                                            decide ((0 : Int) < (4611686018427387904 : Int)))
                                          (Tr.br
                                            (decide ((0 : Int) < (1 : Int)) &&
                                                  decide ((1 : Int) < (4611686018427387904 : Int)) &&
                                                decide ((-4611686018427387904 : Int) < (0 : Int)) &&
                                              decide ((0 : Int) < (4611686018427387904 : Int)))
                                            (Tr.no (1)) (Tr.no (1)))
                                          (Tr.no (1))))
                                      (Tr.br
                                        (((0 : Nat) +
                                              (pf (mkRat (x % (40 : Int)) (Int.toNat (4 : Int)))
                                                  (mkRat ((1 : Int) + y % (12 : Int)) (Int.toNat (6 : Int)))
                                                  (mkRat ((1 : Int) + z % (8 : Int)) (Int.toNat (8 : Int)))
                                                  (t % (51 : Int))).length).ble
                                          (pf (mkRat (x % (40 : Int)) (Int.toNat (4 : Int)))
                                              (mkRat ((1 : Int) + y % (12 : Int)) (Int.toNat (6 : Int)))
                                              (mkRat ((1 : Int) + z % (8 : Int)) (Int.toNat (8 : Int)))
                                              (t % (51 : Int))).length)
                                        (Tr.br (!decide ((0 : Int) = (0 : Int)))
                                          (Tr.ok (Res.ret (PV.b (decide ((0 : Int) = (19 : Int)))) []))
                                          (Tr.br
                                            (decide ((0 : Int) < (1 : Int)) &&
                                                  decide ((1 : Int) < (4611686018427387904 : Int)) &&
                                                decide ((-4611686018427387904 : Int) < (0 : Int)) &&
                                              decide ((0 : Int) < (4611686018427387904 : Int)))
                                            (Tr.br
                                              (decide ((0 : Int) < (1 : Int)) &&
                                                    decide ((1 : Int) < (4611686018427387904 : Int)) &&
                                                  decide ((-4611686018427387904 : Int) < (0 : Int)) &&
                                                decide ((0 : Int) < (4611686018427387904 : Int)))
                                              (Tr.br
                                                (decide
                                                  ((List.take
                                                        (pf (mkRat (x % (40 : Int)) (Int.toNat (4 : Int)))
                                                            (mkRat ((1 : Int) + y % (12 : Int)) (Int.toNat (6 : Int)))
                                                            (mkRat ((1 : Int) + z % (8 : Int)) (Int.toNat (8 : Int)))
                                                            (t % (51 : Int))).length
                                                        (List.drop (0 : Nat)
                                                          (pf (mkRat (x % (40 : Int)) (Int.toNat (4 : Int)))
                                                            (mkRat ((1 : Int) + y % (12 : Int)) (Int.toNat (6 : Int)))
                                                            (mkRat ((1 : Int) + z % (8 : Int)) (Int.toNat (8 : Int)))
                                                            (t % (51 : Int))))).length ≤
                                                    (1073741824 : Nat)))
                                                (Tr.br
                                                  (decide ((0 : Int) < (1 : Int)) &&
                                                        decide ((1 : Int) < (4611686018427387904 : Int)) &&
                                                      decide ((-4611686018427387904 : Int) < (0 : Int)) &&
                                                    decide ((0 : Int) < (4611686018427387904 : Int)))
                                                  (Tr.br
                                                    ((List.take
                                                              (pf (mkRat (x % (40 : Int)) (Int.toNat (4 : Int)))
                                                                  (mkRat ((1 : Int) + y % (12 : Int))
                                                                    (Int.toNat (6 : Int)))
                                                                  (mkRat ((1 : Int) + z % (8 : Int))
                                                                    (Int.toNat (8 : Int)))
                                                                  (t % (51 : Int))).length
                                                              (List.drop (0 : Nat)
                                                                (pf (mkRat (x % (40 : Int)) (Int.toNat (4 : Int)))
                                                                  (mkRat ((1 : Int) + y % (12 : Int))
                                                                    (Int.toNat (6 : Int)))
                                                                  (mkRat ((1 : Int) + z % (8 : Int))
                                                                    (Int.toNat (8 : Int)))
                                                                  (t % (51 : Int))))).length.ble
                                                        (List.take
                                                            (pf (mkRat (x % (40 : Int)) (Int.toNat (4 : Int)))
                                                                (mkRat ((1 : Int) + y % (12 : Int)) (Int.toNat (6 : Int)))
                                                                (mkRat ((1 : Int) + z % (8 : Int)) (Int.toNat (8 : Int)))
                                                                (t % (51 : Int))).length
                                                            (List.drop (0 : Nat)
                                                              (pf (mkRat (x % (40 : Int)) (Int.toNat (4 : Int)))
                                                                (mkRat ((1 : Int) + y % (12 : Int)) (Int.toNat (6 : Int)))
                                                                (mkRat ((1 : Int) + z % (8 : Int)) (Int.toNat (8 : Int)))
                                                                (t % (51 : Int))))).length &&
                                                      ((List.take
                                                                (pf (mkRat (x % (40 : Int)) (Int.toNat (4 : Int)))
                                                                    (mkRat ((1 : Int) + y % (12 : Int))
                                                                      (Int.toNat (6 : Int)))
                                                                    (mkRat ((1 : Int) + z % (8 : Int))
                                                                      (Int.toNat (8 : Int)))
                                                                    (t % (51 : Int))).length
                                                                (List.drop (0 : Nat)
                                                                  (pf (mkRat (x % (40 : Int)) (Int.toNat (4 : Int)))
                                                                    (mkRat ((1 : Int) + y % (12 : Int))
                                                                      (Int.toNat (6 : Int)))
                                                                    (mkRat ((1 : Int) + z % (8 : Int))
                                                                      (Int.toNat (8 : Int)))
                                                                    (t % (51 : Int))))).length +
                                                            [mkRat (0 : Int) (Int.toNat (1 : Int))].length).ble
                                                        (4294967296 : Nat))
                                                    (Tr.br
                                                      (prB (mkRat ((1 : Int) + y % (12 : Int)) (Int.toNat (6 : Int)))
                                                                                          (mkRat
                                                                                            ((1 : Int) + z % (8 : Int))
                                                                                            (Int.toNat (8 : Int))) &&
                                                                                        distB
                                                                                          (mkRat (x % (40 : Int))
                                                                                            (Int.toNat (4 : Int))) &&
                                                                                      decide
                                                                                        ((1 : Nat) ≤
                                                                                          (List.take
                                                                                              (pf
                                                                                                  (mkRat (x % (40 : Int))
                                                                                                    (Int.toNat (4 : Int)))
                                                                                                  (mkRat
                                                                                                    ((1 : Int) +
                                                                                                      y % (12 : Int))
                                                                                                    (Int.toNat (6 : Int)))
                                                                                                  (mkRat
                                                                                                    ((1 : Int) +
                                                                                                      z % (8 : Int))
                                                                                                    (Int.toNat (8 : Int)))
                                                                                                  (t % (51 : Int))).length
                                                                                              (List.drop (0 : Nat)
                                                                                                (pf
                                                                                                  (mkRat (x % (40 : Int))
                                                                                                    (Int.toNat (4 : Int)))
                                                                                                  (mkRat
                                                                                                    ((1 : Int) +
                                                                                                      y % (12 : Int))
                                                                                                    (Int.toNat (6 : Int)))
                                                                                                  (mkRat
                                                                                                    ((1 : Int) +
                                                                                                      z % (8 : Int))
                                                                                                    (Int.toNat (8 : Int)))
                                                                                                  (t %
                                                                                                    (51 :
                                                                                                      Int))))).length) &&
                                                                                    decide
                                                                                      ((List.take
                                                                                            (pf
                                                                                                (mkRat (x % (40 : Int))
                                                                                                  (Int.toNat (4 : Int)))
                                                                                                (mkRat
                                                                                                  ((1 : Int) +
                                                                                                    y % (12 : Int))
                                                                                                  (Int.toNat (6 : Int)))
                                                                                                (mkRat
                                                                                                  ((1 : Int) +
                                                                                                    z % (8 : Int))
                                                                                                  (Int.toNat (8 : Int)))
                                                                                                (t % (51 : Int))).length
                                                                                            (List.drop (0 : Nat)
                                                                                              (pf
                                                                                                (mkRat (x % (40 : Int))
                                                                                                  (Int.toNat (4 : Int)))
                                                                                                (mkRat
                                                                                                  ((1 : Int) +
                                                                                                    y % (12 : Int))
                                                                                                  (Int.toNat (6 : Int)))
                                                                                                (mkRat
                                                                                                  ((1 : Int) +
                                                                                                    z % (8 : Int))
                                                                                                  (Int.toNat (8 : Int)))
                                                                                                (t %
                                                                                                  (51 : Int))))).length ≤
                                                                                        (50 : Nat)) &&
                                                                                  leB
                                                                                    (mkRat (x % (40 : Int))
                                                                                      (Int.toNat (4 : Int)))
                                                                                    (Prof.cover
                                                                                      (mkRat ((1 : Int) + y % (12 : Int))
                                                                                        (Int.toNat (6 : Int)))
                                                                                      (mkRat ((1 : Int) + z % (8 : Int))
                                                                                        (Int.toNat (8 : Int)))
                                                                                      (List.take
                                                                                          (pf
                                                                                              (mkRat (x % (40 : Int))
                                                                                                (Int.toNat (4 : Int)))
                                                                                              (mkRat
                                                                                                ((1 : Int) +
                                                                                                  y % (12 : Int))
                                                                                                (Int.toNat (6 : Int)))
                                                                                              (mkRat
                                                                                                ((1 : Int) +
                                                                                                  z % (8 : Int))
                                                                                                (Int.toNat (8 : Int)))
                                                                                              (t % (51 : Int))).length
                                                                                          (List.drop (0 : Nat)
                                                                                            (pf
                                                                                              (mkRat (x % (40 : Int))
                                                                                                (Int.toNat (4 : Int)))
                                                                                              (mkRat
                                                                                                ((1 : Int) +
                                                                                                  y % (12 : Int))
                                                                                                (Int.toNat (6 : Int)))
                                                                                              (mkRat
                                                                                                ((1 : Int) +
                                                                                                  z % (8 : Int))
                                                                                                (Int.toNat (8 : Int)))
                                                                                              (t %
                                                                                                (51 : Int))))).length) &&
                                                                                decide
                                                                                  (List.take
                                                                                      (pf
                                                                                          (mkRat (x % (40 : Int))
                                                                                            (Int.toNat (4 : Int)))
                                                                                          (mkRat
                                                                                            ((1 : Int) + y % (12 : Int))
                                                                                            (Int.toNat (6 : Int)))
                                                                                          (mkRat
                                                                                            ((1 : Int) + z % (8 : Int))
                                                                                            (Int.toNat (8 : Int)))
                                                                                          (t % (51 : Int))).length
                                                                                      (List.drop (0 : Nat)
                                                                                        (pf
                                                                                          (mkRat (x % (40 : Int))
                                                                                            (Int.toNat (4 : Int)))
                                                                                          (mkRat
                                                                                            ((1 : Int) + y % (12 : Int))
                                                                                            (Int.toNat (6 : Int)))
                                                                                          (mkRat
                                                                                            ((1 : Int) + z % (8 : Int))
                                                                                            (Int.toNat (8 : Int)))
                                                                                          (t % (51 : Int)))) =
                                                                                    Prof.vals
                                                                                      (mkRat (x % (40 : Int))
                                                                                        (Int.toNat (4 : Int)))
                                                                                      (mkRat ((1 : Int) + y % (12 : Int))
                                                                                        (Int.toNat (6 : Int)))
                                                                                      (mkRat ((1 : Int) + z % (8 : Int))
                                                                                        (Int.toNat (8 : Int)))
                                                                                      (List.take
                                                                                          (pf
                                                                                              (mkRat (x % (40 : Int))
                                                                                                (Int.toNat (4 : Int)))
                                                                                              (mkRat
                                                                                                ((1 : Int) +
                                                                                                  y % (12 : Int))
                                                                                                (Int.toNat (6 : Int)))
                                                                                              (mkRat
                                                                                                ((1 : Int) +
                                                                                                  z % (8 : Int))
                                                                                                (Int.toNat (8 : Int)))
                                                                                              (t % (51 : Int))).length
                                                                                          (List.drop (0 : Nat)
                                                                                            (pf
                                                                                              (mkRat (x % (40 : Int))
                                                                                                (Int.toNat (4 : Int)))
                                                                                              (mkRat
                                                                                                ((1 : Int) +
                                                                                                  y % (12 : Int))
                                                                                                (Int.toNat (6 : Int)))
                                                                                              (mkRat
                                                                                                ((1 : Int) +
                                                                                                  z % (8 : Int))
                                                                                                (Int.toNat (8 : Int)))
                                                                                              (t %
                                                                                                (51 : Int))))).length) &&
                                                                              decide
                                                                                (List.take
                                                                                      (List.take
                                                                                          (pf
                                                                                              (mkRat (x % (40 : Int))
                                                                                                (Int.toNat (4 : Int)))
                                                                                              (mkRat
                                                                                                ((1 : Int) +
                                                                                                  y % (12 : Int))
                                                                                                (Int.toNat (6 : Int)))
                                                                                              (mkRat
                                                                                                ((1 : Int) +
                                                                                                  z % (8 : Int))
                                                                                                (Int.toNat (8 : Int)))
                                                                                              (t % (51 : Int))).length
                                                                                          (List.drop (0 : Nat)
                                                                                            (pf
                                                                                              (mkRat (x % (40 : Int))
                                                                                                (Int.toNat (4 : Int)))
                                                                                              (mkRat
                                                                                                ((1 : Int) +
                                                                                                  y % (12 : Int))
                                                                                                (Int.toNat (6 : Int)))
                                                                                              (mkRat
                                                                                                ((1 : Int) +
                                                                                                  z % (8 : Int))
                                                                                                (Int.toNat (8 : Int)))
                                                                                              (t % (51 : Int))))).length
                                                                                      (List.drop (0 : Nat)
                                                                                        (List.take
                                                                                          (pf
                                                                                              (mkRat (x % (40 : Int))
                                                                                                (Int.toNat (4 : Int)))
                                                                                              (mkRat
                                                                                                ((1 : Int) +
                                                                                                  y % (12 : Int))
                                                                                                (Int.toNat (6 : Int)))
                                                                                              (mkRat
                                                                                                ((1 : Int) +
                                                                                                  z % (8 : Int))
                                                                                                (Int.toNat (8 : Int)))
                                                                                              (t % (51 : Int))).length
                                                                                          (List.drop (0 : Nat)
                                                                                            (pf
                                                                                              (mkRat (x % (40 : Int))
                                                                                                (Int.toNat (4 : Int)))
                                                                                              (mkRat
                                                                                                ((1 : Int) +
                                                                                                  y % (12 : Int))
                                                                                                (Int.toNat (6 : Int)))
                                                                                              (mkRat
                                                                                                ((1 : Int) +
                                                                                                  z % (8 : Int))
                                                                                                (Int.toNat (8 : Int)))
                                                                                              (t % (51 : Int)))))) ++
                                                                                    [mkRat (0 : Int)
                                                                                        (Int.toNat (1 : Int))] =
                                                                                  List.take
                                                                                      (pf
                                                                                          (mkRat (x % (40 : Int))
                                                                                            (Int.toNat (4 : Int)))
                                                                                          (mkRat
                                                                                            ((1 : Int) + y % (12 : Int))
                                                                                            (Int.toNat (6 : Int)))
                                                                                          (mkRat
                                                                                            ((1 : Int) + z % (8 : Int))
                                                                                            (Int.toNat (8 : Int)))
                                                                                          (t % (51 : Int))).length
                                                                                      (List.drop (0 : Nat)
                                                                                        (pf
                                                                                          (mkRat (x % (40 : Int))
                                                                                            (Int.toNat (4 : Int)))
                                                                                          (mkRat
                                                                                            ((1 : Int) + y % (12 : Int))
                                                                                            (Int.toNat (6 : Int)))
                                                                                          (mkRat
                                                                                            ((1 : Int) + z % (8 : Int))
                                                                                            (Int.toNat (8 : Int)))
                                                                                          (t % (51 : Int)))) ++
                                                                                    [(0 : Rat)]) &&
                                                                            decide
                                                                              (mkRat (0 : Int) (Int.toNat (1 : Int)) =
                                                                                (0 : Rat)) &&
                                                                          decide
                                                                            (mkRat (0 : Int) (Int.toNat (1 : Int)) =
                                                                              (0 : Rat)) &&
                                                                        decide ((0 : Int) = (0 : Int)) &&
                                                                      decide
                                                                        ((↑((List.take
                                                                                    (pf
                                                                                        (mkRat (x % (40 : Int))
                                                                                          (Int.toNat (4 : Int)))
                                                                                        (mkRat
                                                                                          ((1 : Int) + y % (12 : Int))
                                                                                          (Int.toNat (6 : Int)))
                                                                                        (mkRat ((1 : Int) + z % (8 : Int))
                                                                                          (Int.toNat (8 : Int)))
                                                                                        (t % (51 : Int))).length
                                                                                    (List.drop (0 : Nat)
                                                                                      (pf
                                                                                        (mkRat (x % (40 : Int))
                                                                                          (Int.toNat (4 : Int)))
                                                                                        (mkRat
                                                                                          ((1 : Int) + y % (12 : Int))
                                                                                          (Int.toNat (6 : Int)))
                                                                                        (mkRat ((1 : Int) + z % (8 : Int))
                                                                                          (Int.toNat (8 : Int)))
                                                                                        (t % (51 : Int))))).length +
                                                                                [mkRat (0 : Int)
                                                                                      (Int.toNat (1 : Int))].length) :
                                                                            Int) =
                                                                          (↑(List.take
                                                                                    (pf
                                                                                        (mkRat (x % (40 : Int))
                                                                                          (Int.toNat (4 : Int)))
                                                                                        (mkRat
                                                                                          ((1 : Int) + y % (12 : Int))
                                                                                          (Int.toNat (6 : Int)))
                                                                                        (mkRat ((1 : Int) + z % (8 : Int))
                                                                                          (Int.toNat (8 : Int)))
                                                                                        (t % (51 : Int))).length
                                                                                    (List.drop (0 : Nat)
                                                                                      (pf
                                                                                        (mkRat (x % (40 : Int))
                                                                                          (Int.toNat (4 : Int)))
                                                                                        (mkRat
                                                                                          ((1 : Int) + y % (12 : Int))
                                                                                          (Int.toNat (6 : Int)))
                                                                                        (mkRat ((1 : Int) + z % (8 : Int))
                                                                                          (Int.toNat (8 : Int)))
                                                                                        (t % (51 : Int))))).length :
                                                                              Int) +
                                                                            (1 : Int)) &&
                                                                    decide
                                                                      ((List.take
                                                                              (pf
                                                                                  (mkRat (x % (40 : Int))
                                                                                    (Int.toNat (4 : Int)))
                                                                                  (mkRat ((1 : Int) + y % (12 : Int))
                                                                                    (Int.toNat (6 : Int)))
                                                                                  (mkRat ((1 : Int) + z % (8 : Int))
                                                                                    (Int.toNat (8 : Int)))
                                                                                  (t % (51 : Int))).length
                                                                              (List.drop (0 : Nat)
                                                                                (pf
                                                                                  (mkRat (x % (40 : Int))
                                                                                    (Int.toNat (4 : Int)))
                                                                                  (mkRat ((1 : Int) + y % (12 : Int))
                                                                                    (Int.toNat (6 : Int)))
                                                                                  (mkRat ((1 : Int) + z % (8 : Int))
                                                                                    (Int.toNat (8 : Int)))
                                                                                  (t % (51 : Int))))).length +
                                                                          [mkRat (0 : Int) (Int.toNat (1 : Int))].length =
                                                                        (List.take
                                                                              (pf
                                                                                  (mkRat (x % (40 : Int))
                                                                                    (Int.toNat (4 : Int)))
                                                                                  (mkRat ((1 : Int) + y % (12 : Int))
                                                                                    (Int.toNat (6 : Int)))
                                                                                  (mkRat ((1 : Int) + z % (8 : Int))
                                                                                    (Int.toNat (8 : Int)))
                                                                                  (t % (51 : Int))).length
                                                                              (List.drop (0 : Nat)
                                                                                (pf
                                                                                  (mkRat (x % (40 : Int))
                                                                                    (Int.toNat (4 : Int)))
                                                                                  (mkRat ((1 : Int) + y % (12 : Int))
                                                                                    (Int.toNat (6 : Int)))
                                                                                  (mkRat ((1 : Int) + z % (8 : Int))
                                                                                    (Int.toNat (8 : Int)))
                                                                                  (t % (51 : Int))))).length +
                                                                          (1 : Nat)) &&
                                                                  Nat.beq (64 : Nat) (64 : Nat) &&
                                                                Nat.beq (64 : Nat) (64 : Nat) &&
                                                              Nat.beq (64 : Nat) (64 : Nat) &&
                                                            Nat.beq (64 : Nat) (64 : Nat) &&
                                                          Nat.beq (64 : Nat) (64 : Nat) &&
                                                        (Nat.max (64 : Nat) (Nat.max (64 : Nat) (0 : Nat))).beq
                                                          (64 : Nat))
                                                      (Tr.br
                                                        (decide
                                                          ((List.take
                                                                (pf (mkRat (x % (40 : Int)) (Int.toNat (4 : Int)))
                                                                    (mkRat ((1 : Int) + y % (12 : Int))
                                                                      (Int.toNat (6 : Int)))
                                                                    (mkRat ((1 : Int) + z % (8 : Int))
                                                                      (Int.toNat (8 : Int)))
                                                                    (t % (51 : Int))).length
                                                                (List.drop (0 : Nat)
                                                                  (pf (mkRat (x % (40 : Int)) (Int.toNat (4 : Int)))
                                                                    (mkRat ((1 : Int) + y % (12 : Int))
                                                                      (Int.toNat (6 : Int)))
                                                                    (mkRat ((1 : Int) + z % (8 : Int))
                                                                      (Int.toNat (8 : Int)))
                                                                    (t % (51 : Int))))).length ≤
                                                            (1073741824 : Nat)))
                                                        (Tr.br
                                                          (decide
                                                              ((List.take
                                                                    (pf (mkRat (x % (40 : Int)) (Int.toNat (4 : Int)))
                                                                        (mkRat ((1 : Int) + y % (12 : Int))
                                                                          (Int.toNat (6 : Int)))
                                                                        (mkRat ((1 : Int) + z % (8 : Int))
                                                                          (Int.toNat (8 : Int)))
                                                                        (t % (51 : Int))).length
                                                                    (List.drop (0 : Nat)
                                                                      (pf (mkRat (x % (40 : Int)) (Int.toNat (4 : Int)))
                                                                        (mkRat ((1 : Int) + y % (12 : Int))
                                                                          (Int.toNat (6 : Int)))
                                                                        (mkRat ((1 : Int) + z % (8 : Int))
                                                                          (Int.toNat (8 : Int)))
                                                                        (t % (51 : Int))))).length =
                                                                (List.take
                                                                    (pf (mkRat (x % (40 : Int)) (Int.toNat (4 : Int)))
                                                                        (mkRat ((1 : Int) + y % (12 : Int))
                                                                          (Int.toNat (6 : Int)))
                                                                        (mkRat ((1 : Int) + z % (8 : Int))
                                                                          (Int.toNat (8 : Int)))
                                                                        (t % (51 : Int))).length
                                                                    (List.drop (0 : Nat)
                                                                      (pf (mkRat (x % (40 : Int)) (Int.toNat (4 : Int)))
                                                                        (mkRat ((1 : Int) + y % (12 : Int))
                                                                          (Int.toNat (6 : Int)))
                                                                        (mkRat ((1 : Int) + z % (8 : Int))
                                                                          (Int.toNat (8 : Int)))
                                                                        (t % (51 : Int))))).length) &&
                                                            decide
                                                              ((List.take
                                                                    (pf (mkRat (x % (40 : Int)) (Int.toNat (4 : Int)))
                                                                        (mkRat ((1 : Int) + y % (12 : Int))
                                                                          (Int.toNat (6 : Int)))
                                                                        (mkRat ((1 : Int) + z % (8 : Int))
                                                                          (Int.toNat (8 : Int)))
                                                                        (t % (51 : Int))).length
                                                                    (List.drop (0 : Nat)
                                                                      (pf (mkRat (x % (40 : Int)) (Int.toNat (4 : Int)))
                                                                        (mkRat ((1 : Int) + y % (12 : Int))
                                                                          (Int.toNat (6 : Int)))
                                                                        (mkRat ((1 : Int) + z % (8 : Int))
                                                                          (Int.toNat (8 : Int)))
                                                                        (t % (51 : Int))))).length ≤
                                                                (1073741824 : Nat)))
                                                          (Tr.br
                                                            (s32 (mkRat (x % (40 : Int)) (Int.toNat (4 : Int))) &&
                                                              s32 (mkRat (x % (40 : Int)) (Int.toNat (4 : Int))))
                                                            (Tr.br
                                                              (decide
                                                                (rcmp (mkRat (x % (40 : Int)) (Int.toNat (4 : Int)))
                                                                    (mkRat (x % (40 : Int)) (Int.toNat (4 : Int))) =
                                                                  (0 : Int)))
                                                              (Tr.br
                                                                (((0 : Nat) +
                                                                      (List.take
                                                                          (pf
                                                                              (mkRat (x % (40 : Int))
                                                                                (Int.toNat (4 : Int)))
                                                                              (mkRat ((1 : Int) + y % (12 : Int))
                                                                                (Int.toNat (6 : Int)))
                                                                              (mkRat ((1 : Int) + z % (8 : Int))
                                                                                (Int.toNat (8 : Int)))
                                                                              (t % (51 : Int))).length
                                                                          (List.drop (0 : Nat)
                                                                            (pf
                                                                              (mkRat (x % (40 : Int))
                                                                                (Int.toNat (4 : Int)))
                                                                              (mkRat ((1 : Int) + y % (12 : Int))
                                                                                (Int.toNat (6 : Int)))
                                                                              (mkRat ((1 : Int) + z % (8 : Int))
                                                                                (Int.toNat (8 : Int)))
                                                                              (t % (51 : Int))))).length).ble
                                                                  (List.take
                                                                        (pf (mkRat (x % (40 : Int)) (Int.toNat (4 : Int)))
                                                                            (mkRat ((1 : Int) + y % (12 : Int))
                                                                              (Int.toNat (6 : Int)))
                                                                            (mkRat ((1 : Int) + z % (8 : Int))
                                                                              (Int.toNat (8 : Int)))
                                                                            (t % (51 : Int))).length
                                                                        (List.drop (0 : Nat)
                                                                          (pf
                                                                            (mkRat (x % (40 : Int)) (Int.toNat (4 : Int)))
                                                                            (mkRat ((1 : Int) + y % (12 : Int))
                                                                              (Int.toNat (6 : Int)))
                                                                            (mkRat ((1 : Int) + z % (8 : Int))
                                                                              (Int.toNat (8 : Int)))
                                                                            (t % (51 : Int))))).reverse.length)
                                                                (Tr.br
                                                                  (decide
                                                                    ((List.take
                                                                          (List.take
                                                                              (pf
                                                                                  (mkRat (x % (40 : Int))
                                                                                    (Int.toNat (4 : Int)))
                                                                                  (mkRat ((1 : Int) + y % (12 : Int))
                                                                                    (Int.toNat (6 : Int)))
                                                                                  (mkRat ((1 : Int) + z % (8 : Int))
                                                                                    (Int.toNat (8 : Int)))
                                                                                  (t % (51 : Int))).length
                                                                              (List.drop (0 : Nat)
                                                                                (pf
                                                                                  (mkRat (x % (40 : Int))
                                                                                    (Int.toNat (4 : Int)))
                                                                                  (mkRat ((1 : Int) + y % (12 : Int))
                                                                                    (Int.toNat (6 : Int)))
                                                                                  (mkRat ((1 : Int) + z % (8 : Int))
                                                                                    (Int.toNat (8 : Int)))
                                                                                  (t % (51 : Int))))).length
                                                                          (List.drop (0 : Nat)
                                                                            (List.take
                                                                                (pf
                                                                                    (mkRat (x % (40 : Int))
                                                                                      (Int.toNat (4 : Int)))
                                                                                    (mkRat ((1 : Int) + y % (12 : Int))
                                                                                      (Int.toNat (6 : Int)))
                                                                                    (mkRat ((1 : Int) + z % (8 : Int))
                                                                                      (Int.toNat (8 : Int)))
                                                                                    (t % (51 : Int))).length
                                                                                (List.drop (0 : Nat)
                                                                                  (pf
                                                                                    (mkRat (x % (40 : Int))
                                                                                      (Int.toNat (4 : Int)))
                                                                                    (mkRat ((1 : Int) + y % (12 : Int))
                                                                                      (Int.toNat (6 : Int)))
                                                                                    (mkRat ((1 : Int) + z % (8 : Int))
                                                                                      (Int.toNat (8 : Int)))
                                                                                    (t % (51 : Int))))).reverse)).length ≤
                                                                      (1073741824 : Nat)))
                                                                  (Tr.br
                                                                    (decide
                                                                      (List.take
                                                                          (List.take
                                                                              (pf
                                                                                  (mkRat (x % (40 : Int))
                                                                                    (Int.toNat (4 : Int)))
                                                                                  (mkRat ((1 : Int) + y % (12 : Int))
                                                                                    (Int.toNat (6 : Int)))
                                                                                  (mkRat ((1 : Int) + z % (8 : Int))
                                                                                    (Int.toNat (8 : Int)))
                                                                                  (t % (51 : Int))).length
                                                                              (List.drop (0 : Nat)
                                                                                (pf
                                                                                  (mkRat (x % (40 : Int))
                                                                                    (Int.toNat (4 : Int)))
                                                                                  (mkRat ((1 : Int) + y % (12 : Int))
                                                                                    (Int.toNat (6 : Int)))
                                                                                  (mkRat ((1 : Int) + z % (8 : Int))
                                                                                    (Int.toNat (8 : Int)))
                                                                                  (t % (51 : Int))))).length
                                                                          (List.drop (0 : Nat)
                                                                            (List.take
                                                                                (pf
                                                                                    (mkRat (x % (40 : Int))
                                                                                      (Int.toNat (4 : Int)))
                                                                                    (mkRat ((1 : Int) + y % (12 : Int))
                                                                                      (Int.toNat (6 : Int)))
                                                                                    (mkRat ((1 : Int) + z % (8 : Int))
                                                                                      (Int.toNat (8 : Int)))
                                                                                    (t % (51 : Int))).length
                                                                                (List.drop (0 : Nat)
                                                                                  (pf
                                                                                    (mkRat (x % (40 : Int))
                                                                                      (Int.toNat (4 : Int)))
                                                                                    (mkRat ((1 : Int) + y % (12 : Int))
                                                                                      (Int.toNat (6 : Int)))
                                                                                    (mkRat ((1 : Int) + z % (8 : Int))
                                                                                      (Int.toNat (8 : Int)))
                                                                                    (t % (51 : Int))))).reverse) =
                                                                        List.take
                                                                          (pf
                                                                              (mkRat (x % (40 : Int))
                                                                                (Int.toNat (4 : Int)))
                                                                              (mkRat ((1 : Int) + y % (12 : Int))
                                                                                (Int.toNat (6 : Int)))
                                                                              (mkRat ((1 : Int) + z % (8 : Int))
                                                                                (Int.toNat (8 : Int)))
                                                                              (t % (51 : Int))).length
                                                                          (List.drop (0 : Nat)
                                                                            (pf
                                                                              (mkRat (x % (40 : Int))
                                                                                (Int.toNat (4 : Int)))
                                                                              (mkRat ((1 : Int) + y % (12 : Int))
                                                                                (Int.toNat (6 : Int)))
                                                                              (mkRat ((1 : Int) + z % (8 : Int))
                                                                                (Int.toNat (8 : Int)))
                                                                              (t % (51 : Int))))))
                                                                    (Tr.ok (Res.ret (PV.bl true) []))
                                                                    (Tr.ok (Res.ret (PV.bl false) [])))
                                                                  (Tr.no (1)))
                                                                (Tr.no (19003)))
                                                              (Tr.ok (Res.ret (PV.bl false) [])))
                                                            (Tr.no (1)))
                                                          (Tr.no (1)))
                                                        (Tr.no (1)))
                                                      (Tr.no (1)))
                                                    (Tr.no (10003)))
                                                  (Tr.no (1)))
                                                (Tr.no (1)))
                                              (Tr.no (1)))
                                            (Tr.no (1))))
                                        (Tr.no (6006))))
                                    (Tr.no (1)))
                                  (Tr.no (1)))
                                (Tr.no (1)))
                              (Tr.no (5008)))
                            (Tr.no (1)))
                          (Tr.no (1)))
                        (Tr.no (5012)))
                      (Tr.no (1)))
                    (Tr.no (1)))
                  (Tr.no (1)))))
            (Tr.br
              (((0 : Nat) +
                    [Prof.val
                          (mkRat (4 : Int) (Int.toNat (1 : Int)) /
                            Prof.cover (mkRat (2 : Int) (Int.toNat (1 : Int))) (mkRat (1 : Int) (Int.toNat (1 : Int)))
                              (tks (mkRat (4 : Int) (Int.toNat (1 : Int))) (mkRat (2 : Int) (Int.toNat (1 : Int)))
                                (mkRat (1 : Int) (Int.toNat (1 : Int))) (0 : Int)))
                          (mkRat (2 : Int) (Int.toNat (1 : Int))) (mkRat (1 : Int) (Int.toNat (1 : Int)))
                          (tks (mkRat (4 : Int) (Int.toNat (1 : Int))) (mkRat (2 : Int) (Int.toNat (1 : Int)))
                            (mkRat (1 : Int) (Int.toNat (1 : Int))) (0 : Int))
                          (0 + (1 : Nat)),
                        Prof.val
                          (mkRat (4 : Int) (Int.toNat (1 : Int)) /
                            Prof.cover (mkRat (2 : Int) (Int.toNat (1 : Int))) (mkRat (1 : Int) (Int.toNat (1 : Int)))
                              (tks (mkRat (4 : Int) (Int.toNat (1 : Int))) (mkRat (2 : Int) (Int.toNat (1 : Int)))
                                (mkRat (1 : Int) (Int.toNat (1 : Int))) (0 : Int)))
                          (mkRat (2 : Int) (Int.toNat (1 : Int))) (mkRat (1 : Int) (Int.toNat (1 : Int)))
                          (tks (mkRat (4 : Int) (Int.toNat (1 : Int))) (mkRat (2 : Int) (Int.toNat (1 : Int)))
                            (mkRat (1 : Int) (Int.toNat (1 : Int))) (0 : Int))
                          (1 + (1 : Nat)),
                        Prof.val
                          (mkRat (4 : Int) (Int.toNat (1 : Int)) /
                            Prof.cover (mkRat (2 : Int) (Int.toNat (1 : Int))) (mkRat (1 : Int) (Int.toNat (1 : Int)))
                              (tks (mkRat (4 : Int) (Int.toNat (1 : Int))) (mkRat (2 : Int) (Int.toNat (1 : Int)))
                                (mkRat (1 : Int) (Int.toNat (1 : Int))) (0 : Int)))
                          (mkRat (2 : Int) (Int.toNat (1 : Int))) (mkRat (1 : Int) (Int.toNat (1 : Int)))
                          (tks (mkRat (4 : Int) (Int.toNat (1 : Int))) (mkRat (2 : Int) (Int.toNat (1 : Int)))
                            (mkRat (1 : Int) (Int.toNat (1 : Int))) (0 : Int))
                          (2 + (1 : Nat))].length).ble
                [Prof.val
                      (mkRat (4 : Int) (Int.toNat (1 : Int)) /
                        Prof.cover (mkRat (2 : Int) (Int.toNat (1 : Int))) (mkRat (1 : Int) (Int.toNat (1 : Int)))
                          (tks (mkRat (4 : Int) (Int.toNat (1 : Int))) (mkRat (2 : Int) (Int.toNat (1 : Int)))
                            (mkRat (1 : Int) (Int.toNat (1 : Int))) (0 : Int)))
                      (mkRat (2 : Int) (Int.toNat (1 : Int))) (mkRat (1 : Int) (Int.toNat (1 : Int)))
                      (tks (mkRat (4 : Int) (Int.toNat (1 : Int))) (mkRat (2 : Int) (Int.toNat (1 : Int)))
                        (mkRat (1 : Int) (Int.toNat (1 : Int))) (0 : Int))
                      (0 + (1 : Nat)),
                    Prof.val
                      (mkRat (4 : Int) (Int.toNat (1 : Int)) /
                        Prof.cover (mkRat (2 : Int) (Int.toNat (1 : Int))) (mkRat (1 : Int) (Int.toNat (1 : Int)))
                          (tks (mkRat (4 : Int) (Int.toNat (1 : Int))) (mkRat (2 : Int) (Int.toNat (1 : Int)))
                            (mkRat (1 : Int) (Int.toNat (1 : Int))) (0 : Int)))
                      (mkRat (2 : Int) (Int.toNat (1 : Int))) (mkRat (1 : Int) (Int.toNat (1 : Int)))
                      (tks (mkRat (4 : Int) (Int.toNat (1 : Int))) (mkRat (2 : Int) (Int.toNat (1 : Int)))
                        (mkRat (1 : Int) (Int.toNat (1 : Int))) (0 : Int))
                      (1 + (1 : Nat)),
                    Prof.val
                      (mkRat (4 : Int) (Int.toNat (1 : Int)) /
                        Prof.cover (mkRat (2 : Int) (Int.toNat (1 : Int))) (mkRat (1 : Int) (Int.toNat (1 : Int)))
                          (tks (mkRat (4 : Int) (Int.toNat (1 : Int))) (mkRat (2 : Int) (Int.toNat (1 : Int)))
                            (mkRat (1 : Int) (Int.toNat (1 : Int))) (0 : Int)))
                      (mkRat (2 : Int) (Int.toNat (1 : Int))) (mkRat (1 : Int) (Int.toNat (1 : Int)))
                      (tks (mkRat (4 : Int) (Int.toNat (1 : Int))) (mkRat (2 : Int) (Int.toNat (1 : Int)))
                        (mkRat (1 : Int) (Int.toNat (1 : Int))) (0 : Int))
                      (2 + (1 : Nat))].length)
              (Tr.br (!decide ((0 : Int) = (0 : Int))) (Tr.ok (Res.ret (PV.bl false) []))
                (Tr.br
                  (!decide
                      ((↑[Prof.val
                                  (mkRat (4 : Int) (Int.toNat (1 : Int)) /
                                    Prof.cover (mkRat (2 : Int) (Int.toNat (1 : Int)))
                                      (mkRat (1 : Int) (Int.toNat (1 : Int)))
                                      (tks (mkRat (4 : Int) (Int.toNat (1 : Int))) (mkRat (2 : Int) (Int.toNat (1 : Int)))
                                        (mkRat (1 : Int) (Int.toNat (1 : Int))) (0 : Int)))
                                  (mkRat (2 : Int) (Int.toNat (1 : Int))) (mkRat (1 : Int) (Int.toNat (1 : Int)))
                                  (tks (mkRat (4 : Int) (Int.toNat (1 : Int))) (mkRat (2 : Int) (Int.toNat (1 : Int)))
                                    (mkRat (1 : Int) (Int.toNat (1 : Int))) (0 : Int))
                                  (0 + (1 : Nat)),
                                Prof.val
                                  (mkRat (4 : Int) (Int.toNat (1 : Int)) /
                                    Prof.cover (mkRat (2 : Int) (Int.toNat (1 : Int)))
                                      (mkRat (1 : Int) (Int.toNat (1 : Int)))
                                      (tks (mkRat (4 : Int) (Int.toNat (1 : Int))) (mkRat (2 : Int) (Int.toNat (1 : Int)))
                                        (mkRat (1 : Int) (Int.toNat (1 : Int))) (0 : Int)))
                                  (mkRat (2 : Int) (Int.toNat (1 : Int))) (mkRat (1 : Int) (Int.toNat (1 : Int)))
                                  (tks (mkRat (4 : Int) (Int.toNat (1 : Int))) (mkRat (2 : Int) (Int.toNat (1 : Int)))
                                    (mkRat (1 : Int) (Int.toNat (1 : Int))) (0 : Int))
                                  (1 + (1 : Nat)),
                                Prof.val
                                  (mkRat (4 : Int) (Int.toNat (1 : Int)) /
                                    Prof.cover (mkRat (2 : Int) (Int.toNat (1 : Int)))
                                      (mkRat (1 : Int) (Int.toNat (1 : Int)))
                                      (tks (mkRat (4 : Int) (Int.toNat (1 : Int))) (mkRat (2 : Int) (Int.toNat (1 : Int)))
                                        (mkRat (1 : Int) (Int.toNat (1 : Int))) (0 : Int)))
                                  (mkRat (2 : Int) (Int.toNat (1 : Int))) (mkRat (1 : Int) (Int.toNat (1 : Int)))
                                  (tks (mkRat (4 : Int) (Int.toNat (1 : Int))) (mkRat (2 : Int) (Int.toNat (1 : Int)))
                                    (mkRat (1 : Int) (Int.toNat (1 : Int))) (0 : Int))
                                  (2 + (1 : Nat))].length :
                          Int) =
                        (3 : Int)))
                  (Tr.ok (Res.ret (PV.bl false) []))
                  (Tr.br (decide ((0 : Int) < (40 : Int)) && decide ((40 : Int) ≤ (4294967296 : Int)))
                    (Tr.br
                      (decide ((0 : Int) < (4 : Int)) && decide ((4 : Int) < (4611686018427387904 : Int)) &&
                          decide ((-4611686018427387904 : Int) < x % (40 : Int)) &&
                        decide (x % (40 : Int) < (4611686018427387904 : Int)))
                      (Tr.br (decide ((0 : Int) < (12 : Int)) && decide ((12 : Int) ≤ (4294967296 : Int)))
                        (Tr.br
                          (decide ((-9223372036854775808 : Int) ≤ (1 : Int) + y % (12 : Int)) &&
                            decide ((1 : Int) + y % (12 : Int) ≤ (9223372036854775807 : Int)))
                          (Tr.br
                            (decide ((0 : Int) < (6 : Int)) && decide ((6 : Int) < (4611686018427387904 : Int)) &&
                                decide ((-4611686018427387904 : Int) < (1 : Int) + y % (12 : Int)) &&
                              decide ((1 : Int) + y % (12 : Int) < (4611686018427387904 : Int)))
                            (Tr.br (decide ((0 : Int) < (8 : Int)) && decide ((8 : Int) ≤ (4294967296 : Int)))
                              (Tr.br
                                (decide ((-9223372036854775808 : Int) ≤ (1 : Int) + z % (8 : Int)) &&
                                  decide ((1 : Int) + z % (8 : Int) ≤ (9223372036854775807 : Int)))
                                (Tr.br
                                  (decide ((0 : Int) < (8 : Int)) && decide ((8 : Int) < (4611686018427387904 : Int)) &&
                                      decide ((-4611686018427387904 : Int) < (1 : Int) + z % (8 : Int)) &&
                                    decide ((1 : Int) + z % (8 : Int) < (4611686018427387904 : Int)))
                                  (Tr.br (decide ((0 : Int) < (51 : Int)) && decide ((51 : Int) ≤ (4294967296 : Int)))
                                    (Tr.br
                                      (prB (mkRat ((1 : Int) + y % (12 : Int)) (Int.toNat (6 : Int)))
                                              (mkRat ((1 : Int) + z % (8 : Int)) (Int.toNat (8 : Int))) &&
                                            distB (mkRat (x % (40 : Int)) (Int.toNat (4 : Int))) &&
                                          decide ((0 : Int) ≤ t % (51 : Int)) &&
                                        decide (t % (51 : Int) ≤ (50 : Int)))
                                      (Tr.br
                                        (late (mkRat (x % (40 : Int)) (Int.toNat (4 : Int)))
                                          (mkRat ((1 : Int) + y % (12 : Int)) (Int.toNat (6 : Int)))
                                          (mkRat ((1 : Int) + z % (8 : Int)) (Int.toNat (8 : Int))) (t % (51 : Int)))
                                        (Tr.br (!decide ((19 : Int) = (0 : Int)))
                                          (Tr.ok (Res.ret (PV.b (decide ((19 : Int) = (19 : Int)))) []))
                                          (Tr.br
                                            (decide ((0 : Int) < (1 : Int)) &&
                                                  decide ((1 : Int) < (4611686018427387904 : Int)) &&
                                                decide ((-4611686018427387904 : Int) < (0 : Int)) &&
                                              decide ((0 : Int) < (4611686018427387904 : Int)))
                                            (Tr.br
                                              (decide ((0 : Int) < (1 : Int)) &&
                                                    decide ((1 : Int) < (4611686018427387904 : Int)) &&
                                                  decide ((-4611686018427387904 : Int) < (0 : Int)) &&
                                                decide ((0 : Int) < (4611686018427387904 : Int)))
                                              (Tr.no (1)) (Tr.no (1)))
                                            (Tr.no (1))))
                                        (Tr.br
                                          (((0 : Nat) +
                                                (pf (mkRat (x % (40 : Int)) (Int.toNat (4 : Int)))
                                                    (mkRat ((1 : Int) + y % (12 : Int)) (Int.toNat (6 : Int)))
                                                    (mkRat ((1 : Int) + z % (8 : Int)) (Int.toNat (8 : Int)))
                                                    (t % (51 : Int))).length).ble
                                            (pf (mkRat (x % (40 : Int)) (Int.toNat (4 : Int)))
                                                (mkRat ((1 : Int) + y % (12 : Int)) (Int.toNat (6 : Int)))
                                                (mkRat ((1 : Int) + z % (8 : Int)) (Int.toNat (8 : Int)))
                                                (t % (51 : Int))).length)
                                          (Tr.br (!decide ((0 : Int) = (0 : Int)))
                                            (Tr.ok (Res.ret (PV.b (decide ((0 : Int) = (19 : Int)))) []))
                                            (Tr.br
                                              (decide ((0 : Int) < (1 : Int)) &&
                                                    decide ((1 : Int) < (4611686018427387904 : Int)) &&
                                                  decide ((-4611686018427387904 : Int) < (0 : Int)) &&
                                                decide ((0 : Int) < (4611686018427387904 : Int)))
                                              (Tr.br
                                                (decide ((0 : Int) < (1 : Int)) &&
                                                      decide ((1 : Int) < (4611686018427387904 : Int)) &&
                                                    decide ((-4611686018427387904 : Int) < (0 : Int)) &&
                                                  decide ((0 : Int) < (4611686018427387904 : Int)))
                                                (Tr.br
                                                  (decide
                                                    ((List.take
                                                          (pf (mkRat (x % (40 : Int)) (Int.toNat (4 : Int)))
                                                              (mkRat ((1 : Int) + y % (12 : Int)) (Int.toNat (6 : Int)))
                                                              (mkRat ((1 : Int) + z % (8 : Int)) (Int.toNat (8 : Int)))
                                                              (t % (51 : Int))).length
                                                          (List.drop (0 : Nat)
                                                            (pf (mkRat (x % (40 : Int)) (Int.toNat (4 : Int)))
                                                              (mkRat ((1 : Int) + y % (12 : Int)) (Int.toNat (6 : Int)))
                                                              (mkRat ((1 : Int) + z % (8 : Int)) (Int.toNat (8 : Int)))
                                                              (t % (51 : Int))))).length ≤
                                                      (1073741824 : Nat)))
                                                  (Tr.br
                                                    (decide ((0 : Int) < (1 : Int)) &&
                                                          decide ((1 : Int) < (4611686018427387904 : Int)) &&
                                                        decide ((-4611686018427387904 : Int) < (0 : Int)) &&
                                                      decide ((0 : Int) < (4611686018427387904 : Int)))
                                                    (Tr.br
                                                      ((List.take
                                                                (pf (mkRat (x % (40 : Int)) (Int.toNat (4 : Int)))
                                                                    (mkRat ((1 : Int) + y % (12 : Int))
                                                                      (Int.toNat (6 : Int)))
                                                                    (mkRat ((1 : Int) + z % (8 : Int))
                                                                      (Int.toNat (8 : Int)))
                                                                    (t % (51 : Int))).length
                                                                (List.drop (0 : Nat)
                                                                  (pf (mkRat (x % (40 : Int)) (Int.toNat (4 : Int)))
                                                                    (mkRat ((1 : Int) + y % (12 : Int))
                                                                      (Int.toNat (6 : Int)))
                                                                    (mkRat ((1 : Int) + z % (8 : Int))
                                                                      (Int.toNat (8 : Int)))
                                                                    (t % (51 : Int))))).length.ble
                                                          (List.take
                                                              (pf (mkRat (x % (40 : Int)) (Int.toNat (4 : Int)))
                                                                  (mkRat ((1 : Int) + y % (12 : Int))
                                                                    (Int.toNat (6 : Int)))
                                                                  (mkRat ((1 : Int) + z % (8 : Int))
                                                                    (Int.toNat (8 : Int)))
                                                                  (t % (51 : Int))).length
                                                              (List.drop (0 : Nat)
                                                                (pf (mkRat (x % (40 : Int)) (Int.toNat (4 : Int)))
                                                                  (mkRat ((1 : Int) + y % (12 : Int))
                                                                    (Int.toNat (6 : Int)))
                                                                  (mkRat ((1 : Int) + z % (8 : Int))
                                                                    (Int.toNat (8 : Int)))
                                                                  (t % (51 : Int))))).length &&
                                                        ((List.take
                                                                  (pf (mkRat (x % (40 : Int)) (Int.toNat (4 : Int)))
                                                                      (mkRat ((1 : Int) + y % (12 : Int))
                                                                        (Int.toNat (6 : Int)))
                                                                      (mkRat ((1 : Int) + z % (8 : Int))
                                                                        (Int.toNat (8 : Int)))
                                                                      (t % (51 : Int))).length
                                                                  (List.drop (0 : Nat)
                                                                    (pf (mkRat (x % (40 : Int)) (Int.toNat (4 : Int)))
                                                                      (mkRat ((1 : Int) + y % (12 : Int))
                                                                        (Int.toNat (6 : Int)))
                                                                      (mkRat ((1 : Int) + z % (8 : Int))
                                                                        (Int.toNat (8 : Int)))
                                                                      (t % (51 : Int))))).length +
                                                              [mkRat (0 : Int) (Int.toNat (1 : Int))].length).ble
                                                          (4294967296 : Nat))
                                                      (Tr.br
                                                        (prB (mkRat ((1 : Int) + y % (12 : Int)) (Int.toNat (6 : Int)))
                                                                                            (mkRat
                                                                                              ((1 : Int) + z % (8 : Int))
                                                                                              (Int.toNat (8 : Int))) &&
                                                                                          distB
                                                                                            (mkRat (x % (40 : Int))
                                                                                              (Int.toNat (4 : Int))) &&
                                                                                        decide
                                                                                          ((1 : Nat) ≤
                                                                                            (List.take
                                                                                                (pf
                                                                                                    (mkRat
                                                                                                      (x % (40 : Int))
                                                                                                      (Int.toNat
                                                                                                        (4 : Int)))
                                                                                                    (mkRat
                                                                                                      ((1 : Int) +
                                                                                                        y % (12 : Int))
                                                                                                      (Int.toNat
                                                                                                        (6 : Int)))
                                                                                                    (mkRat
                                                                                                      ((1 : Int) +
                                                                                                        z % (8 : Int))
                                                                                                      (Int.toNat
                                                                                                        (8 : Int)))
                                                                                                    (t %
                                                                                                      (51 : Int))).length
                                                                                                (List.drop (0 : Nat)
                                                                                                  (pf
                                                                                                    (mkRat
                                                                                                      (x % (40 : Int))
                                                                                                      (Int.toNat
                                                                                                        (4 : Int)))
                                                                                                    (mkRat
                                                                                                      ((1 : Int) +
                                                                                                        y % (12 : Int))
                                                                                                      (Int.toNat
                                                                                                        (6 : Int)))
                                                                                                    (mkRat
                                                                                                      ((1 : Int) +
                                                                                                        z % (8 : Int))
                                                                                                      (Int.toNat
                                                                                                        (8 : Int)))
                                                                                                    (t %
                                                                                                      (51 :
                                                                                                        Int))))).length) &&
                                                                                      decide
                                                                                        ((List.take
                                                                                              (pf
                                                                                                  (mkRat (x % (40 : Int))
                                                                                                    (Int.toNat (4 : Int)))
                                                                                                  (mkRat
                                                                                                    ((1 : Int) +
                                                                                                      y % (12 : Int))
                                                                                                    (Int.toNat (6 : Int)))
                                                                                                  (mkRat
                                                                                                    ((1 : Int) +
                                                                                                      z % (8 : Int))
                                                                                                    (Int.toNat (8 : Int)))
                                                                                                  (t % (51 : Int))).length
                                                                                              (List.drop (0 : Nat)
                                                                                                (pf
                                                                                                  (mkRat (x % (40 : Int))
                                                                                                    (Int.toNat (4 : Int)))
                                                                                                  (mkRat
                                                                                                    ((1 : Int) +
                                                                                                      y % (12 : Int))
                                                                                                    (Int.toNat (6 : Int)))
                                                                                                  (mkRat
                                                                                                    ((1 : Int) +
                                                                                                      z % (8 : Int))
                                                                                                    (Int.toNat (8 : Int)))
                                                                                                  (t %
                                                                                                    (51 :
                                                                                                      Int))))).length ≤
                                                                                          (50 : Nat)) &&
                                                                                    leB
                                                                                      (mkRat (x % (40 : Int))
                                                                                        (Int.toNat (4 : Int)))
                                                                                      (Prof.cover
                                                                                        (mkRat
                                                                                          ((1 : Int) + y % (12 : Int))
                                                                                          (Int.toNat (6 : Int)))
                                                                                        (mkRat ((1 : Int) + z % (8 : Int))
                                                                                          (Int.toNat (8 : Int)))
                                                                                        (List.take
                                                                                            (pf
                                                                                                (mkRat (x % (40 : Int))
                                                                                                  (Int.toNat (4 : Int)))
                                                                                                (mkRat
                                                                                                  ((1 : Int) +
                                                                                                    y % (12 : Int))
                                                                                                  (Int.toNat (6 : Int)))
                                                                                                (mkRat
                                                                                                  ((1 : Int) +
                                                                                                    z % (8 : Int))
                                                                                                  (Int.toNat (8 : Int)))
                                                                                                (t % (51 : Int))).length
                                                                                            (List.drop (0 : Nat)
                                                                                              (pf
                                                                                                (mkRat (x % (40 : Int))
                                                                                                  (Int.toNat (4 : Int)))
                                                                                                (mkRat
                                                                                                  ((1 : Int) +
                                                                                                    y % (12 : Int))
                                                                                                  (Int.toNat (6 : Int)))
                                                                                                (mkRat
                                                                                                  ((1 : Int) +
                                                                                                    z % (8 : Int))
                                                                                                  (Int.toNat (8 : Int)))
                                                                                                (t %
                                                                                                  (51 :
                                                                                                    Int))))).length) &&
                                                                                  decide
                                                                                    (List.take
                                                                                        (pf
                                                                                            (mkRat (x % (40 : Int))
                                                                                              (Int.toNat (4 : Int)))
                                                                                            (mkRat
                                                                                              ((1 : Int) + y % (12 : Int))
                                                                                              (Int.toNat (6 : Int)))
                                                                                            (mkRat
                                                                                              ((1 : Int) + z % (8 : Int))
                                                                                              (Int.toNat (8 : Int)))
                                                                                            (t % (51 : Int))).length
                                                                                        (List.drop (0 : Nat)
                                                                                          (pf
                                                                                            (mkRat (x % (40 : Int))
                                                                                              (Int.toNat (4 : Int)))
                                                                                            (mkRat
                                                                                              ((1 : Int) + y % (12 : Int))
                                                                                              (Int.toNat (6 : Int)))
                                                                                            (mkRat
                                                                                              ((1 : Int) + z % (8 : Int))
                                                                                              (Int.toNat (8 : Int)))
                                                                                            (t % (51 : Int)))) =
                                                                                      Prof.vals
                                                                                        (mkRat (x % (40 : Int))
                                                                                          (Int.toNat (4 : Int)))
                                                                                        (mkRat
                                                                                          ((1 : Int) + y % (12 : Int))
                                                                                          (Int.toNat (6 : Int)))
                                                                                        (mkRat ((1 : Int) + z % (8 : Int))
                                                                                          (Int.toNat (8 : Int)))
                                                                                        (List.take
                                                                                            (pf
                                                                                                (mkRat (x % (40 : Int))
                                                                                                  (Int.toNat (4 : Int)))
                                                                                                (mkRat
                                                                                                  ((1 : Int) +
                                                                                                    y % (12 : Int))
                                                                                                  (Int.toNat (6 : Int)))
                                                                                                (mkRat
                                                                                                  ((1 : Int) +
                                                                                                    z % (8 : Int))
                                                                                                  (Int.toNat (8 : Int)))
                                                                                                (t % (51 : Int))).length
                                                                                            (List.drop (0 : Nat)
                                                                                              (pf
                                                                                                (mkRat (x % (40 : Int))
                                                                                                  (Int.toNat (4 : Int)))
                                                                                                (mkRat
                                                                                                  ((1 : Int) +
                                                                                                    y % (12 : Int))
                                                                                                  (Int.toNat (6 : Int)))
                                                                                                (mkRat
                                                                                                  ((1 : Int) +
                                                                                                    z % (8 : Int))
                                                                                                  (Int.toNat (8 : Int)))
                                                                                                (t %
                                                                                                  (51 :
                                                                                                    Int))))).length) &&
                                                                                decide
                                                                                  (List.take
                                                                                        (List.take
                                                                                            (pf
                                                                                                (mkRat (x % (40 : Int))
                                                                                                  (Int.toNat (4 : Int)))
                                                                                                (mkRat
                                                                                                  ((1 : Int) +
                                                                                                    y % (12 : Int))
                                                                                                  (Int.toNat (6 : Int)))
                                                                                                (mkRat
                                                                                                  ((1 : Int) +
                                                                                                    z % (8 : Int))
                                                                                                  (Int.toNat (8 : Int)))
                                                                                                (t % (51 : Int))).length
                                                                                            (List.drop (0 : Nat)
                                                                                              (pf
                                                                                                (mkRat (x % (40 : Int))
                                                                                                  (Int.toNat (4 : Int)))
                                                                                                (mkRat
                                                                                                  ((1 : Int) +
                                                                                                    y % (12 : Int))
                                                                                                  (Int.toNat (6 : Int)))
                                                                                                (mkRat
                                                                                                  ((1 : Int) +
                                                                                                    z % (8 : Int))
                                                                                                  (Int.toNat (8 : Int)))
                                                                                                (t % (51 : Int))))).length
                                                                                        (List.drop (0 : Nat)
                                                                                          (List.take
                                                                                            (pf
                                                                                                (mkRat (x % (40 : Int))
                                                                                                  (Int.toNat (4 : Int)))
                                                                                                (mkRat
                                                                                                  ((1 : Int) +
                                                                                                    y % (12 : Int))
                                                                                                  (Int.toNat (6 : Int)))
                                                                                                (mkRat
                                                                                                  ((1 : Int) +
                                                                                                    z % (8 : Int))
                                                                                                  (Int.toNat (8 : Int)))
                                                                                                (t % (51 : Int))).length
                                                                                            (List.drop (0 : Nat)
                                                                                              (pf
                                                                                                (mkRat (x % (40 : Int))
                                                                                                  (Int.toNat (4 : Int)))
                                                                                                (mkRat
                                                                                                  ((1 : Int) +
                                                                                                    y % (12 : Int))
                                                                                                  (Int.toNat (6 : Int)))
                                                                                                (mkRat
                                                                                                  ((1 : Int) +
                                                                                                    z % (8 : Int))
                                                                                                  (Int.toNat (8 : Int)))
                                                                                                (t % (51 : Int)))))) ++
                                                                                      [mkRat (0 : Int)
                                                                                          (Int.toNat (1 : Int))] =
                                                                                    List.take
                                                                                        (pf
                                                                                            (mkRat (x % (40 : Int))
                                                                                              (Int.toNat (4 : Int)))
                                                                                            (mkRat
                                                                                              ((1 : Int) + y % (12 : Int))
                                                                                              (Int.toNat (6 : Int)))
                                                                                            (mkRat
                                                                                              ((1 : Int) + z % (8 : Int))
                                                                                              (Int.toNat (8 : Int)))
                                                                                            (t % (51 : Int))).length
                                                                                        (List.drop (0 : Nat)
                                                                                          (pf
                                                                                            (mkRat (x % (40 : Int))
                                                                                              (Int.toNat (4 : Int)))
                                                                                            (mkRat
                                                                                              ((1 : Int) + y % (12 : Int))
                                                                                              (Int.toNat (6 : Int)))
                                                                                            (mkRat
                                                                                              ((1 : Int) + z % (8 : Int))
                                                                                              (Int.toNat (8 : Int)))
                                                                                            (t % (51 : Int)))) ++
                                                                                      [(0 : Rat)]) &&
                                                                              decide
                                                                                (mkRat (0 : Int) (Int.toNat (1 : Int)) =
                                                                                  (0 : Rat)) &&
                                                                            decide
                                                                              (mkRat (0 : Int) (Int.toNat (1 : Int)) =
                                                                                (0 : Rat)) &&
                                                                          decide ((0 : Int) = (0 : Int)) &&
                                                                        decide
                                                                          ((↑((List.take
                                                                                      (pf
                                                                                          (mkRat (x % (40 : Int))
                                                                                            (Int.toNat (4 : Int)))
                                                                                          (mkRat
                                                                                            ((1 : Int) + y % (12 : Int))
                                                                                            (Int.toNat (6 : Int)))
                                                                                          (mkRat
                                                                                            ((1 : Int) + z % (8 : Int))
                                                                                            (Int.toNat (8 : Int)))
                                                                                          (t % (51 : Int))).length
                                                                                      (List.drop (0 : Nat)
                                                                                        (pf
                                                                                          (mkRat (x % (40 : Int))
                                                                                            (Int.toNat (4 : Int)))
                                                                                          (mkRat
                                                                                            ((1 : Int) + y % (12 : Int))
                                                                                            (Int.toNat (6 : Int)))
                                                                                          (mkRat
                                                                                            ((1 : Int) + z % (8 : Int))
                                                                                            (Int.toNat (8 : Int)))
                                                                                          (t % (51 : Int))))).length +
                                                                                  [mkRat (0 : Int)
                                                                                        (Int.toNat (1 : Int))].length) :
                                                                              Int) =
                                                                            (↑(List.take
                                                                                      (pf
                                                                                          (mkRat (x % (40 : Int))
                                                                                            (Int.toNat (4 : Int)))
                                                                                          (mkRat
                                                                                            ((1 : Int) + y % (12 : Int))
                                                                                            (Int.toNat (6 : Int)))
                                                                                          (mkRat
                                                                                            ((1 : Int) + z % (8 : Int))
                                                                                            (Int.toNat (8 : Int)))
                                                                                          (t % (51 : Int))).length
                                                                                      (List.drop (0 : Nat)
                                                                                        (pf
                                                                                          (mkRat (x % (40 : Int))
                                                                                            (Int.toNat (4 : Int)))
                                                                                          (mkRat
                                                                                            ((1 : Int) + y % (12 : Int))
                                                                                            (Int.toNat (6 : Int)))
                                                                                          (mkRat
                                                                                            ((1 : Int) + z % (8 : Int))
                                                                                            (Int.toNat (8 : Int)))
                                                                                          (t % (51 : Int))))).length :
                                                                                Int) +
                                                                              (1 : Int)) &&
                                                                      decide
                                                                        ((List.take
                                                                                (pf
                                                                                    (mkRat (x % (40 : Int))
                                                                                      (Int.toNat (4 : Int)))
                                                                                    (mkRat ((1 : Int) + y % (12 : Int))
                                                                                      (Int.toNat (6 : Int)))
                                                                                    (mkRat ((1 : Int) + z % (8 : Int))
                                                                                      (Int.toNat (8 : Int)))
                                                                                    (t % (51 : Int))).length
                                                                                (List.drop (0 : Nat)
                                                                                  (pf
                                                                                    (mkRat (x % (40 : Int))
                                                                                      (Int.toNat (4 : Int)))
                                                                                    (mkRat ((1 : Int) + y % (12 : Int))
                                                                                      (Int.toNat (6 : Int)))
                                                                                    (mkRat ((1 : Int) + z % (8 : Int))
                                                                                      (Int.toNat (8 : Int)))
                                                                                    (t % (51 : Int))))).length +
                                                                            [mkRat (0 : Int)
                                                                                  (Int.toNat (1 : Int))].length =
                                                                          (List.take
                                                                                (pf
                                                                                    (mkRat (x % (40 : Int))
                                                                                      (Int.toNat (4 : Int)))
                                                                                    (mkRat ((1 : Int) + y % (12 : Int))
                                                                                      (Int.toNat (6 : Int)))
                                                                                    (mkRat ((1 : Int) + z % (8 : Int))
                                                                                      (Int.toNat (8 : Int)))
                                                                                    (t % (51 : Int))).length
                                                                                (List.drop (0 : Nat)
                                                                                  (pf
                                                                                    (mkRat (x % (40 : Int))
                                                                                      (Int.toNat (4 : Int)))
                                                                                    (mkRat ((1 : Int) + y % (12 : Int))
                                                                                      (Int.toNat (6 : Int)))
                                                                                    (mkRat ((1 : Int) + z % (8 : Int))
                                                                                      (Int.toNat (8 : Int)))
                                                                                    (t % (51 : Int))))).length +
                                                                            (1 : Nat)) &&
                                                                    Nat.beq (64 : Nat) (64 : Nat) &&
                                                                  Nat.beq (64 : Nat) (64 : Nat) &&
                                                                Nat.beq (64 : Nat) (64 : Nat) &&
                                                              Nat.beq (64 : Nat) (64 : Nat) &&
                                                            Nat.beq (64 : Nat) (64 : Nat) &&
                                                          (Nat.max (64 : Nat) (Nat.max (64 : Nat) (0 : Nat))).beq
                                                            (64 : Nat))
                                                        (Tr.br
                                                          (decide
                                                            ((List.take
                                                                  (pf (mkRat (x % (40 : Int)) (Int.toNat (4 : Int)))
                                                                      (mkRat ((1 : Int) + y % (12 : Int))
                                                                        (Int.toNat (6 : Int)))
                                                                      (mkRat ((1 : Int) + z % (8 : Int))
                                                                        (Int.toNat (8 : Int)))
                                                                      (t % (51 : Int))).length
                                                                  (List.drop (0 : Nat)
                                                                    (pf (mkRat (x % (40 : Int)) (Int.toNat (4 : Int)))
                                                                      (mkRat ((1 : Int) + y % (12 : Int))
                                                                        (Int.toNat (6 : Int)))
                                                                      (mkRat ((1 : Int) + z % (8 : Int))
                                                                        (Int.toNat (8 : Int)))
                                                                      (t % (51 : Int))))).length ≤
                                                              (1073741824 : Nat)))
                                                          (Tr.br
                                                            (decide
                                                                ((List.take
                                                                      (pf (mkRat (x % (40 : Int)) (Int.toNat (4 : Int)))
                                                                          (mkRat ((1 : Int) + y % (12 : Int))
                                                                            (Int.toNat (6 : Int)))
                                                                          (mkRat ((1 : Int) + z % (8 : Int))
                                                                            (Int.toNat (8 : Int)))
                                                                          (t % (51 : Int))).length
                                                                      (List.drop (0 : Nat)
                                                                        (pf (mkRat (x % (40 : Int)) (Int.toNat (4 : Int)))
                                                                          (mkRat ((1 : Int) + y % (12 : Int))
                                                                            (Int.toNat (6 : Int)))
                                                                          (mkRat ((1 : Int) + z % (8 : Int))
                                                                            (Int.toNat (8 : Int)))
                                                                          (t % (51 : Int))))).length =
                                                                  (List.take
                                                                      (pf (mkRat (x % (40 : Int)) (Int.toNat (4 : Int)))
                                                                          (mkRat ((1 : Int) + y % (12 : Int))
                                                                            (Int.toNat (6 : Int)))
                                                                          (mkRat ((1 : Int) + z % (8 : Int))
                                                                            (Int.toNat (8 : Int)))
                                                                          (t % (51 : Int))).length
                                                                      (List.drop (0 : Nat)
                                                                        (pf (mkRat (x % (40 : Int)) (Int.toNat (4 : Int)))
                                                                          (mkRat ((1 : Int) + y % (12 : Int))
                                                                            (Int.toNat (6 : Int)))
                                                                          (mkRat ((1 : Int) + z % (8 : Int))
                                                                            (Int.toNat (8 : Int)))
                                                                          (t % (51 : Int))))).length) &&
                                                              decide
                                                                ((List.take
                                                                      (pf (mkRat (x % (40 : Int)) (Int.toNat (4 : Int)))
                                                                          (mkRat ((1 : Int) + y % (12 : Int))
                                                                            (Int.toNat (6 : Int)))
                                                                          (mkRat ((1 : Int) + z % (8 : Int))
                                                                            (Int.toNat (8 : Int)))
                                                                          (t % (51 : Int))).length
                                                                      (List.drop (0 : Nat)
                                                                        (pf (mkRat (x % (40 : Int)) (Int.toNat (4 : Int)))
                                                                          (mkRat ((1 : Int) + y % (12 : Int))
                                                                            (Int.toNat (6 : Int)))
                                                                          (mkRat ((1 : Int) + z % (8 : Int))
                                                                            (Int.toNat (8 : Int)))
                                                                          (t % (51 : Int))))).length ≤
                                                                  (1073741824 : Nat)))
                                                            (Tr.br
                                                              (s32 (mkRat (x % (40 : Int)) (Int.toNat (4 : Int))) &&
                                                                s32 (mkRat (x % (40 : Int)) (Int.toNat (4 : Int))))
                                                              (Tr.br
                                                                (decide
                                                                  (rcmp (mkRat (x % (40 : Int)) (Int.toNat (4 : Int)))
                                                                      (mkRat (x % (40 : Int)) (Int.toNat (4 : Int))) =
                                                                    (0 : Int)))
                                                                (Tr.br
                                                                  (((0 : Nat) +
                                                                        (List.take
                                                                            (pf
                                                                                (mkRat (x % (40 : Int))
                                                                                  (Int.toNat (4 : Int)))
                                                                                (mkRat ((1 : Int) + y % (12 : Int))
                                                                                  (Int.toNat (6 : Int)))
                                                                                (mkRat ((1 : Int) + z % (8 : Int))
                                                                                  (Int.toNat (8 : Int)))
                                                                                (t % (51 : Int))).length
                                                                            (List.drop (0 : Nat)
                                                                              (pf
                                                                                (mkRat (x % (40 : Int))
                                                                                  (Int.toNat (4 : Int)))
                                                                                (mkRat ((1 : Int) + y % (12 : Int))
                                                                                  (Int.toNat (6 : Int)))
                                                                                (mkRat ((1 : Int) + z % (8 : Int))
                                                                                  (Int.toNat (8 : Int)))
                                                                                (t % (51 : Int))))).length).ble
                                                                    (List.take
                                                                          (pf
                                                                              (mkRat (x % (40 : Int))
                                                                                (Int.toNat (4 : Int)))
                                                                              (mkRat ((1 : Int) + y % (12 : Int))
                                                                                (Int.toNat (6 : Int)))
                                                                              (mkRat ((1 : Int) + z % (8 : Int))
                                                                                (Int.toNat (8 : Int)))
                                                                              (t % (51 : Int))).length
                                                                          (List.drop (0 : Nat)
                                                                            (pf
                                                                              (mkRat (x % (40 : Int))
                                                                                (Int.toNat (4 : Int)))
                                                                              (mkRat ((1 : Int) + y % (12 : Int))
                                                                                (Int.toNat (6 : Int)))
                                                                              (mkRat ((1 : Int) + z % (8 : Int))
                                                                                (Int.toNat (8 : Int)))
                                                                              (t % (51 : Int))))).reverse.length)
                                                                  (Tr.br
                                                                    (decide
                                                                      ((List.take
                                                                            (List.take
                                                                                (pf
                                                                                    (mkRat (x % (40 : Int))
                                                                                      (Int.toNat (4 : Int)))
                                                                                    (mkRat ((1 : Int) + y % (12 : Int))
                                                                                      (Int.toNat (6 : Int)))
                                                                                    (mkRat ((1 : Int) + z % (8 : Int))
                                                                                      (Int.toNat (8 : Int)))
                                                                                    (t % (51 : Int))).length
                                                                                (List.drop (0 : Nat)
                                                                                  (pf
                                                                                    (mkRat (x % (40 : Int))
                                                                                      (Int.toNat (4 : Int)))
                                                                                    (mkRat ((1 : Int) + y % (12 : Int))
                                                                                      (Int.toNat (6 : Int)))
                                                                                    (mkRat ((1 : Int) + z % (8 : Int))
                                                                                      (Int.toNat (8 : Int)))
                                                                                    (t % (51 : Int))))).length
                                                                            (List.drop (0 : Nat)
                                                                              (List.take
                                                                                  (pf
                                                                                      (mkRat (x % (40 : Int))
                                                                                        (Int.toNat (4 : Int)))
                                                                                      (mkRat ((1 : Int) + y % (12 : Int))
                                                                                        (Int.toNat (6 : Int)))
                                                                                      (mkRat ((1 : Int) + z % (8 : Int))
                                                                                        (Int.toNat (8 : Int)))
                                                                                      (t % (51 : Int))).length
                                                                                  (List.drop (0 : Nat)
                                                                                    (pf
                                                                                      (mkRat (x % (40 : Int))
                                                                                        (Int.toNat (4 : Int)))
                                                                                      (mkRat ((1 : Int) + y % (12 : Int))
                                                                                        (Int.toNat (6 : Int)))
                                                                                      (mkRat ((1 : Int) + z % (8 : Int))
                                                                                        (Int.toNat (8 : Int)))
                                                                                      (t %
                                                                                        (51 : Int))))).reverse)).length ≤
                                                                        (1073741824 : Nat)))
                                                                    (Tr.br
                                                                      (decide
                                                                        (List.take
                                                                            (List.take
                                                                                (pf
                                                                                    (mkRat (x % (40 : Int))
                                                                                      (Int.toNat (4 : Int)))
                                                                                    (mkRat ((1 : Int) + y % (12 : Int))
                                                                                      (Int.toNat (6 : Int)))
                                                                                    (mkRat ((1 : Int) + z % (8 : Int))
                                                                                      (Int.toNat (8 : Int)))
                                                                                    (t % (51 : Int))).length
                                                                                (List.drop (0 : Nat)
                                                                                  (pf
                                                                                    (mkRat (x % (40 : Int))
                                                                                      (Int.toNat (4 : Int)))
                                                                                    (mkRat ((1 : Int) + y % (12 : Int))
                                                                                      (Int.toNat (6 : Int)))
                                                                                    (mkRat ((1 : Int) + z % (8 : Int))
                                                                                      (Int.toNat (8 : Int)))
                                                                                    (t % (51 : Int))))).length
                                                                            (List.drop (0 : Nat)
                                                                              (List.take
                                                                                  (pf
                                                                                      (mkRat (x % (40 : Int))
                                                                                        (Int.toNat (4 : Int)))
                                                                                      (mkRat ((1 : Int) + y % (12 : Int))
                                                                                        (Int.toNat (6 : Int)))
                                                                                      (mkRat ((1 : Int) + z % (8 : Int))
                                                                                        (Int.toNat (8 : Int)))
                                                                                      (t % (51 : Int))).length
                                                                                  (List.drop (0 : Nat)
                                                                                    (pf
                                                                                      (mkRat (x % (40 : Int))
                                                                                        (Int.toNat (4 : Int)))
                                                                                      (mkRat ((1 : Int) + y % (12 : Int))
                                                                                        (Int.toNat (6 : Int)))
                                                                                      (mkRat ((1 : Int) + z % (8 : Int))
                                                                                        (Int.toNat (8 : Int)))
                                                                                      (t % (51 : Int))))).reverse) =
                                                                          List.take
                                                                            (pf
                                                                                (mkRat (x % (40 : Int))
                                                                                  (Int.toNat (4 : Int)))
                                                                                (mkRat ((1 : Int) + y % (12 : Int))
                                                                                  (Int.toNat (6 : Int)))
                                                                                (mkRat ((1 : Int) + z % (8 : Int))
                                                                                  (Int.toNat (8 : Int)))
                                                                                (t % (51 : Int))).length
                                                                            (List.drop (0 : Nat)
                                                                              (pf
                                                                                (mkRat (x % (40 : Int))
                                                                                  (Int.toNat (4 : Int)))
                                                                                (mkRat ((1 : Int) + y % (12 : Int))
                                                                                  (Int.toNat (6 : Int)))
                                                                                (mkRat ((1 : Int) + z % (8 : Int))
                                                                                  (Int.toNat (8 : Int)))
                                                                                (t % (51 : Int))))))
                                                                      (Tr.ok (Res.ret (PV.bl true) []))
                                                                      (Tr.ok (Res.ret (PV.bl false) [])))
                                                                    (Tr.no (1)))
                                                                  (Tr.no (19003)))
                                                                (Tr.ok (Res.ret (PV.bl false) [])))
                                                              (Tr.no (1)))
                                                            (Tr.no (1)))
                                                          (Tr.no (1)))
                                                        (Tr.no (1)))
                                                      (Tr.no (10003)))
                                                    (Tr.no (1)))
                                                  (Tr.no (1)))
                                                (Tr.no (1)))
                                              (Tr.no (1))))
                                          (Tr.no (6006))))
                                      (Tr.no (1)))
                                    (Tr.no (1)))
                                  (Tr.no (1)))
                                (Tr.no (5008)))
                              (Tr.no (1)))
                            (Tr.no (1)))
                          (Tr.no (5012)))
                        (Tr.no (1)))
                      (Tr.no (1)))
                    (Tr.no (1)))))
              (Tr.no (2006))))
          (Tr.no (1)))
        (Tr.no (1)))
      (Tr.no (1)))
    (Tr.no (1)) := by kernel_rfl
theorem late0 : late (mkRat (4 : Int) (Int.toNat (1 : Int))) (mkRat (2 : Int) (Int.toNat (1 : Int))) (mkRat (1 : Int) (Int.toNat (1 : Int))) 0 = false := by kernel_rfl
theorem pf0 : (pf (mkRat (4 : Int) (Int.toNat (1 : Int))) (mkRat (2 : Int) (Int.toNat (1 : Int))) (mkRat (1 : Int) (Int.toNat (1 : Int))) 0).length = 3 := by
  unfold pf
  rw [Prof.vals_len]
  kernel_rfl
theorem pr0 : prB (mkRat (2 : Int) (Int.toNat (1 : Int))) (mkRat (1 : Int) (Int.toNat (1 : Int))) = true := prB_iff.2 ⟨12, 8, by omega, by omega, by omega, by omega, by kernel_rfl, by kernel_rfl⟩
theorem dist0 : distB (mkRat (4 : Int) (Int.toNat (1 : Int))) = true := distB_iff.2 ⟨16, by omega, by kernel_rfl⟩
end Go.Proofs.YtejfdhcigkgbmaaDoor.PE
namespace Go.Proofs.YtejfdhcigkgbmaaDoor.PE
open Go
set_option maxRecDepth 100000
set_option maxHeartbeats 4000000
variable {G : World → (Nat → Prop) → Prop} (hG : GOk G)
theorem run4 (x y z t : Int) : ∃ r, (evF Tryd.prog O4 [(10, l4)] pol4 Tryd.f4 [.i .i64 x, .i .i64 y, .i .i64 z, .i .i64 t] [] retK).run = some (.ret r []) ∧ RLe r (.bl true) := by
  have x0 := Int.emod_nonneg x (show (40 : Int) ≠ 0 by omega)
  have x1 := Int.emod_lt_of_pos x (show (0 : Int) < 40 by omega)
  have y0 := Int.emod_nonneg y (show (12 : Int) ≠ 0 by omega)
  have y1 := Int.emod_lt_of_pos y (show (0 : Int) < 12 by omega)
  have z0 := Int.emod_nonneg z (show (8 : Int) ≠ 0 by omega)
  have z1 := Int.emod_lt_of_pos z (show (0 : Int) < 8 by omega)
  have t0 := Int.emod_nonneg t (show (51 : Int) ≠ 0 by omega)
  have t1 := Int.emod_lt_of_pos t (show (0 : Int) < 51 by omega)
  have hp : Prof.pr (mkRat (1 + y % 12) (Int.toNat 6)) (mkRat (1 + z % 8) (Int.toNat 8)) :=
    ⟨(1 + y % 12).toNat, (1 + z % 8).toNat, by omega, by omega, by omega, by omega, by rw [Int.toNat_of_nonneg (by omega)]; rfl, by rw [Int.toNat_of_nonneg (by omega)]; rfl⟩
  have hx : Prof.dist (mkRat (x % 40) (Int.toNat 4)) := ⟨(x % 40).toNat, by omega, by rw [Int.toNat_of_nonneg (by omega)]; rfl⟩
  rw [e4]
  generalize mkRat (1 + y % 12) (Int.toNat 6) = S at *
  generalize mkRat (1 + z % 8) (Int.toNat 8) = A at *
  generalize mkRat (x % 40) (Int.toNat 4) = X at *
  have l0 := pf0
  generalize pf (mkRat (4 : Int) (Int.toNat (1 : Int))) (mkRat (2 : Int) (Int.toNat (1 : Int))) (mkRat (1 : Int) (Int.toNat (1 : Int))) 0 = F0 at *
  rw [Tr.run_t (by decide), Tr.run_t (by decide), Tr.run_t (by decide), Tr.run_t (by rw [pr0, dist0]; decide), Tr.run_f late0, Tr.run_t (by rw [Nat.ble_eq]; omega)]
  rw [Tr.run_f (by decide)]
  rw [Tr.run_f (by simp)]
  repeat rw [Tr.run_t (by simp only [Bool.and_eq_true, decide_eq_true_eq]; omega)]
  have hT0 : 0 ≤ t % 51 := t0
  have q1 : prB S A = true := prB_iff.2 hp
  have q2 : distB X = true := distB_iff.2 hx
  rw [Tr.run_t (by rw [q1, q2]; simp only [Bool.true_and, Bool.and_eq_true, decide_eq_true_eq]; omega)]
  generalize t % 51 = T at *
  cases hl : late X S A T with
  | true =>
    rw [Tr.run_t rfl, Tr.run_t (by decide), Tr.run_ok]
    exact ⟨_, rfl, rle_b (by decide)⟩
  | false =>
    obtain ⟨n1, n2, n3, n4, n5, n6⟩ := tks_ok hl t0 (by omega) hp
    have hpf : pf X S A T = Prof.vals X S A (tks X S A T) := rfl
    have hlen : (pf X S A T).length = tks X S A T := by rw [hpf, Prof.vals_len]
    have hrev : (pf X S A T).reverse = pf X S A T := by rw [hpf, Prof.vals_rev]
    have hm : mkRat 0 (Int.toNat 1) = 0 := Rat.zero_mkRat _
    clear n4 n6
    rw [Tr.run_f rfl]
    generalize tks X S A T = n at *
    generalize pf X S A T = F at *
    simp only [List.drop_zero, List.take_length, hrev, hm]
    have hle : leB X (Prof.cover S A F.length) = true := by rw [hlen]; exact decide_eq_true n3
    have hv : F = Prof.vals X S A F.length := by rw [hlen]; exact hpf
    have hs : s32 X = true := Bd32 hx.bx (by omega) (by omega)
    rw [Tr.run_t (by rw [Nat.ble_eq]; omega), Tr.run_f (by decide), Tr.run_t (by decide), Tr.run_t (by decide), Tr.run_t (decide_eq_true (by omega)), Tr.run_t (by decide), Tr.run_t (by
      simp only [Bool.and_eq_true, Nat.ble_eq, List.length_cons, List.length_nil]; omega), Tr.run_t (by
      rw [q1, q2, hle]
      simp only [Bool.true_and, Bool.and_eq_true, Bool.and_true, decide_eq_true_eq, List.length_cons, List.length_nil]
      exact ⟨⟨⟨⟨⟨⟨⟨⟨⟨⟨⟨⟨⟨⟨by omega, by omega⟩, hv⟩, by first | trivial | rfl⟩, by first | trivial | rfl⟩, by first | trivial | rfl⟩, by first | trivial | rfl⟩, by first | trivial | rfl | omega⟩, by first | trivial | rfl | omega⟩, rfl⟩, rfl⟩, rfl⟩, rfl⟩, rfl⟩, rfl⟩),
      Tr.run_t (decide_eq_true (by omega)), Tr.run_t (by simp only [decide_true, Bool.true_and, decide_eq_true_eq]; omega), Tr.run_t (by rw [hs]; rfl), Tr.run_t (decide_eq_true (rcmp_eq.2 rfl)), Tr.run_t (by rw [Nat.ble_eq]; omega), Tr.run_t (decide_eq_true (by omega)), Tr.run_t (by simp), Tr.run_ok]
    exact ⟨_, rfl, .refl _⟩
include hG in
/-- The law is true. -/
theorem pc4 (x y z t : Int) : PC Tryd.prog G 4 [.i .i64 x, .i .i64 y, .i .i64 z, .i .i64 t] [] (.bl true) [] := by
  obtain ⟨r, h1, h2⟩ := run4 x y z t
  exact (evF_pc hG (orc4 hG) mix enter4 (hs := []) (L := [(10, l4)]) (pol := pol4) (O := O4) (lps1 (b := b4) (live := [8, 11, 12, 13, 14, 16, 17, 65, 66, 67]) (sp := l4) (m := 0) (by kernel_rfl) (by kernel_rfl) (by kernel_rfl) (loop4 hG)) h1).le h2 (.refl _)
end Go.Proofs.YtejfdhcigkgbmaaDoor.PE
/-! From what the evaluator shows to a call. -/
namespace Go.Proofs.YtejfdhcigkgbmaaDoor.PE
open Go

theorem calls_of_does {P : Program} {g : Nat} {fn : Func} {c : Code} (hg : Enters P g fn c) {vs : Array Value} {w : World} {R : Value → World → Prop} (h : Does P g vs w R) : Calls P g vs w fun e w' => ∃ v, e = .returned v ∧ R v w' := by
  have h1 := h { dst := some 0, op := .move (.const undef), type := 0, pos := "", after := #[], guard := none } ⟨#[undef], []⟩ (fun a w' => ∃ v, a.tmps[0]? = some v ∧ R v w') (fun _ _ _ => False) (fun v w' hv => ⟨v, by simp [Act.put], hv⟩)
  have : (callFunc g vs).run P w = .ok (.enter g vs) w := by
    have hname : fn.name ≠ "runtime.NumGoroutine" := by simpa using hg.name
    simp [callFunc, hg.at_, hname, hg.body]
  rw [this, Oper.upon_enter] at h1
  refine h1.mono fun e w' he => ?_
  cases e with
  | returned v =>
    obtain ⟨v', hv, hr⟩ := he
    simp [Act.put] at hv
    subst hv
    exact ⟨v, rfl, hr⟩
  | panicked chain => exact absurd he (by simp)
  | outgrown => exact absurd he (by simp [LetsOut])
theorem HRel.none (w : World) : HRel w (fun _ => False) noMu (hget (([] : List Blk).map some)) :=
  ⟨fun b k h => by simp [hget] at h, fun b k a z h => by simp [hget] at h, fun b b' k k' a z z' h => by simp [hget] at h, fun a h => h.elim⟩
theorem keptBut_of_old {w w' : World} (h1 : w'.os = w.os) (h2 : w'.output = w.output) (h3 : ∀ n, n < w.heap.size → w'.heap[n]? = w.heap[n]?) (may : MemPlace → Prop) : w.keptBut w' may := by
  refine ⟨h1, h2, fun i hi => ?_⟩
  rw [h3 i hi]
  split
  · rename_i e1 e2
    rw [e1] at e2
    cases e2
    exact ⟨rfl, rfl, rfl, fun _ _ => rfl⟩
  · rename_i e1 e2
    rw [e1] at e2
    cases e2
    exact .inr ⟨rfl, rfl⟩
  · rfl
/-- A function of plain values that is shown to be true. -/
theorem calls_true {P : Program} {g : Nat} {fn : Func} {c : Code} (hg : Enters P g fn c) {args : List PV} (h : PC P (fun _ _ => True) g args [] (.bl true) []) {w : World} {vs : List Value} (hv : RepVL w (fun _ => False) noMu args vs) (may : MemPlace → Prop) :
    Calls P g vs.toArray w fun e w' => e = .returned (.bool true) ∧ w.keptBut w' may := by
  refine (calls_of_does hg (h w (fun _ => False) noMu vs trivial hv (HRel.none w) (fun _ _ => rfl))).mono fun e w' he => ?_
  obtain ⟨v, rfl, S', μ', c⟩ := he
  have hr := c.rep
  have : v = .bool true := by
    cases hr with
    | cell _ _ _ _ h => cases h; rfl
    | agg _ _ _ hv h => simp [isAgg, unfr, unfrA, unfr1] at hv
  subst this
  exact ⟨rfl, keptBut_of_old c.os c.output (fun n hn => c.old n hn (fun b z hb => by simp at hb)) may⟩
end Go.Proofs.YtejfdhcigkgbmaaDoor.PE
