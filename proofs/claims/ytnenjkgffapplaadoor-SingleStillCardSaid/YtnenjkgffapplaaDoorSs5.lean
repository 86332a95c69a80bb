/-
  Part 5 of the proof: contracts of the program's functions. Conditions: those of the theorems below.
-/
import Derived.Test.YtnenjkgffapplaaDoorSs4
import Derived.Test.YtnenjkgffapplaaDoorSs3
set_option linter.all false
namespace Go.Proofs.YtnenjkgffapplaaDoor.PE
open Prof
theorem natAbs_mul_le {a b : Int} {n m : Nat} (h : a.natAbs ≤ n) (h' : b.natAbs ≤ m) : (a * b).natAbs ≤ n * m := by
  rw [Int.natAbs_mul]; exact Nat.mul_le_mul h h'
theorem Prof.Bd.mul {x y : Rat} {n d n' d' : Nat} (h : Bd x n d) (h' : Bd y n' d') : Bd (x * y) (n * n') (d * d') := by
  have hd : x.den * y.den ≠ 0 := Nat.mul_ne_zero x.den_nz y.den_nz
  have := rat_small hd (Rat.mul_def' x y)
  exact ⟨Nat.le_trans this.1 (natAbs_mul_le h.1 h'.1), Nat.le_trans this.2 (Nat.mul_le_mul h.2 h'.2)⟩
theorem Prof.Bd.sub {x y : Rat} {n d n' d' : Nat} (h : Bd x n d) (h' : Bd y n' d') : Bd (x - y) (n * d' + n' * d) (d * d') := by
  have hd : x.den * y.den ≠ 0 := Nat.mul_ne_zero x.den_nz y.den_nz
  have := rat_small hd (Rat.sub_def' x y)
  refine ⟨Nat.le_trans this.1 ?_, Nat.le_trans this.2 (Nat.mul_le_mul h.2 h'.2)⟩
  have h1 := natAbs_mul_le (a := x.num) (b := (y.den : Int)) h.1 (by simpa using h'.2)
  have h2 := natAbs_mul_le (a := y.num) (b := (x.den : Int)) h'.1 (by simpa using h.2)
  omega
theorem Prof.Bd.add {x y : Rat} {n d n' d' : Nat} (h : Bd x n d) (h' : Bd y n' d') : Bd (x + y) (n * d' + n' * d) (d * d') := by
  have hd : x.den * y.den ≠ 0 := Nat.mul_ne_zero x.den_nz y.den_nz
  have := rat_small hd (Rat.add_def' x y)
  refine ⟨Nat.le_trans this.1 ?_, Nat.le_trans this.2 (Nat.mul_le_mul h.2 h'.2)⟩
  have h1 := natAbs_mul_le (a := x.num) (b := (y.den : Int)) h.1 (by simpa using h'.2)
  have h2 := natAbs_mul_le (a := y.num) (b := (x.den : Int)) h'.1 (by simpa using h.2)
  omega
def tri (ax ay bx by_ cx cy : Rat) : Rat := (bx - ax) * (cy - ay) - (by_ - ay) * (cx - ax)
def cB (x : Rat) : Bool := decide (x.num.natAbs ≤ 1000) && decide (x.den ≤ 8)
theorem cB_iff {x : Rat} : cB x = true ↔ Bd x 1000 8 := by simp [cB, Bd]
end Go.Proofs.YtnenjkgffapplaaDoor.PE
namespace Go.Proofs.YtnenjkgffapplaaDoor.PE
open Go
set_option maxRecDepth 100000
variable {G : World → (Nat → Prop) → Prop} (hG : GOk G)
theorem enter41 : Enters Tryd.prog 38 Tryd.f38 (bodyC Tryd.f38) := ⟨Tryd.func38, by kernel_rfl, rfl⟩
noncomputable def s41 : Spec := evF Tryd.prog [(56, s29)] [] {} Tryd.f38
include hG in
theorem ok41 : SpecOK Tryd.prog G 38 s41 := spec_ev hG (.cons (ok29 hG) .nil) mix enter41 (fun _ => LpsOK.none (by kernel_rfl))
theorem enter97 : Enters Tryd.prog 84 Tryd.f84 (bodyC Tryd.f84) := ⟨Tryd.func84, by kernel_rfl, rfl⟩
noncomputable def s97 : Spec := evF Tryd.prog [(56, s29), (65, s43)] [] {} Tryd.f84
include hG in
theorem ok97 : SpecOK Tryd.prog G 84 s97 := spec_ev hG (.cons (ok29 hG) (.cons (ok43 hG) .nil)) mix enter97 (fun _ => LpsOK.none (by kernel_rfl))
theorem enter146 : Enters Tryd.prog 121 Tryd.f121 (bodyC Tryd.f121) := ⟨Tryd.func121, by kernel_rfl, rfl⟩
noncomputable def O146 : Orc := [(31, s26), (38, s41), (84, s97)]
theorem e146 (ax ay bx by_ cx cy : Rat) (w1 w2 w3 w4 w5 w6 : Nat) : evF Tryd.prog O146 [] {} Tryd.f121 [.agg [.q ax w1, .q ay w2], .agg [.q bx w3, .q by_ w4], .agg [.q cx w5, .q cy w6]] [] retK =
  Tr.br (s32 bx && s32 ax && decide (bx.num.natAbs * ax.den < (72057594037927936 : Nat)) && decide (ax.num.natAbs * bx.den < (72057594037927936 : Nat))) (.br (s32 by_ && s32 ay && decide (by_.num.natAbs * ay.den < (72057594037927936 : Nat)) && decide (ay.num.natAbs * by_.den < (72057594037927936 : Nat))) (.br (s32 cx && s32 ax && decide (cx.num.natAbs * ax.den < (72057594037927936 : Nat)) && decide (ax.num.natAbs * cx.den < (72057594037927936 : Nat))) (.br (s32 cy && s32 ay && decide (cy.num.natAbs * ay.den < (72057594037927936 : Nat)) && decide (ay.num.natAbs * cy.den < (72057594037927936 : Nat))) (.br (s32 (bx - ax) && s32 (cy - ay)) (.br (s32 (by_ - ay) && s32 (cx - ax)) (.br (s32 ((bx - ax) * (cy - ay)) && s32 ((by_ - ay) * (cx - ax)) && decide (((bx - ax) * (cy - ay)).num.natAbs * ((by_ - ay) * (cx - ax)).den < (72057594037927936 : Nat)) && decide (((by_ - ay) * (cx - ax)).num.natAbs * ((bx - ax) * (cy - ay)).den < (72057594037927936 : Nat))) (.br (s64 ((bx - ax) * (cy - ay) - (by_ - ay) * (cx - ax))) (.ok (.ret (.i .i64 (rcmp ((bx - ax) * (cy - ay) - (by_ - ay) * (cx - ax)) (0 : Rat))) [])) (.no 1)) (.no 1)) (.no 1)) (.no 1)) (.no 1)) (.no 1)) (.no 1)) (.no 1) := by kernel_rfl
def s146 : Spec := fun args hs K => match args, hs with
  | [.agg [.q ax _, .q ay _], .agg [.q bx _, .q by_ _], .agg [.q cx _, .q cy _]], [] => .br (cB ax && cB ay && cB bx && cB by_ && cB cx && cB cy) (K (.i .i64 (rcmp (tri ax ay bx by_ cx cy) 0)) []) (.no 1)
  | _, _ => .no 1
theorem Bd32' {x : Rat} {n d : Nat} (h : Prof.Bd x n d) (h1 : n < 4294967296) (h2 : d < 4294967296) : s32 x = true := s32_iff.2 ⟨Nat.lt_of_le_of_lt h.1 h1, Nat.lt_of_le_of_lt h.2 h2⟩
theorem subOk {x y : Rat} {n d n' d' : Nat} (h : Prof.Bd x n d) (h' : Prof.Bd y n' d') (h1 : n < 4294967296) (h2 : d < 4294967296) (h3 : n' < 4294967296) (h4 : d' < 4294967296) (h5 : n * d' < 72057594037927936) (h6 : n' * d < 72057594037927936) :
    (s32 x && s32 y && decide (x.num.natAbs * y.den < 72057594037927936) && decide (y.num.natAbs * x.den < 72057594037927936)) = true := by
  rw [Bd32' h h1 h2, Bd32' h' h3 h4]
  simp only [Bool.true_and, Bool.and_eq_true, decide_eq_true_eq]
  exact ⟨h.cross h' h5, h'.cross h h6⟩
theorem Bd64 {x : Rat} {n d : Nat} (h : Prof.Bd x n d) (h1 : n < 18446744073709551616) (h2 : d < 18446744073709551616) : s64 x = true := by
  simp only [s64, Bool.and_eq_true, decide_eq_true_eq]
  exact ⟨Nat.lt_of_le_of_lt h.1 h1, Nat.lt_of_le_of_lt h.2 h2⟩
include hG in
theorem orc146 : OrcOK Tryd.prog G O146 := .cons (ok26 hG) (.cons (ok41 hG) (.cons (ok97 hG) .nil))
include hG in
theorem ok146 : SpecOK Tryd.prog G 121 s146 := by
  refine spec_of hG (orc146 hG) mix enter146 (L := []) (pol := {}) fun args hs K x h => ?_
  unfold s146 at h
  split at h
  case h_2 => cases h
  rename_i ax w1 ay w2 bx w3 by_ w4 cx w5 cy w6
  obtain ⟨hc, hr⟩ := Tr.of_br h
  simp only [Bool.and_eq_true, cB_iff] at hc
  obtain ⟨⟨⟨⟨⟨h1, h2⟩, h3⟩, h4⟩, h5⟩, h6⟩ := hc
  refine ⟨LpsOK.none (by kernel_rfl), _, _, _, ?_, .refl _, hr⟩
  have d1 := h3.sub h1
  have d2 := h6.sub h2
  have d3 := h4.sub h2
  have d4 := h5.sub h1
  have m1 := d1.mul d2
  have m2 := d3.mul d4
  rw [e146, Tr.run_t (subOk h3 h1 (by omega) (by omega) (by omega) (by omega) (by omega) (by omega)), Tr.run_t (subOk h4 h2 (by omega) (by omega) (by omega) (by omega) (by omega) (by omega)),
    Tr.run_t (subOk h5 h1 (by omega) (by omega) (by omega) (by omega) (by omega) (by omega)), Tr.run_t (subOk h6 h2 (by omega) (by omega) (by omega) (by omega) (by omega) (by omega)),
    Tr.run_t (by rw [Bd32' d1 (by omega) (by omega), Bd32' d2 (by omega) (by omega)]; rfl), Tr.run_t (by rw [Bd32' d3 (by omega) (by omega), Bd32' d4 (by omega) (by omega)]; rfl),
    Tr.run_t (subOk m1 m2 (by omega) (by omega) (by omega) (by omega) (by omega) (by omega)), Tr.run_t (Bd64 (m1.sub m2) (by omega) (by omega)), Tr.run_ok]
  rfl
def pv (px py : Nat → Rat) : Nat → PV := fun i => .agg [.q (px i) 64, .q (py i) 64]
noncomputable def b135 : Code := (loopsOf (bodyC Tryd.f81)).getD 0 .skip
noncomputable def i135 : Code := (loopsOf (bodyC Tryd.f81)).getD 1 .skip
def pol135 : Pol := { live := [(7, [0, 4, 5, 18, 19, 20]), (10, [0, 4, 5, 6, 7, 8, 18, 19, 20])] }
theorem enter135 : Enters Tryd.prog 81 Tryd.f81 (bodyC Tryd.f81) := ⟨Tryd.func81, by kernel_rfl, rfl⟩
theorem q135 (n : Nat) (px py : Nat → Rat) (e m i k : Int) (x y : Rat) : evRound Tryd.prog [(121, s146)] [] pol135 Tryd.f81.ntmps 0 [0, 4, 5, 6, 7, 8, 18, 19, 20] i135 ⟨[.lst 6 (.fn n (pv px py)), .i .i64 e, .i .i64 m, .i .i64 i, .ptr 0 6 0 0 [], .i .i64 k, .lst 6 (.fn n (pv px py)), .i .i64 m, .i .i64 i], [some ⟨6, .vals [.agg [.q x 64, .q y 64]]⟩]⟩ =
  Tr.br (decide (k < m)) (.br (ib (i + (1 : Int))) (.br (!decide (m = (0 : Int))) (.br (ix ((i + (1 : Int)).tmod m) ((↑n : Int))) (.br (ib (i + k)) (.br (!decide (m = (0 : Int))) (.br (ix ((i + k).tmod m) ((↑n : Int))) (.br (cB x && cB y && cB (px ((i + (1 : Int)).tmod m).toNat) && cB (py ((i + (1 : Int)).tmod m).toNat) && cB (px ((i + k).tmod m).toNat) && cB (py ((i + k).tmod m).toNat)) (.br (decide (rcmp (tri x y (px ((i + (1 : Int)).tmod m).toNat) (py ((i + (1 : Int)).tmod m).toNat) (px ((i + k).tmod m).toNat) (py ((i + k).tmod m).toNat)) (0 : Rat) ≤ (0 : Int))) (.ok (.out .ret (LS.mk [.lst 6 (.fn n fun (a : Nat) => .agg [.q (px a) 64, .q (py a) 64]), .i .i64 (3 : Int), .i .i64 m, .i .i64 i, .ptr 0 6 0 0 [], .i .i64 k, .lst 6 (.fn n fun (a : Nat) => .agg [.q (px a) 64, .q (py a) 64]), .i .i64 m, .i .i64 i] [some (.mk 6 (.vals [.agg [.q x 64, .q y 64]]))]))) (.br (ib (k + (1 : Int))) (.ok (.out .normal (LS.mk [.lst 6 (.fn n fun (a : Nat) => .agg [.q (px a) 64, .q (py a) 64]), .i .i64 e, .i .i64 m, .i .i64 i, .ptr 0 6 0 0 [], .i .i64 (k + (1 : Int)), .lst 6 (.fn n fun (a : Nat) => .agg [.q (px a) 64, .q (py a) 64]), .i .i64 m, .i .i64 i] [some (.mk 6 (.vals [.agg [.q x 64, .q y 64]]))]))) (.no 12002))) (.no 1)) (.no 13004)) (.no 13005)) (.no 13007)) (.no 13012)) (.no 13013)) (.no 13015)) (.ok (.out (.exit 3) (LS.mk [.lst 6 (.fn n fun (a : Nat) => .agg [.q (px a) 64, .q (py a) 64]), .i .i64 e, .i .i64 m, .i .i64 i, .ptr 0 6 0 0 [], .i .i64 k, .lst 6 (.fn n fun (a : Nat) => .agg [.q (px a) 64, .q (py a) 64]), .i .i64 m, .i .i64 i] [some (.mk 6 (.vals [.agg [.q x 64, .q y 64]]))]))) := by kernel_rfl
def polyB (n : Nat) (px py : Nat → Rat) : Bool := decide (3 ≤ n) && decide (n ≤ 8) && (List.range n).all (fun i => cB (px i) && cB (py i)) &&
  (List.range n).all (fun i => (List.range n).all fun k => decide (k < 2) || decide (0 < tri (px i) (py i) (px ((i + 1) % n)) (py ((i + 1) % n)) (px ((i + k) % n)) (py ((i + k) % n))))
theorem polyB_c {n : Nat} {px py : Nat → Rat} (h : polyB n px py = true) : 3 ≤ n ∧ n ≤ 8 ∧ (∀ i, i < n → cB (px i) = true ∧ cB (py i) = true) ∧
    ∀ i k, i < n → 2 ≤ k → k < n → 0 < tri (px i) (py i) (px ((i + 1) % n)) (py ((i + 1) % n)) (px ((i + k) % n)) (py ((i + k) % n)) := by
  simp only [polyB, Bool.and_eq_true, decide_eq_true_eq, List.all_eq_true, List.mem_range, Bool.or_eq_true] at h
  obtain ⟨⟨⟨h1, h2⟩, h3⟩, h4⟩ := h
  exact ⟨h1, h2, h3, fun i k hi hk hkn => (h4 i hi k hkn).resolve_left (by omega)⟩
def sti135 (n i : Nat) (px py : Nat → Rat) (k : Int) : LS := ⟨[.lst 6 (.fn n (pv px py)), .i .i64 0, .i .i64 n, .i .i64 i, .ptr 0 6 0 0 [], .i .i64 k, .lst 6 (.fn n (pv px py)), .i .i64 n, .i .i64 i], [some ⟨6, .vals [.agg [.q (px i) 64, .q (py i) 64]]⟩]⟩
def Pi135 (ls : LS) : Prop := ∃ n i px py, ls = sti135 n i px py 2 ∧ i < n ∧ polyB n px py = true
noncomputable def li135 : LSpec := fun ls K => .br (decP (Pi135 ls)) (K (.exit 3) ⟨ls.t.set 5 (ls.t.getD 2 .any), ls.h⟩) (.no 1)
include hG in
theorem orc135 : OrcOK Tryd.prog G [(121, s146)] := .cons (ok146 hG) .nil
include hG in
theorem loopi135 : LoopOK Tryd.prog G Tryd.f81.ntmps 0 [0, 4, 5, 6, 7, 8, 18, 19, 20] i135 li135 := by
  intro ls K y hm h
  obtain ⟨hc, hr⟩ := Tr.of_br h
  obtain ⟨n, i, px, py, rfl, hi, hp⟩ := decP_iff.1 hc
  obtain ⟨p1, p2, p3, p4⟩ := polyB_c hp
  refine ⟨_, _, goes_ok (Goes.count (R := Rnd Tryd.prog G Tryd.f81.ntmps 0 [0, 4, 5, 6, 7, 8, 18, 19, 20] i135) (fun k => sti135 n i px py ((k : Nat) : Int)) (e := .exit 3) (ls' := sti135 n i px py n) (by simp) (n - 2) 2 (fun k hk2 hk => ?_) ?_), hr⟩
  · refine round_ok hG (orc135 hG) mix (L := []) (pol := pol135) (O := [(121, s146)]) (LpsOK.none (by kernel_rfl)) (Nat.zero_le _) ?_
    have e1 : (((i : Nat) : Int) + 1).tmod n = (((i + 1) % n : Nat) : Int) := tmod_nat (i + 1) n
    have e2 : (((i : Nat) : Int) + ((k : Nat) : Int)).tmod n = (((i + k) % n : Nat) : Int) := tmod_nat (i + k) n
    have m1 := Nat.mod_lt (i + 1) (show 0 < n by omega)
    have m2 := Nat.mod_lt (i + k) (show 0 < n by omega)
    unfold sti135
    rw [q135, e1, e2, Int.toNat_natCast, Int.toNat_natCast]
    have c1 := p3 i hi
    have c2 := p3 _ m1
    have c3 := p3 _ m2
    have c4 := p4 i k hi hk2 (by omega)
    generalize (i + 1) % n = u at *
    generalize (i + k) % n = v at *
    rw [Tr.run_t (decide_eq_true (by omega)), Tr.run_t (by simp only [Bool.and_eq_true, decide_eq_true_eq]; omega), Tr.run_t (by rw [Bool.not_eq_true', decide_eq_false_iff_not]; omega), Tr.run_t (by simp only [Bool.and_eq_true, decide_eq_true_eq]; omega), Tr.run_t (by simp only [Bool.and_eq_true, decide_eq_true_eq]; omega), Tr.run_t (by rw [Bool.not_eq_true', decide_eq_false_iff_not]; omega),
      Tr.run_t (by simp only [Bool.and_eq_true, decide_eq_true_eq]; omega), Tr.run_t (by rw [c1.1, c1.2, c2.1, c2.2, c3.1, c3.2]; rfl), Tr.run_f (decide_eq_false (by rw [rcmp_le]; exact Rat.not_le.2 c4)), Tr.run_t (by simp only [Bool.and_eq_true, decide_eq_true_eq]; omega), Tr.run_ok]
    rfl
  · refine round_ok hG (orc135 hG) mix (L := []) (pol := pol135) (O := [(121, s146)]) (LpsOK.none (by kernel_rfl)) (Nat.zero_le _) ?_
    unfold sti135
    rw [q135, Tr.run_f (decide_eq_false (by omega)), Tr.run_ok, show ((2 + (n - 2) : Nat) : Int) = (n : Int) by omega]
    rfl
theorem r135 (n : Nat) (px py : Nat → Rat) (m i : Int) : evRound Tryd.prog [(121, s146)] [(10, li135)] pol135 Tryd.f81.ntmps 0 [0, 4, 5, 18, 19, 20] b135 ⟨[.lst 6 (.fn n (pv px py)), .i .i64 0, .i .i64 m, .lst 6 (.fn n (pv px py)), .i .i64 m, .i .i64 i], []⟩ =
  Tr.br (decide (i < m)) (.br (ix (i) ((↑n : Int))) (.br (decP (Pi135 (LS.mk [.lst 6 (.fn n fun (a : Nat) => .agg [.q (px a) 64, .q (py a) 64]), .i .i64 (0 : Int), .i .i64 m, .i .i64 i, .ptr 0 6 0 0 [], .i .i64 (2 : Int), .lst 6 (.fn n fun (a : Nat) => .agg [.q (px a) 64, .q (py a) 64]), .i .i64 m, .i .i64 i] [some (.mk 6 (.vals [.agg [.q (px i.toNat) 64, .q (py i.toNat) 64]]))]))) (.br (ib (i + (1 : Int))) (.ok (.out .normal (LS.mk [.lst 6 (.fn n fun (a : Nat) => .agg [.q (px a) 64, .q (py a) 64]), .i .i64 (0 : Int), .i .i64 m, .lst 6 (.fn n fun (a : Nat) => .agg [.q (px a) 64, .q (py a) 64]), .i .i64 m, .i .i64 (i + (1 : Int))] []))) (.no 15002)) (.no 1)) (.no 9005)) (.ok (.out (.exit 1) (LS.mk [.lst 6 (.fn n fun (a : Nat) => .agg [.q (px a) 64, .q (py a) 64]), .i .i64 (0 : Int), .i .i64 m, .lst 6 (.fn n fun (a : Nat) => .agg [.q (px a) 64, .q (py a) 64]), .i .i64 m, .i .i64 i] []))) := by kernel_rfl
def sto135 (n : Nat) (px py : Nat → Rat) (i : Int) : LS := ⟨[.lst 6 (.fn n (pv px py)), .i .i64 0, .i .i64 n, .lst 6 (.fn n (pv px py)), .i .i64 n, .i .i64 i], []⟩
def Po135 (ls : LS) : Prop := ∃ n px py, ls = sto135 n px py 0 ∧ polyB n px py = true
noncomputable def lo135 : LSpec := fun ls K => .br (decP (Po135 ls)) (K (.exit 1) ⟨ls.t.set 5 (ls.t.getD 2 .any), ls.h⟩) (.no 1)
include hG in
theorem lps135 {m : Nat} (hm : m = 0) : LpsOK Tryd.prog G pol135 Tryd.f81.ntmps m [(10, li135)] b135 := by
  subst hm
  exact lps1 (b := i135) (live := [0, 4, 5, 6, 7, 8, 18, 19, 20]) (sp := li135) (by kernel_rfl) (by kernel_rfl) (by kernel_rfl) (loopi135 hG)
include hG in
theorem loopo135 : LoopOK Tryd.prog G Tryd.f81.ntmps 0 [0, 4, 5, 18, 19, 20] b135 lo135 := by
  intro ls K y hm h
  obtain ⟨hc, hr⟩ := Tr.of_br h
  obtain ⟨n, px, py, rfl, hp⟩ := decP_iff.1 hc
  obtain ⟨p1, p2, p3, p4⟩ := polyB_c hp
  refine ⟨_, _, goes_ok (Goes.count (R := Rnd Tryd.prog G Tryd.f81.ntmps 0 [0, 4, 5, 18, 19, 20] b135) (fun i => sto135 n px py ((i : Nat) : Int)) (e := .exit 1) (ls' := sto135 n px py n) (by simp) n 0 (fun i _ hi => ?_) ?_), hr⟩
  · refine round_ok hG (orc135 hG) mix (L := [(10, li135)]) (pol := pol135) (O := [(121, s146)]) (lps135 hG rfl) (Nat.zero_le _) ?_
    unfold sto135
    rw [r135, Int.toNat_natCast, Tr.run_t (decide_eq_true (by omega)), Tr.run_t (by simp only [Bool.and_eq_true, decide_eq_true_eq]; omega), Tr.run_t (decP_iff.2 ⟨n, i, px, py, rfl, by omega, hp⟩), Tr.run_t (by simp only [Bool.and_eq_true, decide_eq_true_eq]; omega), Tr.run_ok]
    rfl
  · refine round_ok hG (orc135 hG) mix (L := [(10, li135)]) (pol := pol135) (O := [(121, s146)]) (lps135 hG rfl) (Nat.zero_le _) ?_
    unfold sto135
    rw [r135, Tr.run_f (decide_eq_false (by omega)), Tr.run_ok, Nat.zero_add]
    rfl
theorem e135 (n : Nat) (px py : Nat → Rat) : evF Tryd.prog [(121, s146)] [(7, lo135), (10, li135)] pol135 Tryd.f81 [.lst 6 (.fn n (pv px py)), .i .i64 8] [] retK =
  Tr.br (decide ((8 : Int) < (↑n : Int))) (.ok (.ret (.i .i64 (2 : Int)) [])) (.br (decide ((↑n : Int) < (3 : Int))) (.ok (.ret (.i .i64 (3 : Int)) [])) (.br (decP (Po135 (LS.mk [.lst 6 (.fn n fun (a : Nat) => .agg [.q (px a) 64, .q (py a) 64]), .i .i64 (0 : Int), .i .i64 (↑n : Int), .lst 6 (.fn n fun (a : Nat) => .agg [.q (px a) 64, .q (py a) 64]), .i .i64 (↑n : Int), .i .i64 (0 : Int)] []))) (.ok (.ret (.i .i64 (0 : Int)) [])) (.no 1))) := by kernel_rfl
def P135 (args : List PV) : Prop := ∃ v n px py, args = [v, .i .i64 8] ∧ VLe v (.lst 6 (.fn n (pv px py))) ∧ polyB n px py = true
noncomputable def s135 : Spec := fun args hs K => match hs with
  | [] => .br (decP (P135 args)) (K (.i .i64 0) []) (.no 1)
  | _ => .no 1
theorem loops135 : loopsOf (bodyC Tryd.f81) = [b135, i135] := by kernel_rfl
include hG in
theorem ok135 : SpecOK Tryd.prog G 81 s135 := by
  intro args hs K x h
  unfold s135 at h
  split at h
  case h_2 => cases h
  obtain ⟨hc, hr⟩ := Tr.of_br h
  obtain ⟨v, n, px, py, rfl, hv, hp⟩ := decP_iff.1 hc
  obtain ⟨p1, p2, p3, p4⟩ := polyB_c hp
  refine ⟨_, _, PC.args (.cons hv (.refl _)) (evF_pc hG (orc135 hG) mix enter135 (hs := []) (L := [(7, lo135), (10, li135)]) (pol := pol135) (O := [(121, s146)]) (LpsOK.of loops135 fun a ha live sp h1 h2 => ?_) ?_), hr⟩
  · simp only [List.mem_cons, List.not_mem_nil, or_false] at ha
    rcases ha with rfl | rfl
    · have e1 : assoc (firstReg b135) pol135.live = some [0, 4, 5, 18, 19, 20] := by kernel_rfl
      have e2 : Lps.look (firstReg b135) [(7, lo135), (10, li135)] = some lo135 := by kernel_rfl
      rw [e1] at h1; rw [e2] at h2; cases h1; cases h2
      exact loopo135 hG
    · have e1 : assoc (firstReg i135) pol135.live = some [0, 4, 5, 6, 7, 8, 18, 19, 20] := by kernel_rfl
      have e2 : Lps.look (firstReg i135) [(7, lo135), (10, li135)] = some li135 := by kernel_rfl
      rw [e1] at h1; rw [e2] at h2; cases h1; cases h2
      exact loopi135 hG
  · rw [e135, Tr.run_f (decide_eq_false (by omega)), Tr.run_f (decide_eq_false (by omega)), Tr.run_t (decP_iff.2 ⟨n, px, py, rfl, hp⟩), Tr.run_ok]
theorem enter126 : Enters Tryd.prog 35 Tryd.f35 (bodyC Tryd.f35) := ⟨Tryd.func35, by kernel_rfl, rfl⟩
noncomputable def s126 : Spec := evF Tryd.prog [(81, s135)] [] {} Tryd.f35
include hG in
theorem ok126 : SpecOK Tryd.prog G 35 s126 := spec_ev hG (.cons (ok135 hG) .nil) mix enter126 (fun _ => LpsOK.none (by kernel_rfl))
end Go.Proofs.YtnenjkgffapplaaDoor.PE
namespace Go.Proofs.YtnenjkgffapplaaDoor.PE
open Go
set_option maxRecDepth 100000
variable {G : World → (Nat → Prop) → Prop} (hG : GOk G)
structure Lk where
  len : Rat
  low : Rat
  high : Rat
  spd : Rat
  brk : Rat
  np : Nat
  px : Nat → Rat
  py : Nat → Rat
def lkPV (d : Lk) : PV := .agg [.q d.len 64, .q d.low 64, .q d.high 64, .q d.spd 64, .q d.brk 64, .lst 6 (.fn d.np (pv d.px d.py))]
def lkB (d : Lk) : Bool := smQ d.len && smQ d.low && smQ d.high && smQ d.spd && smQ d.brk && decide (0 < d.len) && decide (d.low < d.high) && decide (0 < d.spd) && decide (0 < d.brk) && polyB d.np d.px d.py
noncomputable def b96 : Code := (loopsOf (bodyC Tryd.f125)).getD 0 .skip
def pol96 : Pol := { live := [(9, [2, 50, 51, 52])] }
noncomputable def O96 : Orc := [(31, s26), (36, s27), (124, s95), (35, s126)]
theorem enter96 : Enters Tryd.prog 125 Tryd.f125 (bodyC Tryd.f125) := ⟨Tryd.func125, by kernel_rfl, rfl⟩
def st96 (n : Nat) (px py : Nat → Rat) (i : Int) : LS := ⟨[.i .i64 0, .lst 6 (.fn n (pv px py)), .i .i64 n, .i .i64 i], []⟩
theorem r96 (n : Nat) (px py : Nat → Rat) (i : Int) : evRound Tryd.prog O96 [] pol96 Tryd.f125.ntmps 0 [2, 50, 51, 52] b96 (st96 n px py i) =
  Tr.br (decide (i < (↑n : Int))) (.br (ix (i) ((↑n : Int))) (.br (decide ([px i.toNat, py i.toNat].length ≤ (1073741824 : Nat)) && [px i.toNat, py i.toNat].all smQ) (.br (ib (i + (1 : Int))) (.ok (.out .normal (LS.mk [.i .i64 (0 : Int), .lst 6 (.fn n fun (a : Nat) => .agg [.q (px a) 64, .q (py a) 64]), .i .i64 (↑n : Int), .i .i64 (i + (1 : Int))] []))) (.no 14002)) (.no 1)) (.no 11004)) (.ok (.out (.exit 0) (LS.mk [.i .i64 (0 : Int), .lst 6 (.fn n fun (a : Nat) => .agg [.q (px a) 64, .q (py a) 64]), .i .i64 (↑n : Int), .i .i64 i] []))) := by kernel_rfl
def Pl96 (ls : LS) : Prop := ∃ n px py, ls = st96 n px py 0 ∧ polyB n px py = true
noncomputable def l96 : LSpec := fun ls K => .br (decP (Pl96 ls)) (K (.exit 0) ⟨ls.t.set 3 (ls.t.getD 2 .any), ls.h⟩) (.no 1)
theorem e96 (d : Lk) : evF Tryd.prog O96 [(9, l96)] pol96 Tryd.f125 [lkPV d] [] retK =
  Tr.br (decide ([d.len, d.low, d.high, d.spd, d.brk].length ≤ (1073741824 : Nat)) && [d.len, d.low, d.high, d.spd, d.brk].all smQ) (.br (s64 d.len) (.br (decide (rcmp d.len (0 : Rat) ≤ (0 : Int))) (.ok (.ret (.i .i64 (1 : Int)) [])) (.br (s32 d.low && s32 d.high) (.br (decide ((0 : Int) ≤ rcmp d.low d.high)) (.ok (.ret (.i .i64 (1 : Int)) [])) (.br (s64 d.spd) (.br (decide (rcmp d.spd (0 : Rat) ≤ (0 : Int))) (.ok (.ret (.i .i64 (1 : Int)) [])) (.br (s64 d.brk) (.br (decide (rcmp d.brk (0 : Rat) ≤ (0 : Int))) (.ok (.ret (.i .i64 (1 : Int)) [])) (.br (decP (P135 [.lst 6 (.fn d.np fun (a : Nat) => .agg [.q (d.px a) 64, .q (d.py a) 64]), .i .i64 (8 : Int)])) (.br (!decide ((0 : Int) = (0 : Int))) (.ok (.ret (.i .i64 (0 : Int)) [])) (.br (decP (Pl96 (LS.mk [.i .i64 (0 : Int), .lst 6 (.fn d.np fun (a : Nat) => .agg [.q (d.px a) 64, .q (d.py a) 64]), .i .i64 (↑d.np : Int), .i .i64 (0 : Int)] []))) (.ok (.ret (.i .i64 (0 : Int)) [])) (.no 1))) (.no 1))) (.no 1))) (.no 1))) (.no 1))) (.no 1)) (.no 1) := by kernel_rfl
def P96 (args : List PV) : Prop := ∃ v d, args = [v] ∧ VLe v (lkPV d) ∧ lkB d = true
noncomputable def s96 : Spec := fun args hs K => match hs with
  | [] => .br (decP (P96 args)) (K (.i .i64 0) []) (.no 1)
  | _ => .no 1
theorem cB_smQ {x : Rat} (h : cB x = true) : smQ x = true := by
  simp only [cB, Bool.and_eq_true, decide_eq_true_eq] at h
  exact smQ_iff.2 ⟨by omega, by omega⟩
theorem smQ_s32 {x : Rat} (h : smQ x = true) : s32 x = true := by
  have := smQ_iff.1 h
  exact s32_iff.2 ⟨by omega, by omega⟩
theorem lkB_c {d : Lk} (h : lkB d = true) : smQ d.len = true ∧ smQ d.low = true ∧ smQ d.high = true ∧ smQ d.spd = true ∧ smQ d.brk = true ∧ 0 < d.len ∧ d.low < d.high ∧ 0 < d.spd ∧ 0 < d.brk ∧ polyB d.np d.px d.py = true := by
  simp only [lkB, Bool.and_eq_true, decide_eq_true_eq] at h
  obtain ⟨⟨⟨⟨⟨⟨⟨⟨⟨h1, h2⟩, h3⟩, h4⟩, h5⟩, h6⟩, h7⟩, h8⟩, h9⟩, h10⟩ := h
  exact ⟨h1, h2, h3, h4, h5, h6, h7, h8, h9, h10⟩
include hG in
theorem orc96 : OrcOK Tryd.prog G O96 := .cons (ok26 hG) (.cons (ok27 hG) (.cons (ok95 hG) (.cons (ok126 hG) .nil)))
include hG in
theorem loop96 : LoopOK Tryd.prog G Tryd.f125.ntmps 0 [2, 50, 51, 52] b96 l96 := by
  intro ls K y hm h
  obtain ⟨hc, hr⟩ := Tr.of_br h
  obtain ⟨n, px, py, rfl, hp⟩ := decP_iff.1 hc
  obtain ⟨p1, p2, p3, p4⟩ := polyB_c hp
  refine ⟨_, _, goes_ok (Goes.count (R := Rnd Tryd.prog G Tryd.f125.ntmps 0 [2, 50, 51, 52] b96) (fun i => st96 n px py ((i : Nat) : Int)) (e := .exit 0) (ls' := st96 n px py n) (by simp) n 0 (fun i _ hi => ?_) ?_), hr⟩
  · refine round_ok hG (orc96 hG) mix (L := []) (pol := pol96) (O := O96) (LpsOK.none (by kernel_rfl)) (Nat.zero_le _) ?_
    have c := p3 i (by omega)
    rw [r96, Int.toNat_natCast, Tr.run_t (decide_eq_true (by omega)), Tr.run_t (by simp only [Bool.and_eq_true, decide_eq_true_eq]; omega), Tr.run_t (by
      simp only [List.all_cons, List.all_nil, cB_smQ c.1, cB_smQ c.2, List.length_cons, List.length_nil]; rfl), Tr.run_t (by simp only [Bool.and_eq_true, decide_eq_true_eq]; omega), Tr.run_ok]
    rfl
  · refine round_ok hG (orc96 hG) mix (L := []) (pol := pol96) (O := O96) (LpsOK.none (by kernel_rfl)) (Nat.zero_le _) ?_
    rw [r96, Tr.run_f (decide_eq_false (by omega)), Tr.run_ok, Nat.zero_add]
    rfl
include hG in
theorem ok96 : SpecOK Tryd.prog G 125 s96 := by
  intro args hs K x h
  unfold s96 at h
  split at h
  case h_2 => cases h
  obtain ⟨hc, hr⟩ := Tr.of_br h
  obtain ⟨v, d, rfl, hv, hd⟩ := decP_iff.1 hc
  obtain ⟨h1, h2, h3, h4, h5, h6, h7, h8, h9, h10⟩ := lkB_c hd
  refine ⟨_, _, PC.args (.cons hv (.refl _)) (evF_pc hG (orc96 hG) mix enter96 (hs := []) (L := [(9, l96)]) (pol := pol96) (O := O96) (lps1 (b := b96) (live := [2, 50, 51, 52]) (sp := l96) (m := 0) (by kernel_rfl) (by kernel_rfl) (by kernel_rfl) (loop96 hG)) ?_), hr⟩
  rw [e96, Tr.run_t (by simp only [List.all_cons, List.all_nil, h1, h2, h3, h4, h5, List.length_cons, List.length_nil]; rfl),
    Tr.run_t (s32_s64 (smQ_s32 h1)), Tr.run_f (decide_eq_false (by rw [rcmp_le]; exact Rat.not_le.2 h6)), Tr.run_t (by rw [smQ_s32 h2, smQ_s32 h3]; rfl), Tr.run_f (decide_eq_false (by rw [rcmp_ge]; exact Rat.not_le.2 h7)),
    Tr.run_t (s32_s64 (smQ_s32 h4)), Tr.run_f (decide_eq_false (by rw [rcmp_le]; exact Rat.not_le.2 h8)), Tr.run_t (s32_s64 (smQ_s32 h5)), Tr.run_f (decide_eq_false (by rw [rcmp_le]; exact Rat.not_le.2 h9)),
    Tr.run_t (decP_iff.2 ⟨_, d.np, d.px, d.py, rfl, .refl _, h10⟩), Tr.run_f (by decide), Tr.run_t (decP_iff.2 ⟨d.np, d.px, d.py, rfl, h10⟩), Tr.run_ok]

structure Am where
  name : ByteArray
  bx : Rat
  by_ : Rat
  t : Rat
  n : Nat
  lk : Nat → Lk
def armPV (A : Am) : PV := .agg [.s A.name, .agg [.agg [.q A.bx 64, .q A.by_ 64], .agg [.bl false, .q A.t 64]], .lst 16 (.fn A.n (fun j => lkPV (A.lk j)))]
def armB (A : Am) : Bool := isNm A.name && smQ A.bx && smQ A.by_ && smQ A.t && decide (1 ≤ A.n) && decide (A.n ≤ 3) && (List.range A.n).all (fun j => lkB (A.lk j))
theorem armB_c {A : Am} (h : armB A = true) : isNm A.name = true ∧ smQ A.bx = true ∧ smQ A.by_ = true ∧ smQ A.t = true ∧ 1 ≤ A.n ∧ A.n ≤ 3 ∧ ∀ j, j < A.n → lkB (A.lk j) = true := by
  simp only [armB, Bool.and_eq_true, decide_eq_true_eq, List.all_eq_true, List.mem_range] at h
  obtain ⟨⟨⟨⟨⟨⟨h1, h2⟩, h3⟩, h4⟩, h5⟩, h6⟩, h7⟩ := h
  exact ⟨h1, h2, h3, h4, h5, h6, h7⟩
noncomputable def b52 : Code := (loopsOf (bodyC Tryd.f91)).getD 0 .skip
def pol52 : Pol := { live := [(9, [2, 48, 49, 50])] }
noncomputable def O52 : Orc := [(31, s26), (123, s94), (124, s95), (125, s96)]
theorem enter52 : Enters Tryd.prog 91 Tryd.f91 (bodyC Tryd.f91) := ⟨Tryd.func91, by kernel_rfl, rfl⟩
def st52 (n : Nat) (lk : Nat → Lk) (i : Int) : LS := ⟨[.i .i64 0, .lst 16 (.fn n (fun j => lkPV (lk j))), .i .i64 n, .i .i64 i], []⟩
theorem r52 (n : Nat) (lk : Nat → Lk) (i : Int) : evRound Tryd.prog O52 [] pol52 Tryd.f91.ntmps 0 [2, 48, 49, 50] b52 (st52 n lk i) =
  Tr.br (decide (i < (↑n : Int))) (.br (ix (i) ((↑n : Int))) (.br (decP (P96 [.agg [.q (lk i.toNat).len 64, .q (lk i.toNat).low 64, .q (lk i.toNat).high 64, .q (lk i.toNat).spd 64, .q (lk i.toNat).brk 64, .lst 6 (.fn (lk i.toNat).np fun (a : Nat) => .agg [.q ((lk i.toNat).px a) 64, .q ((lk i.toNat).py a) 64])]])) (.br (!decide ((0 : Int) = (0 : Int))) (.ok (.out .ret (LS.mk [.i .i64 (0 : Int), .lst 16 (.fn n fun (j : Nat) => .agg [.q (lk j).len 64, .q (lk j).low 64, .q (lk j).high 64, .q (lk j).spd 64, .q (lk j).brk 64, .lst 6 (.fn (lk j).np fun (a : Nat) => .agg [.q ((lk j).px a) 64, .q ((lk j).py a) 64])]), .i .i64 (↑n : Int), .i .i64 i] []))) (.br (ib (i + (1 : Int))) (.ok (.out .normal (LS.mk [.i .i64 (0 : Int), .lst 16 (.fn n fun (j : Nat) => .agg [.q (lk j).len 64, .q (lk j).low 64, .q (lk j).high 64, .q (lk j).spd 64, .q (lk j).brk 64, .lst 6 (.fn (lk j).np fun (a : Nat) => .agg [.q ((lk j).px a) 64, .q ((lk j).py a) 64])]), .i .i64 (↑n : Int), .i .i64 (i + (1 : Int))] []))) (.no 15002))) (.no 1)) (.no 11004)) (.ok (.out (.exit 0) (LS.mk [.i .i64 (0 : Int), .lst 16 (.fn n fun (j : Nat) => .agg [.q (lk j).len 64, .q (lk j).low 64, .q (lk j).high 64, .q (lk j).spd 64, .q (lk j).brk 64, .lst 6 (.fn (lk j).np fun (a : Nat) => .agg [.q ((lk j).px a) 64, .q ((lk j).py a) 64])]), .i .i64 (↑n : Int), .i .i64 i] []))) := by kernel_rfl
def Pl52 (ls : LS) : Prop := ∃ n lk, ls = st52 n lk 0 ∧ n ≤ 3 ∧ ∀ j, j < n → lkB (lk j) = true
noncomputable def l52 : LSpec := fun ls K => .br (decP (Pl52 ls)) (K (.exit 0) ⟨ls.t.set 3 (ls.t.getD 2 .any), ls.h⟩) (.no 1)
theorem e52 (A : Am) : evF Tryd.prog O52 [(9, l52)] pol52 Tryd.f91 [armPV A] [] retK =
  Tr.br (isNm A.name) (.br (decide ((3 : Int) < (↑A.n : Int))) (.ok (.ret (.i .i64 (2 : Int)) [])) (.br (decide ((↑A.n : Int) = (0 : Int))) (.ok (.ret (.i .i64 (1 : Int)) [])) (.br (decide ([A.bx, A.by_, A.t].length ≤ (1073741824 : Nat)) && [A.bx, A.by_, A.t].all smQ) (.br (decP (Pl52 (LS.mk [.i .i64 (0 : Int), .lst 16 (.fn A.n fun (j : Nat) => .agg [.q (A.lk j).len 64, .q (A.lk j).low 64, .q (A.lk j).high 64, .q (A.lk j).spd 64, .q (A.lk j).brk 64, .lst 6 (.fn (A.lk j).np fun (a : Nat) => .agg [.q ((A.lk j).px a) 64, .q ((A.lk j).py a) 64])]), .i .i64 (↑A.n : Int), .i .i64 (0 : Int)] []))) (.ok (.ret (.i .i64 (0 : Int)) [])) (.no 1)) (.no 1)))) (.no 1) := by kernel_rfl
def P52 (args : List PV) : Prop := ∃ v A, args = [v] ∧ VLe v (armPV A) ∧ armB A = true
noncomputable def s52 : Spec := fun args hs K => match hs with
  | [] => .br (decP (P52 args)) (K (.i .i64 0) []) (.no 1)
  | _ => .no 1
include hG in
theorem orc52 : OrcOK Tryd.prog G O52 := .cons (ok26 hG) (.cons (ok94 hG) (.cons (ok95 hG) (.cons (ok96 hG) .nil)))
include hG in
theorem loop52 : LoopOK Tryd.prog G Tryd.f91.ntmps 0 [2, 48, 49, 50] b52 l52 := by
  intro ls K y hm h
  obtain ⟨hc, hr⟩ := Tr.of_br h
  obtain ⟨n, lk, rfl, hn, hp⟩ := decP_iff.1 hc
  refine ⟨_, _, goes_ok (Goes.count (R := Rnd Tryd.prog G Tryd.f91.ntmps 0 [2, 48, 49, 50] b52) (fun i => st52 n lk ((i : Nat) : Int)) (e := .exit 0) (ls' := st52 n lk n) (by simp) n 0 (fun i _ hi => ?_) ?_), hr⟩
  · refine round_ok hG (orc52 hG) mix (L := []) (pol := pol52) (O := O52) (LpsOK.none (by kernel_rfl)) (Nat.zero_le _) ?_
    rw [r52, Int.toNat_natCast, Tr.run_t (decide_eq_true (by omega)), Tr.run_t (by simp only [Bool.and_eq_true, decide_eq_true_eq]; omega), Tr.run_t (decP_iff.2 ⟨_, lk i, rfl, .refl _, hp i (by omega)⟩), Tr.run_f (by decide), Tr.run_t (by simp only [Bool.and_eq_true, decide_eq_true_eq]; omega), Tr.run_ok]
    rfl
  · refine round_ok hG (orc52 hG) mix (L := []) (pol := pol52) (O := O52) (LpsOK.none (by kernel_rfl)) (Nat.zero_le _) ?_
    rw [r52, Tr.run_f (decide_eq_false (by omega)), Tr.run_ok, Nat.zero_add]
    rfl
include hG in
theorem ok52 : SpecOK Tryd.prog G 91 s52 := by
  intro args hs K x h
  unfold s52 at h
  split at h
  case h_2 => cases h
  obtain ⟨hc, hr⟩ := Tr.of_br h
  obtain ⟨v, A, rfl, hv, hA⟩ := decP_iff.1 hc
  obtain ⟨h1, h2, h3, h4, h5, h6, h7⟩ := armB_c hA
  refine ⟨_, _, PC.args (.cons hv (.refl _)) (evF_pc hG (orc52 hG) mix enter52 (hs := []) (L := [(9, l52)]) (pol := pol52) (O := O52) (lps1 (b := b52) (live := [2, 48, 49, 50]) (sp := l52) (m := 0) (by kernel_rfl) (by kernel_rfl) (by kernel_rfl) (loop52 hG)) ?_), hr⟩
  rw [e52, Tr.run_t h1, Tr.run_f (decide_eq_false (by omega)), Tr.run_f (decide_eq_false (by omega)), Tr.run_t (by simp only [List.all_cons, List.all_nil, h2, h3, h4, List.length_cons, List.length_nil]; rfl)]
  first
    | rw [Tr.run_t (decP_iff.2 ⟨A.n, A.lk, rfl, h6, h7⟩), Tr.run_ok]
    | rw [Tr.run_f (by decide), Tr.run_t (decP_iff.2 ⟨A.n, A.lk, rfl, h6, h7⟩), Tr.run_ok]
theorem enter85 : Enters Tryd.prog 116 Tryd.f116 (bodyC Tryd.f116) := ⟨Tryd.func116, by kernel_rfl, rfl⟩
theorem e85 (A : Am) (k : Int) : evF Tryd.prog [(91, s52)] [] {} Tryd.f116 [armPV A, .i .i64 k] [] retK =
  Tr.br (decP (P52 [armPV A])) (.br (!decide ((0 : Int) = (0 : Int))) (.ok (.ret (.i .i64 (0 : Int)) [])) (.br (!decide (k = (↑A.n : Int))) (.ok (.ret (.i .i64 (1 : Int)) [])) (.ok (.ret (.i .i64 (0 : Int)) [])))) (.no 1) := by kernel_rfl
def P85 (args : List PV) : Prop := ∃ v A, args = [v, .i .i64 ((A.n : Nat) : Int)] ∧ VLe v (armPV A) ∧ armB A = true
noncomputable def s85 : Spec := fun args hs K => match hs with
  | [] => .br (decP (P85 args)) (K (.i .i64 0) []) (.no 1)
  | _ => .no 1
include hG in
theorem ok85 : SpecOK Tryd.prog G 116 s85 := by
  intro args hs K x h
  unfold s85 at h
  split at h
  case h_2 => cases h
  obtain ⟨hc, hr⟩ := Tr.of_br h
  obtain ⟨v, A, rfl, hv, hA⟩ := decP_iff.1 hc
  refine ⟨_, _, PC.args (.cons hv (.refl _)) (evF_pc hG (.cons (ok52 hG) .nil) mix enter85 (hs := []) (L := []) (pol := {}) (LpsOK.none (by kernel_rfl)) ?_), hr⟩
  rw [e85, Tr.run_t (decP_iff.2 ⟨_, A, rfl, .refl _, hA⟩), Tr.run_f (by decide), Tr.run_f (by simp), Tr.run_ok]
end Go.Proofs.YtnenjkgffapplaaDoor.PE
namespace Go.Proofs.YtnenjkgffapplaaDoor.PE
open Go
set_option maxRecDepth 100000
variable {G : World → (Nat → Prop) → Prop} (hG : GOk G)
def fldV (v : PV) (k : Nat) : PV := match v with
  | .agg vs => vs.getD k .any
  | _ => .any
def dq (v : PV) : Rat := match v with
  | .q x _ => x
  | _ => 0
def ds (v : PV) : ByteArray := match v with
  | .s x => x
  | _ => ⟨#[]⟩
def dn (v : PV) : Nat := match v with
  | .lst _ c => c.len
  | _ => 0
def dg' (v : PV) (i : Nat) : PV := match v with
  | .lst _ c => c.get i
  | _ => .any
def dLk (v : PV) : Lk := ⟨dq (fldV v 0), dq (fldV v 1), dq (fldV v 2), dq (fldV v 3), dq (fldV v 4), dn (fldV v 5), fun i => dq (fldV (dg' (fldV v 5) i) 0), fun i => dq (fldV (dg' (fldV v 5) i) 1)⟩
def dArm (v : PV) : Am := ⟨ds (fldV v 0), dq (fldV (fldV (fldV v 1) 0) 0), dq (fldV (fldV (fldV v 1) 0) 1), dq (fldV (fldV (fldV v 1) 1) 1), dn (fldV v 2), fun j => dLk (dg' (fldV v 2) j)⟩
def okA (v : PV) : Prop := VLe v (armPV (dArm v)) ∧ armB (dArm v) = true
theorem okA_arm {A : Am} (h : armB A = true) : okA (armPV A) := ⟨.refl _, h⟩
end Go.Proofs.YtnenjkgffapplaaDoor.PE
namespace Go.Proofs.YtnenjkgffapplaaDoor.PE
open Go
set_option maxRecDepth 100000
variable {G : World → (Nat → Prop) → Prop} (hG : GOk G)
theorem enter45 : Enters Tryd.prog 60 Tryd.f60 (bodyC Tryd.f60) := ⟨Tryd.func60, by kernel_rfl, rfl⟩
theorem e45 (l : List Int) (n : Int) : evF Tryd.prog [(49, s24)] [] {} Tryd.f60 [.ptr 0 1 0 0 [], .i .i64 n] [⟨1, .vals [.agg [.lst 1 (.ints .i64 l)]]⟩] retK =
  Tr.br (decide ((↑l.length : Int) = (0 : Int))) (.ok (.ret (PV.i .i64 (0 : Int)) [{ e := 1, c := Cont.vals [PV.agg [PV.lst 1 (.ints .i64 l)]] }])) (.br (decide (n < (1 : Int))) (.ok (.ret (PV.i .i64 (0 : Int)) [{ e := 1, c := Cont.vals [PV.agg [PV.lst 1 (.ints .i64 l)]] }])) (.br (ix ((0 : Int)) ((↑l.length : Int))) (.br (decide ((0 : Int) ≤ (1 : Int)) && decide ((1 : Int) ≤ (↑l.length : Int))) (.br (decide ((0 : Int) < n) && decide (n ≤ (4294967296 : Int))) (.ok (.ret (PV.i .i64 (l.getD (Int.toNat 0) (0 : Int) % n)) [{ e := 1, c := Cont.vals [PV.agg [PV.lst 1 (.ints .i64 (List.take ((Cont.ints .i64 l).len - Int.toNat (1 : Int)) (List.drop (Int.toNat (1 : Int)) l)))]] }])) (.no 1)) (.no 5004)) (.no 4003))) := by kernel_rfl
theorem e45n (n : Int) : evF Tryd.prog [(49, s24)] [] {} Tryd.f60 [.ptr 0 1 0 0 [], .i .i64 n] [⟨1, .vals [.agg [.nil]]⟩] retK =
  Tr.br (decide ((0 : Int) = (0 : Int))) (.ok (.ret (PV.i .i64 (0 : Int)) [{ e := 1, c := Cont.vals [PV.agg [PV.nil]] }])) (.br (decide (n < (1 : Int))) (.ok (.ret (PV.i .i64 (0 : Int)) [{ e := 1, c := Cont.vals [PV.agg [PV.nil]] }])) (.no 4003)) := by kernel_rfl
def nx (v : PV) (n : Int) : Int := (intsW v).headD 0 % n
def rs (v : PV) : PV := match v with
  | .lst 1 (.ints .i64 xs) => .lst 1 (.ints .i64 xs.tail)
  | v => v
theorem okW_rs {v : PV} (h : okW v = true) : okW (rs v) = true := by
  rcases okW_cases h with rfl | ⟨xs, rfl⟩ <;> rfl
theorem nx_range (v : PV) {n : Int} (h : 0 < n) : 0 ≤ nx v n ∧ nx v n < n := ⟨Int.emod_nonneg _ (by omega), Int.emod_lt_of_pos _ h⟩
def s45 : Spec := fun args hs K => match args, hs with
  | [.ptr 0 1 0 0 [], .i .i64 n], [⟨1, .vals [.agg [.w v]]⟩] => .br (okW v && decide (0 < n) && decide (n ≤ 4294967296)) (K (.i .i64 (nx v n)) [⟨1, .vals [.agg [.w (rs v)]]⟩]) (.no 1)
  | _, _ => .no 1
include hG in
theorem ok45 : SpecOK Tryd.prog G 60 s45 := by
  intro args hs K x h
  unfold s45 at h
  split at h
  case h_2 => cases h
  rename_i n v
  obtain ⟨hc, hr⟩ := Tr.of_br h
  simp only [Bool.and_eq_true, decide_eq_true_eq] at hc
  obtain ⟨⟨hw, h0⟩, h1⟩ := hc
  have ho := KsLe.one (KLe.vals (e := 1) (VLeL.cons (VLe.agg (VLeL.cons (vle_w_out hw) .nil)) .nil))
  have hi := KsLe.one (KLe.vals (e := 1) (VLeL.cons (VLe.agg (VLeL.cons (vle_w_in (okW_rs hw)) .nil)) .nil))
  refine ⟨_, _, PC.blocks ho (PC.le (r := .i .i64 (nx v n)) (hs' := [⟨1, .vals [.agg [rs v]]⟩]) ?_ (.refl _) hi), hr⟩
  rcases okW_cases hw with rfl | ⟨l, rfl⟩
  · refine evF_pc hG (.cons (ok24 hG) .nil) mix enter45 (L := []) (pol := {}) (LpsOK.none (by kernel_rfl)) ?_
    rw [e45n, Tr.run_t (by decide), Tr.run_ok]
    show some (Res.ret (.i .i64 0) _) = some (Res.ret (.i .i64 (0 % n)) _)
    rw [Int.zero_emod]; rfl
  · refine evF_pc hG (.cons (ok24 hG) .nil) mix enter45 (L := []) (pol := {}) (LpsOK.none (by kernel_rfl)) ?_
    rw [e45]
    cases l with
    | nil =>
      rw [Tr.run_t (by decide), Tr.run_ok]
      show some (Res.ret (.i .i64 0) _) = some (Res.ret (.i .i64 (0 % n)) _)
      rw [Int.zero_emod]; rfl
    | cons y ys =>
      have hl : (y :: ys).length = ys.length + 1 := rfl
      rw [Tr.run_f (decide_eq_false (by omega)), Tr.run_f (decide_eq_false (by omega)), Tr.run_t (by simp only [Bool.and_eq_true, decide_eq_true_eq]; omega), Tr.run_t (by simp only [Bool.and_eq_true, decide_eq_true_eq]; omega), Tr.run_t (by simp only [Bool.and_eq_true, decide_eq_true_eq]; omega), Tr.run_ok]
      have ht : List.take ((Cont.ints .i64 (y :: ys)).len - Int.toNat 1) (List.drop (Int.toNat 1) (y :: ys)) = ys := by
        show List.take (ys.length + 1 - 1) ys = ys
        rw [Nat.add_sub_cancel, List.take_length]
      rw [ht]
      rfl
theorem enter104 : Enters Tryd.prog 101 Tryd.f101 (bodyC Tryd.f101) := ⟨Tryd.func101, by kernel_rfl, rfl⟩
theorem e104 (a b : Int) : evF Tryd.prog [(75, s81)] [] {} Tryd.f101 [.i .i64 a, .i .i64 b] [] retK =
  Tr.br (decide ((0 : Int) < (4 : Int)) && decide ((4 : Int) < (4611686018427387904 : Int)) && decide ((-4611686018427387904 : Int) < a) && decide (a < (4611686018427387904 : Int))) (.br (decide ((0 : Int) < (4 : Int)) && decide ((4 : Int) < (4611686018427387904 : Int)) && decide ((-4611686018427387904 : Int) < b) && decide (b < (4611686018427387904 : Int))) (.ok (.ret (PV.agg [PV.q (mkRat a (Int.toNat (4 : Int))) 64, PV.q (mkRat b (Int.toNat (4 : Int))) 64]) [])) (.no 1)) (.no 1) := by kernel_rfl
def smI (a : Int) : Bool := decide (-1000000 < a) && decide (a < 1000000)
theorem smI_iff {a : Int} : smI a = true ↔ -1000000 < a ∧ a < 1000000 := by simp [smI]
def s104 : Spec := fun args hs K => match args, hs with
  | [.i .i64 a, .i .i64 b], [] => .br (smI a && smI b) (K (.agg [.q (mkRat a 4) 64, .q (mkRat b 4) 64]) []) (.no 1)
  | _, _ => .no 1
include hG in
theorem ok104 : SpecOK Tryd.prog G 101 s104 := by
  refine spec_of hG (.cons (ok81 hG) .nil) mix enter104 (L := []) (pol := {}) fun args hs K x h => ?_
  unfold s104 at h
  split at h
  case h_2 => cases h
  rename_i a b
  obtain ⟨hc, hr⟩ := Tr.of_br h
  simp only [Bool.and_eq_true, smI_iff] at hc
  refine ⟨LpsOK.none (by kernel_rfl), _, _, _, ?_, .refl _, hr⟩
  rw [e104]
  repeat rw [Tr.run_t (by simp only [Bool.and_eq_true, decide_eq_true_eq]; omega)]
  rw [Tr.run_ok]
  rfl
theorem enter105 : Enters Tryd.prog 102 Tryd.f102 (bodyC Tryd.f102) := ⟨Tryd.func102, by kernel_rfl, rfl⟩
theorem e105 (a b c d : Int) : evF Tryd.prog [(101, s104)] [] {} Tryd.f102 [.i .i64 a, .i .i64 b, .i .i64 c, .i .i64 d] [] retK =
  Tr.br (smI a && smI b) (.br (smI c && smI b) (.br (smI c && smI d) (.br (smI a && smI d) (.ok (.ret (PV.lst 6 (.vals [PV.agg [PV.q (mkRat a (4 : Nat)) 64, PV.q (mkRat b (4 : Nat)) 64], PV.agg [PV.q (mkRat c (4 : Nat)) 64, PV.q (mkRat b (4 : Nat)) 64], PV.agg [PV.q (mkRat c (4 : Nat)) 64, PV.q (mkRat d (4 : Nat)) 64], PV.agg [PV.q (mkRat a (4 : Nat)) 64, PV.q (mkRat d (4 : Nat)) 64]])) [])) (.no 1)) (.no 1)) (.no 1)) (.no 1) := by kernel_rfl
def s105 : Spec := fun args hs K => match args, hs with
  | [.i .i64 a, .i .i64 b, .i .i64 c, .i .i64 d], [] => .br (smI a && smI b && smI c && smI d) (K (.lst 6 (.vals [.agg [.q (mkRat a 4) 64, .q (mkRat b 4) 64], .agg [.q (mkRat c 4) 64, .q (mkRat b 4) 64], .agg [.q (mkRat c 4) 64, .q (mkRat d 4) 64], .agg [.q (mkRat a 4) 64, .q (mkRat d 4) 64]])) []) (.no 1)
  | _, _ => .no 1
include hG in
theorem ok105 : SpecOK Tryd.prog G 102 s105 := by
  refine spec_of hG (.cons (ok104 hG) .nil) mix enter105 (L := []) (pol := {}) fun args hs K x h => ?_
  unfold s105 at h
  split at h
  case h_2 => cases h
  rename_i a b c d
  obtain ⟨hc, hr⟩ := Tr.of_br h
  simp only [Bool.and_eq_true] at hc
  obtain ⟨⟨⟨ha, hb⟩, hc⟩, hd⟩ := hc
  refine ⟨LpsOK.none (by kernel_rfl), _, _, _, ?_, .refl _, hr⟩
  rw [e105, Tr.run_t (by rw [ha, hb]; rfl), Tr.run_t (by rw [hc, hb]; rfl), Tr.run_t (by rw [hc, hd]; rfl), Tr.run_t (by rw [ha, hd]; rfl), Tr.run_ok]
noncomputable def b68 : Code := (loopsOf (bodyC Tryd.f59)).getD 0 .skip
def pol68 : Pol := { live := [(4, [0, 4, 5, 30, 31])], wr := [(60, [0])] }
noncomputable def O68 : Orc := [(60, s45), (75, s81), (101, s104), (102, s105)]
theorem enter68 : Enters Tryd.prog 59 Tryd.f59 (bodyC Tryd.f59) := ⟨Tryd.func59, by kernel_rfl, rfl⟩
def lkC (a b c d e : Rat) (s : Cont) : PV := .agg [.q a 64, .q b 64, .q c 64, .q d 64, .q e 64, .lst 6 s]
def zArm (z1 z2 z3 z4 z5 z6 z7 : ByteArray) : PV := .agg [.s z1, .agg [.agg [.agg [.bl false, .s z2, .s z3], .agg [.bl false, .s z4, .s z5]], .agg [.bl false, .agg [.bl false, .s z6, .s z7]]], .nil]
def frA (nm : ByteArray) (bx by_ t : Rat) (l : PV) : PV := .agg [.s nm, .agg [.agg [.q bx 64, .q by_ 64], .agg [.bl false, .q t 64]], l]
def E : ByteArray := ⟨#[]⟩
def st68 (v : PV) (nm : ByteArray) (bx by_ t : Rat) (l : PV) (bs : List (Option Blk)) (c i : Int) : LS := ⟨[.ptr 0 1 0 0 [], .ptr 1 12 0 0 [], .ptr 2 12 0 0 [], .i .i64 c, .i .i64 i], [some ⟨1, .vals [.agg [.w v]]⟩, some ⟨12, .vals [zArm E E E E E E E]⟩, some ⟨12, .vals [frA nm bx by_ t l]⟩] ++ bs⟩
theorem r68a (v : PV) (nm : ByteArray) (bx by_ t : Rat) (c i : Int) : evRound Tryd.prog O68 [] pol68 Tryd.f59.ntmps 1 [0, 4, 5, 30, 31] b68 (st68 v nm bx by_ t .nil [] c i) =
  Tr.br (decide (i < c)) (.br (okW v && decide ((0 : Int) < (4 : Int)) && decide ((4 : Int) ≤ (4294967296 : Int))) (.br (ib ((2 : Int) * nx v (4 : Int))) (.br (ib ((4 : Int) + (2 : Int) * nx v (4 : Int))) (.br (decide ((0 : Int) < (4 : Int)) && decide ((4 : Int) < (4611686018427387904 : Int)) && decide ((-4611686018427387904 : Int) < (4 : Int) + (2 : Int) * nx v (4 : Int)) && decide ((4 : Int) + (2 : Int) * nx v (4 : Int) < (4611686018427387904 : Int))) (.br (okW (rs v) && decide ((0 : Int) < (6 : Int)) && decide ((6 : Int) ≤ (4294967296 : Int))) (.br (ib ((-1 : Int) - nx (rs v) (6 : Int))) (.br (decide ((0 : Int) < (3 : Int)) && decide ((3 : Int) < (4611686018427387904 : Int)) && decide ((-4611686018427387904 : Int) < (-1 : Int) - nx (rs v) (6 : Int)) && decide ((-1 : Int) - nx (rs v) (6 : Int) < (4611686018427387904 : Int))) (.br (okW (rs (rs v)) && decide ((0 : Int) < (6 : Int)) && decide ((6 : Int) ≤ (4294967296 : Int))) (.br (ib ((1 : Int) + nx (rs (rs v)) (6 : Int))) (.br (decide ((0 : Int) < (3 : Int)) && decide ((3 : Int) < (4611686018427387904 : Int)) && decide ((-4611686018427387904 : Int) < (1 : Int) + nx (rs (rs v)) (6 : Int)) && decide ((1 : Int) + nx (rs (rs v)) (6 : Int) < (4611686018427387904 : Int))) (.br (okW (rs (rs (rs v))) && decide ((0 : Int) < (8 : Int)) && decide ((8 : Int) ≤ (4294967296 : Int))) (.br (ib ((4 : Int) + nx (rs (rs (rs v))) (8 : Int))) (.br (decide ((0 : Int) < (4 : Int) + nx (rs (rs (rs v))) (8 : Int)) && decide ((4 : Int) + nx (rs (rs (rs v))) (8 : Int) < (4611686018427387904 : Int)) && decide ((-4611686018427387904 : Int) < (1 : Int)) && decide ((1 : Int) < (4611686018427387904 : Int))) (.br (okW (rs (rs (rs (rs v)))) && decide ((0 : Int) < (20 : Int)) && decide ((20 : Int) ≤ (4294967296 : Int))) (.br (ib ((10 : Int) + nx (rs (rs (rs (rs v)))) (20 : Int))) (.br (decide ((0 : Int) < (10 : Int) + nx (rs (rs (rs (rs v)))) (20 : Int)) && decide ((10 : Int) + nx (rs (rs (rs (rs v)))) (20 : Int) < (4611686018427387904 : Int)) && decide ((-4611686018427387904 : Int) < (1 : Int)) && decide ((1 : Int) < (4611686018427387904 : Int))) (.br (ib ((4 : Int) + (2 : Int) * nx v (4 : Int) + (1 : Int))) (.br (smI (-1 : Int) && smI (-1 : Int) && smI ((4 : Int) + (2 : Int) * nx v (4 : Int) + (1 : Int)) && smI (1 : Int)) (.br (okW (rs (rs (rs (rs (rs v))))) && decide ((0 : Int) < (3 : Int)) && decide ((3 : Int) ≤ (4294967296 : Int))) (.br (decide (nx (rs (rs (rs (rs (rs v))))) (3 : Int) = (2 : Int))) (.br (smI (-1 : Int) && smI (-1 : Int)) (.br (ib ((4 : Int) + (2 : Int) * nx v (4 : Int) + (1 : Int))) (.br (smI ((4 : Int) + (2 : Int) * nx v (4 : Int) + (1 : Int)) && smI (0 : Int)) (.br (smI (-1 : Int) && smI (1 : Int)) (.br (Nat.blt (0 : Nat) [PV.agg [PV.q (mkRat ((4 : Int) + (2 : Int) * nx v (4 : Int)) (Int.toNat (4 : Int))) 64, PV.q (mkRat ((-1 : Int) - nx (rs v) (6 : Int)) (Int.toNat (3 : Int))) 64, PV.q (mkRat ((1 : Int) + nx (rs (rs v)) (6 : Int)) (Int.toNat (3 : Int))) 64, PV.q (mkRat (1 : Int) ((4 : Int) + nx (rs (rs (rs v))) (8 : Int)).toNat) 64, PV.q (mkRat (1 : Int) ((10 : Int) + nx (rs (rs (rs (rs v)))) (20 : Int)).toNat) 64, PV.lst 6 (.vals [PV.agg [PV.q (mkRat (-1 : Int) (4 : Nat)) 64, PV.q (mkRat (-1 : Int) (4 : Nat)) 64], PV.agg [PV.q (mkRat ((4 : Int) + (2 : Int) * nx v (4 : Int) + (1 : Int)) (4 : Nat)) 64, PV.q (mkRat (0 : Int) (4 : Nat)) 64], PV.agg [PV.q (mkRat (-1 : Int) (4 : Nat)) 64, PV.q (mkRat (1 : Int) (4 : Nat)) 64]])]].length && [PV.agg [PV.q (mkRat ((4 : Int) + (2 : Int) * nx v (4 : Int)) (Int.toNat (4 : Int))) 64, PV.q (mkRat ((-1 : Int) - nx (rs v) (6 : Int)) (Int.toNat (3 : Int))) 64, PV.q (mkRat ((1 : Int) + nx (rs (rs v)) (6 : Int)) (Int.toNat (3 : Int))) 64, PV.q (mkRat (1 : Int) ((4 : Int) + nx (rs (rs (rs v))) (8 : Int)).toNat) 64, PV.q (mkRat (1 : Int) ((10 : Int) + nx (rs (rs (rs (rs v)))) (20 : Int)).toNat) 64, PV.lst 6 (.vals [PV.agg [PV.q (mkRat (-1 : Int) (4 : Nat)) 64, PV.q (mkRat (-1 : Int) (4 : Nat)) 64], PV.agg [PV.q (mkRat ((4 : Int) + (2 : Int) * nx v (4 : Int) + (1 : Int)) (4 : Nat)) 64, PV.q (mkRat (0 : Int) (4 : Nat)) 64], PV.agg [PV.q (mkRat (-1 : Int) (4 : Nat)) 64, PV.q (mkRat (1 : Int) (4 : Nat)) 64]])]].length.ble 4294967296) (.br (ib (i + (1 : Int))) (.ok (.out .normal { t := [PV.ptr 0 1 0 0 [], PV.ptr 1 12 0 0 [], PV.ptr 2 12 0 0 [], PV.i .i64 c, PV.i .i64 (i + (1 : Int))], h := [some { e := 1, c := Cont.vals [PV.agg [(rs (rs (rs (rs (rs (rs v)))))).w]] }, some { e := 12, c := Cont.vals [PV.agg [PV.s E, PV.agg [PV.agg [PV.agg [PV.bl false, PV.s E, PV.s E], PV.agg [PV.bl false, PV.s E, PV.s E]], PV.agg [PV.bl false, PV.agg [PV.bl false, PV.s E, PV.s E]]], PV.nil]] }, some { e := 12, c := Cont.vals [PV.agg [PV.s nm, PV.agg [PV.agg [PV.q bx 64, PV.q by_ 64], PV.agg [PV.bl false, PV.q t 64]], PV.sl 3 16 0 1]] }, some { e := 16, c := Cont.vals [PV.agg [PV.q (mkRat ((4 : Int) + (2 : Int) * nx v (4 : Int)) (Int.toNat (4 : Int))) 64, PV.q (mkRat ((-1 : Int) - nx (rs v) (6 : Int)) (Int.toNat (3 : Int))) 64, PV.q (mkRat ((1 : Int) + nx (rs (rs v)) (6 : Int)) (Int.toNat (3 : Int))) 64, PV.q (mkRat (1 : Int) ((4 : Int) + nx (rs (rs (rs v))) (8 : Int)).toNat) 64, PV.q (mkRat (1 : Int) ((10 : Int) + nx (rs (rs (rs (rs v)))) (20 : Int)).toNat) 64, PV.lst 6 (.vals [PV.agg [PV.q (mkRat (-1 : Int) (4 : Nat)) 64, PV.q (mkRat (-1 : Int) (4 : Nat)) 64], PV.agg [PV.q (mkRat ((4 : Int) + (2 : Int) * nx v (4 : Int) + (1 : Int)) (4 : Nat)) 64, PV.q (mkRat (0 : Int) (4 : Nat)) 64], PV.agg [PV.q (mkRat (-1 : Int) (4 : Nat)) 64, PV.q (mkRat (1 : Int) (4 : Nat)) 64]])]] }] })) (.no 11002)) (.no 10003)) (.no 1)) (.no 1)) (.no 9006)) (.no 1)) (.br (Nat.blt (0 : Nat) [PV.agg [PV.q (mkRat ((4 : Int) + (2 : Int) * nx v (4 : Int)) (Int.toNat (4 : Int))) 64, PV.q (mkRat ((-1 : Int) - nx (rs v) (6 : Int)) (Int.toNat (3 : Int))) 64, PV.q (mkRat ((1 : Int) + nx (rs (rs v)) (6 : Int)) (Int.toNat (3 : Int))) 64, PV.q (mkRat (1 : Int) ((4 : Int) + nx (rs (rs (rs v))) (8 : Int)).toNat) 64, PV.q (mkRat (1 : Int) ((10 : Int) + nx (rs (rs (rs (rs v)))) (20 : Int)).toNat) 64, PV.lst 6 (.vals [PV.agg [PV.q (mkRat (-1 : Int) (4 : Nat)) 64, PV.q (mkRat (-1 : Int) (4 : Nat)) 64], PV.agg [PV.q (mkRat ((4 : Int) + (2 : Int) * nx v (4 : Int) + (1 : Int)) (4 : Nat)) 64, PV.q (mkRat (-1 : Int) (4 : Nat)) 64], PV.agg [PV.q (mkRat ((4 : Int) + (2 : Int) * nx v (4 : Int) + (1 : Int)) (4 : Nat)) 64, PV.q (mkRat (1 : Int) (4 : Nat)) 64], PV.agg [PV.q (mkRat (-1 : Int) (4 : Nat)) 64, PV.q (mkRat (1 : Int) (4 : Nat)) 64]])]].length && [PV.agg [PV.q (mkRat ((4 : Int) + (2 : Int) * nx v (4 : Int)) (Int.toNat (4 : Int))) 64, PV.q (mkRat ((-1 : Int) - nx (rs v) (6 : Int)) (Int.toNat (3 : Int))) 64, PV.q (mkRat ((1 : Int) + nx (rs (rs v)) (6 : Int)) (Int.toNat (3 : Int))) 64, PV.q (mkRat (1 : Int) ((4 : Int) + nx (rs (rs (rs v))) (8 : Int)).toNat) 64, PV.q (mkRat (1 : Int) ((10 : Int) + nx (rs (rs (rs (rs v)))) (20 : Int)).toNat) 64, PV.lst 6 (.vals [PV.agg [PV.q (mkRat (-1 : Int) (4 : Nat)) 64, PV.q (mkRat (-1 : Int) (4 : Nat)) 64], PV.agg [PV.q (mkRat ((4 : Int) + (2 : Int) * nx v (4 : Int) + (1 : Int)) (4 : Nat)) 64, PV.q (mkRat (-1 : Int) (4 : Nat)) 64], PV.agg [PV.q (mkRat ((4 : Int) + (2 : Int) * nx v (4 : Int) + (1 : Int)) (4 : Nat)) 64, PV.q (mkRat (1 : Int) (4 : Nat)) 64], PV.agg [PV.q (mkRat (-1 : Int) (4 : Nat)) 64, PV.q (mkRat (1 : Int) (4 : Nat)) 64]])]].length.ble 4294967296) (.br (ib (i + (1 : Int))) (.ok (.out .normal { t := [PV.ptr 0 1 0 0 [], PV.ptr 1 12 0 0 [], PV.ptr 2 12 0 0 [], PV.i .i64 c, PV.i .i64 (i + (1 : Int))], h := [some { e := 1, c := Cont.vals [PV.agg [(rs (rs (rs (rs (rs (rs v)))))).w]] }, some { e := 12, c := Cont.vals [PV.agg [PV.s E, PV.agg [PV.agg [PV.agg [PV.bl false, PV.s E, PV.s E], PV.agg [PV.bl false, PV.s E, PV.s E]], PV.agg [PV.bl false, PV.agg [PV.bl false, PV.s E, PV.s E]]], PV.nil]] }, some { e := 12, c := Cont.vals [PV.agg [PV.s nm, PV.agg [PV.agg [PV.q bx 64, PV.q by_ 64], PV.agg [PV.bl false, PV.q t 64]], PV.sl 3 16 0 1]] }, some { e := 16, c := Cont.vals [PV.agg [PV.q (mkRat ((4 : Int) + (2 : Int) * nx v (4 : Int)) (Int.toNat (4 : Int))) 64, PV.q (mkRat ((-1 : Int) - nx (rs v) (6 : Int)) (Int.toNat (3 : Int))) 64, PV.q (mkRat ((1 : Int) + nx (rs (rs v)) (6 : Int)) (Int.toNat (3 : Int))) 64, PV.q (mkRat (1 : Int) ((4 : Int) + nx (rs (rs (rs v))) (8 : Int)).toNat) 64, PV.q (mkRat (1 : Int) ((10 : Int) + nx (rs (rs (rs (rs v)))) (20 : Int)).toNat) 64, PV.lst 6 (.vals [PV.agg [PV.q (mkRat (-1 : Int) (4 : Nat)) 64, PV.q (mkRat (-1 : Int) (4 : Nat)) 64], PV.agg [PV.q (mkRat ((4 : Int) + (2 : Int) * nx v (4 : Int) + (1 : Int)) (4 : Nat)) 64, PV.q (mkRat (-1 : Int) (4 : Nat)) 64], PV.agg [PV.q (mkRat ((4 : Int) + (2 : Int) * nx v (4 : Int) + (1 : Int)) (4 : Nat)) 64, PV.q (mkRat (1 : Int) (4 : Nat)) 64], PV.agg [PV.q (mkRat (-1 : Int) (4 : Nat)) 64, PV.q (mkRat (1 : Int) (4 : Nat)) 64]])]] }] })) (.no 11002)) (.no 10003))) (.no 1)) (.no 1)) (.no 7005)) (.no 1)) (.no 7008)) (.no 1)) (.no 1)) (.no 7012)) (.no 1)) (.no 1)) (.no 7016)) (.no 1)) (.no 1)) (.no 7020)) (.no 1)) (.no 1)) (.no 6002)) (.no 6003)) (.no 1)) (.ok (.out (.exit 0) { t := [PV.ptr 0 1 0 0 [], PV.ptr 1 12 0 0 [], PV.ptr 2 12 0 0 [], PV.i .i64 c, PV.i .i64 i], h := [some { e := 1, c := Cont.vals [PV.agg [v.w]] }, some { e := 12, c := Cont.vals [PV.agg [PV.s E, PV.agg [PV.agg [PV.agg [PV.bl false, PV.s E, PV.s E], PV.agg [PV.bl false, PV.s E, PV.s E]], PV.agg [PV.bl false, PV.agg [PV.bl false, PV.s E, PV.s E]]], PV.nil]] }, some { e := 12, c := Cont.vals [PV.agg [PV.s nm, PV.agg [PV.agg [PV.q bx 64, PV.q by_ 64], PV.agg [PV.bl false, PV.q t 64]], PV.nil]] }] })) := by kernel_rfl
theorem r68b (v : PV) (nm : ByteArray) (bx by_ t : Rat) (c i : Int) (a1 b1 c1 d1 e1 : Rat) (s1 : Cont) : evRound Tryd.prog O68 [] pol68 Tryd.f59.ntmps 1 [0, 4, 5, 30, 31] b68 (st68 v nm bx by_ t (.sl 3 16 0 1) [some ⟨16, .vals [lkC a1 b1 c1 d1 e1 s1]⟩] c i) =
  Tr.br (decide (i < c)) (.br (okW v && decide ((0 : Int) < (4 : Int)) && decide ((4 : Int) ≤ (4294967296 : Int))) (.br (ib ((2 : Int) * nx v (4 : Int))) (.br (ib ((4 : Int) + (2 : Int) * nx v (4 : Int))) (.br (decide ((0 : Int) < (4 : Int)) && decide ((4 : Int) < (4611686018427387904 : Int)) && decide ((-4611686018427387904 : Int) < (4 : Int) + (2 : Int) * nx v (4 : Int)) && decide ((4 : Int) + (2 : Int) * nx v (4 : Int) < (4611686018427387904 : Int))) (.br (okW (rs v) && decide ((0 : Int) < (6 : Int)) && decide ((6 : Int) ≤ (4294967296 : Int))) (.br (ib ((-1 : Int) - nx (rs v) (6 : Int))) (.br (decide ((0 : Int) < (3 : Int)) && decide ((3 : Int) < (4611686018427387904 : Int)) && decide ((-4611686018427387904 : Int) < (-1 : Int) - nx (rs v) (6 : Int)) && decide ((-1 : Int) - nx (rs v) (6 : Int) < (4611686018427387904 : Int))) (.br (okW (rs (rs v)) && decide ((0 : Int) < (6 : Int)) && decide ((6 : Int) ≤ (4294967296 : Int))) (.br (ib ((1 : Int) + nx (rs (rs v)) (6 : Int))) (.br (decide ((0 : Int) < (3 : Int)) && decide ((3 : Int) < (4611686018427387904 : Int)) && decide ((-4611686018427387904 : Int) < (1 : Int) + nx (rs (rs v)) (6 : Int)) && decide ((1 : Int) + nx (rs (rs v)) (6 : Int) < (4611686018427387904 : Int))) (.br (okW (rs (rs (rs v))) && decide ((0 : Int) < (8 : Int)) && decide ((8 : Int) ≤ (4294967296 : Int))) (.br (ib ((4 : Int) + nx (rs (rs (rs v))) (8 : Int))) (.br (decide ((0 : Int) < (4 : Int) + nx (rs (rs (rs v))) (8 : Int)) && decide ((4 : Int) + nx (rs (rs (rs v))) (8 : Int) < (4611686018427387904 : Int)) && decide ((-4611686018427387904 : Int) < (1 : Int)) && decide ((1 : Int) < (4611686018427387904 : Int))) (.br (okW (rs (rs (rs (rs v)))) && decide ((0 : Int) < (20 : Int)) && decide ((20 : Int) ≤ (4294967296 : Int))) (.br (ib ((10 : Int) + nx (rs (rs (rs (rs v)))) (20 : Int))) (.br (decide ((0 : Int) < (10 : Int) + nx (rs (rs (rs (rs v)))) (20 : Int)) && decide ((10 : Int) + nx (rs (rs (rs (rs v)))) (20 : Int) < (4611686018427387904 : Int)) && decide ((-4611686018427387904 : Int) < (1 : Int)) && decide ((1 : Int) < (4611686018427387904 : Int))) (.br (ib ((4 : Int) + (2 : Int) * nx v (4 : Int) + (1 : Int))) (.br (smI (-1 : Int) && smI (-1 : Int) && smI ((4 : Int) + (2 : Int) * nx v (4 : Int) + (1 : Int)) && smI (1 : Int)) (.br (okW (rs (rs (rs (rs (rs v))))) && decide ((0 : Int) < (3 : Int)) && decide ((3 : Int) ≤ (4294967296 : Int))) (.br (decide (nx (rs (rs (rs (rs (rs v))))) (3 : Int) = (2 : Int))) (.br (smI (-1 : Int) && smI (-1 : Int)) (.br (ib ((4 : Int) + (2 : Int) * nx v (4 : Int) + (1 : Int))) (.br (smI ((4 : Int) + (2 : Int) * nx v (4 : Int) + (1 : Int)) && smI (0 : Int)) (.br (smI (-1 : Int) && smI (1 : Int)) (.br (((1 : Nat) + [PE.PV.agg [PV.q (mkRat ((4 : Int) + (2 : Int) * nx v (4 : Int)) (Int.toNat (4 : Int))) 64, PV.q (mkRat ((-1 : Int) - nx (rs v) (6 : Int)) (Int.toNat (3 : Int))) 64, PV.q (mkRat ((1 : Int) + nx (rs (rs v)) (6 : Int)) (Int.toNat (3 : Int))) 64, PV.q (mkRat (1 : Int) ((4 : Int) + nx (rs (rs (rs v))) (8 : Int)).toNat) 64, PV.q (mkRat (1 : Int) ((10 : Int) + nx (rs (rs (rs (rs v)))) (20 : Int)).toNat) 64, PV.lst 6 (.vals [PV.agg [PV.q (mkRat (-1 : Int) (4 : Nat)) 64, PV.q (mkRat (-1 : Int) (4 : Nat)) 64], PV.agg [PV.q (mkRat ((4 : Int) + (2 : Int) * nx v (4 : Int) + (1 : Int)) (4 : Nat)) 64, PV.q (mkRat (0 : Int) (4 : Nat)) 64], PV.agg [PV.q (mkRat (-1 : Int) (4 : Nat)) 64, PV.q (mkRat (1 : Int) (4 : Nat)) 64]])]].length).ble 4294967296) (.br (ib (i + (1 : Int))) (.ok (.out .normal { t := [PV.ptr 0 1 0 0 [], PV.ptr 1 12 0 0 [], PV.ptr 2 12 0 0 [], PV.i .i64 c, PV.i .i64 (i + (1 : Int))], h := [some { e := 1, c := Cont.vals [PV.agg [(rs (rs (rs (rs (rs (rs v)))))).w]] }, some { e := 12, c := Cont.vals [PV.agg [PV.s E, PV.agg [PV.agg [PV.agg [PV.bl false, PV.s E, PV.s E], PV.agg [PV.bl false, PV.s E, PV.s E]], PV.agg [PV.bl false, PV.agg [PV.bl false, PV.s E, PV.s E]]], PV.nil]] }, some { e := 12, c := Cont.vals [PV.agg [PV.s nm, PV.agg [PV.agg [PV.q bx 64, PV.q by_ 64], PV.agg [PV.bl false, PV.q t 64]], PV.sl 3 16 0 2]] }, some { e := 16, c := Cont.vals [PV.agg [PV.q a1 64, PV.q b1 64, PV.q c1 64, PV.q d1 64, PV.q e1 64, PV.lst 6 s1], PV.agg [PV.q (mkRat ((4 : Int) + (2 : Int) * nx v (4 : Int)) (Int.toNat (4 : Int))) 64, PV.q (mkRat ((-1 : Int) - nx (rs v) (6 : Int)) (Int.toNat (3 : Int))) 64, PV.q (mkRat ((1 : Int) + nx (rs (rs v)) (6 : Int)) (Int.toNat (3 : Int))) 64, PV.q (mkRat (1 : Int) ((4 : Int) + nx (rs (rs (rs v))) (8 : Int)).toNat) 64, PV.q (mkRat (1 : Int) ((10 : Int) + nx (rs (rs (rs (rs v)))) (20 : Int)).toNat) 64, PV.lst 6 (.vals [PV.agg [PV.q (mkRat (-1 : Int) (4 : Nat)) 64, PV.q (mkRat (-1 : Int) (4 : Nat)) 64], PV.agg [PV.q (mkRat ((4 : Int) + (2 : Int) * nx v (4 : Int) + (1 : Int)) (4 : Nat)) 64, PV.q (mkRat (0 : Int) (4 : Nat)) 64], PV.agg [PV.q (mkRat (-1 : Int) (4 : Nat)) 64, PV.q (mkRat (1 : Int) (4 : Nat)) 64]])]] }] })) (.no 11002)) (.no 10003)) (.no 1)) (.no 1)) (.no 9006)) (.no 1)) (.br (((1 : Nat) + [PE.PV.agg [PV.q (mkRat ((4 : Int) + (2 : Int) * nx v (4 : Int)) (Int.toNat (4 : Int))) 64, PV.q (mkRat ((-1 : Int) - nx (rs v) (6 : Int)) (Int.toNat (3 : Int))) 64, PV.q (mkRat ((1 : Int) + nx (rs (rs v)) (6 : Int)) (Int.toNat (3 : Int))) 64, PV.q (mkRat (1 : Int) ((4 : Int) + nx (rs (rs (rs v))) (8 : Int)).toNat) 64, PV.q (mkRat (1 : Int) ((10 : Int) + nx (rs (rs (rs (rs v)))) (20 : Int)).toNat) 64, PV.lst 6 (.vals [PV.agg [PV.q (mkRat (-1 : Int) (4 : Nat)) 64, PV.q (mkRat (-1 : Int) (4 : Nat)) 64], PV.agg [PV.q (mkRat ((4 : Int) + (2 : Int) * nx v (4 : Int) + (1 : Int)) (4 : Nat)) 64, PV.q (mkRat (-1 : Int) (4 : Nat)) 64], PV.agg [PV.q (mkRat ((4 : Int) + (2 : Int) * nx v (4 : Int) + (1 : Int)) (4 : Nat)) 64, PV.q (mkRat (1 : Int) (4 : Nat)) 64], PV.agg [PV.q (mkRat (-1 : Int) (4 : Nat)) 64, PV.q (mkRat (1 : Int) (4 : Nat)) 64]])]].length).ble 4294967296) (.br (ib (i + (1 : Int))) (.ok (.out .normal { t := [PV.ptr 0 1 0 0 [], PV.ptr 1 12 0 0 [], PV.ptr 2 12 0 0 [], PV.i .i64 c, PV.i .i64 (i + (1 : Int))], h := [some { e := 1, c := Cont.vals [PV.agg [(rs (rs (rs (rs (rs (rs v)))))).w]] }, some { e := 12, c := Cont.vals [PV.agg [PV.s E, PV.agg [PV.agg [PV.agg [PV.bl false, PV.s E, PV.s E], PV.agg [PV.bl false, PV.s E, PV.s E]], PV.agg [PV.bl false, PV.agg [PV.bl false, PV.s E, PV.s E]]], PV.nil]] }, some { e := 12, c := Cont.vals [PV.agg [PV.s nm, PV.agg [PV.agg [PV.q bx 64, PV.q by_ 64], PV.agg [PV.bl false, PV.q t 64]], PV.sl 3 16 0 2]] }, some { e := 16, c := Cont.vals [PV.agg [PV.q a1 64, PV.q b1 64, PV.q c1 64, PV.q d1 64, PV.q e1 64, PV.lst 6 s1], PV.agg [PV.q (mkRat ((4 : Int) + (2 : Int) * nx v (4 : Int)) (Int.toNat (4 : Int))) 64, PV.q (mkRat ((-1 : Int) - nx (rs v) (6 : Int)) (Int.toNat (3 : Int))) 64, PV.q (mkRat ((1 : Int) + nx (rs (rs v)) (6 : Int)) (Int.toNat (3 : Int))) 64, PV.q (mkRat (1 : Int) ((4 : Int) + nx (rs (rs (rs v))) (8 : Int)).toNat) 64, PV.q (mkRat (1 : Int) ((10 : Int) + nx (rs (rs (rs (rs v)))) (20 : Int)).toNat) 64, PV.lst 6 (.vals [PV.agg [PV.q (mkRat (-1 : Int) (4 : Nat)) 64, PV.q (mkRat (-1 : Int) (4 : Nat)) 64], PV.agg [PV.q (mkRat ((4 : Int) + (2 : Int) * nx v (4 : Int) + (1 : Int)) (4 : Nat)) 64, PV.q (mkRat (-1 : Int) (4 : Nat)) 64], PV.agg [PV.q (mkRat ((4 : Int) + (2 : Int) * nx v (4 : Int) + (1 : Int)) (4 : Nat)) 64, PV.q (mkRat (1 : Int) (4 : Nat)) 64], PV.agg [PV.q (mkRat (-1 : Int) (4 : Nat)) 64, PV.q (mkRat (1 : Int) (4 : Nat)) 64]])]] }] })) (.no 11002)) (.no 10003))) (.no 1)) (.no 1)) (.no 7005)) (.no 1)) (.no 7008)) (.no 1)) (.no 1)) (.no 7012)) (.no 1)) (.no 1)) (.no 7016)) (.no 1)) (.no 1)) (.no 7020)) (.no 1)) (.no 1)) (.no 6002)) (.no 6003)) (.no 1)) (.ok (.out (.exit 0) { t := [PV.ptr 0 1 0 0 [], PV.ptr 1 12 0 0 [], PV.ptr 2 12 0 0 [], PV.i .i64 c, PV.i .i64 i], h := [some { e := 1, c := Cont.vals [PV.agg [v.w]] }, some { e := 12, c := Cont.vals [PV.agg [PV.s E, PV.agg [PV.agg [PV.agg [PV.bl false, PV.s E, PV.s E], PV.agg [PV.bl false, PV.s E, PV.s E]], PV.agg [PV.bl false, PV.agg [PV.bl false, PV.s E, PV.s E]]], PV.nil]] }, some { e := 12, c := Cont.vals [PV.agg [PV.s nm, PV.agg [PV.agg [PV.q bx 64, PV.q by_ 64], PV.agg [PV.bl false, PV.q t 64]], PV.sl 3 16 0 1]] }, some { e := 16, c := Cont.vals [PV.agg [PV.q a1 64, PV.q b1 64, PV.q c1 64, PV.q d1 64, PV.q e1 64, PV.lst 6 s1]] }] })) := by kernel_rfl
theorem r68c (v : PV) (nm : ByteArray) (bx by_ t : Rat) (c i : Int) (a1 b1 c1 d1 e1 a2 b2 c2 d2 e2 : Rat) (s1 s2 : Cont) : evRound Tryd.prog O68 [] pol68 Tryd.f59.ntmps 1 [0, 4, 5, 30, 31] b68 (st68 v nm bx by_ t (.sl 3 16 0 2) [some ⟨16, .vals [lkC a1 b1 c1 d1 e1 s1, lkC a2 b2 c2 d2 e2 s2]⟩] c i) =
  Tr.br (decide (i < c)) (.br (okW v && decide ((0 : Int) < (4 : Int)) && decide ((4 : Int) ≤ (4294967296 : Int))) (.br (ib ((2 : Int) * nx v (4 : Int))) (.br (ib ((4 : Int) + (2 : Int) * nx v (4 : Int))) (.br (decide ((0 : Int) < (4 : Int)) && decide ((4 : Int) < (4611686018427387904 : Int)) && decide ((-4611686018427387904 : Int) < (4 : Int) + (2 : Int) * nx v (4 : Int)) && decide ((4 : Int) + (2 : Int) * nx v (4 : Int) < (4611686018427387904 : Int))) (.br (okW (rs v) && decide ((0 : Int) < (6 : Int)) && decide ((6 : Int) ≤ (4294967296 : Int))) (.br (ib ((-1 : Int) - nx (rs v) (6 : Int))) (.br (decide ((0 : Int) < (3 : Int)) && decide ((3 : Int) < (4611686018427387904 : Int)) && decide ((-4611686018427387904 : Int) < (-1 : Int) - nx (rs v) (6 : Int)) && decide ((-1 : Int) - nx (rs v) (6 : Int) < (4611686018427387904 : Int))) (.br (okW (rs (rs v)) && decide ((0 : Int) < (6 : Int)) && decide ((6 : Int) ≤ (4294967296 : Int))) (.br (ib ((1 : Int) + nx (rs (rs v)) (6 : Int))) (.br (decide ((0 : Int) < (3 : Int)) && decide ((3 : Int) < (4611686018427387904 : Int)) && decide ((-4611686018427387904 : Int) < (1 : Int) + nx (rs (rs v)) (6 : Int)) && decide ((1 : Int) + nx (rs (rs v)) (6 : Int) < (4611686018427387904 : Int))) (.br (okW (rs (rs (rs v))) && decide ((0 : Int) < (8 : Int)) && decide ((8 : Int) ≤ (4294967296 : Int))) (.br (ib ((4 : Int) + nx (rs (rs (rs v))) (8 : Int))) (.br (decide ((0 : Int) < (4 : Int) + nx (rs (rs (rs v))) (8 : Int)) && decide ((4 : Int) + nx (rs (rs (rs v))) (8 : Int) < (4611686018427387904 : Int)) && decide ((-4611686018427387904 : Int) < (1 : Int)) && decide ((1 : Int) < (4611686018427387904 : Int))) (.br (okW (rs (rs (rs (rs v)))) && decide ((0 : Int) < (20 : Int)) && decide ((20 : Int) ≤ (4294967296 : Int))) (.br (ib ((10 : Int) + nx (rs (rs (rs (rs v)))) (20 : Int))) (.br (decide ((0 : Int) < (10 : Int) + nx (rs (rs (rs (rs v)))) (20 : Int)) && decide ((10 : Int) + nx (rs (rs (rs (rs v)))) (20 : Int) < (4611686018427387904 : Int)) && decide ((-4611686018427387904 : Int) < (1 : Int)) && decide ((1 : Int) < (4611686018427387904 : Int))) (.br (ib ((4 : Int) + (2 : Int) * nx v (4 : Int) + (1 : Int))) (.br (smI (-1 : Int) && smI (-1 : Int) && smI ((4 : Int) + (2 : Int) * nx v (4 : Int) + (1 : Int)) && smI (1 : Int)) (.br (okW (rs (rs (rs (rs (rs v))))) && decide ((0 : Int) < (3 : Int)) && decide ((3 : Int) ≤ (4294967296 : Int))) (.br (decide (nx (rs (rs (rs (rs (rs v))))) (3 : Int) = (2 : Int))) (.br (smI (-1 : Int) && smI (-1 : Int)) (.br (ib ((4 : Int) + (2 : Int) * nx v (4 : Int) + (1 : Int))) (.br (smI ((4 : Int) + (2 : Int) * nx v (4 : Int) + (1 : Int)) && smI (0 : Int)) (.br (smI (-1 : Int) && smI (1 : Int)) (.br (((2 : Nat) + [PE.PV.agg [PV.q (mkRat ((4 : Int) + (2 : Int) * nx v (4 : Int)) (Int.toNat (4 : Int))) 64, PV.q (mkRat ((-1 : Int) - nx (rs v) (6 : Int)) (Int.toNat (3 : Int))) 64, PV.q (mkRat ((1 : Int) + nx (rs (rs v)) (6 : Int)) (Int.toNat (3 : Int))) 64, PV.q (mkRat (1 : Int) ((4 : Int) + nx (rs (rs (rs v))) (8 : Int)).toNat) 64, PV.q (mkRat (1 : Int) ((10 : Int) + nx (rs (rs (rs (rs v)))) (20 : Int)).toNat) 64, PV.lst 6 (.vals [PV.agg [PV.q (mkRat (-1 : Int) (4 : Nat)) 64, PV.q (mkRat (-1 : Int) (4 : Nat)) 64], PV.agg [PV.q (mkRat ((4 : Int) + (2 : Int) * nx v (4 : Int) + (1 : Int)) (4 : Nat)) 64, PV.q (mkRat (0 : Int) (4 : Nat)) 64], PV.agg [PV.q (mkRat (-1 : Int) (4 : Nat)) 64, PV.q (mkRat (1 : Int) (4 : Nat)) 64]])]].length).ble 4294967296) (.br (ib (i + (1 : Int))) (.ok (.out .normal { t := [PV.ptr 0 1 0 0 [], PV.ptr 1 12 0 0 [], PV.ptr 2 12 0 0 [], PV.i .i64 c, PV.i .i64 (i + (1 : Int))], h := [some { e := 1, c := Cont.vals [PV.agg [(rs (rs (rs (rs (rs (rs v)))))).w]] }, some { e := 12, c := Cont.vals [PV.agg [PV.s E, PV.agg [PV.agg [PV.agg [PV.bl false, PV.s E, PV.s E], PV.agg [PV.bl false, PV.s E, PV.s E]], PV.agg [PV.bl false, PV.agg [PV.bl false, PV.s E, PV.s E]]], PV.nil]] }, some { e := 12, c := Cont.vals [PV.agg [PV.s nm, PV.agg [PV.agg [PV.q bx 64, PV.q by_ 64], PV.agg [PV.bl false, PV.q t 64]], PV.sl 3 16 0 3]] }, some { e := 16, c := Cont.vals [PV.agg [PV.q a1 64, PV.q b1 64, PV.q c1 64, PV.q d1 64, PV.q e1 64, PV.lst 6 s1], PV.agg [PV.q a2 64, PV.q b2 64, PV.q c2 64, PV.q d2 64, PV.q e2 64, PV.lst 6 s2], PV.agg [PV.q (mkRat ((4 : Int) + (2 : Int) * nx v (4 : Int)) (Int.toNat (4 : Int))) 64, PV.q (mkRat ((-1 : Int) - nx (rs v) (6 : Int)) (Int.toNat (3 : Int))) 64, PV.q (mkRat ((1 : Int) + nx (rs (rs v)) (6 : Int)) (Int.toNat (3 : Int))) 64, PV.q (mkRat (1 : Int) ((4 : Int) + nx (rs (rs (rs v))) (8 : Int)).toNat) 64, PV.q (mkRat (1 : Int) ((10 : Int) + nx (rs (rs (rs (rs v)))) (20 : Int)).toNat) 64, PV.lst 6 (.vals [PV.agg [PV.q (mkRat (-1 : Int) (4 : Nat)) 64, PV.q (mkRat (-1 : Int) (4 : Nat)) 64], PV.agg [PV.q (mkRat ((4 : Int) + (2 : Int) * nx v (4 : Int) + (1 : Int)) (4 : Nat)) 64, PV.q (mkRat (0 : Int) (4 : Nat)) 64], PV.agg [PV.q (mkRat (-1 : Int) (4 : Nat)) 64, PV.q (mkRat (1 : Int) (4 : Nat)) 64]])]] }] })) (.no 11002)) (.no 10003)) (.no 1)) (.no 1)) (.no 9006)) (.no 1)) (.br (((2 : Nat) + [PE.PV.agg [PV.q (mkRat ((4 : Int) + (2 : Int) * nx v (4 : Int)) (Int.toNat (4 : Int))) 64, PV.q (mkRat ((-1 : Int) - nx (rs v) (6 : Int)) (Int.toNat (3 : Int))) 64, PV.q (mkRat ((1 : Int) + nx (rs (rs v)) (6 : Int)) (Int.toNat (3 : Int))) 64, PV.q (mkRat (1 : Int) ((4 : Int) + nx (rs (rs (rs v))) (8 : Int)).toNat) 64, PV.q (mkRat (1 : Int) ((10 : Int) + nx (rs (rs (rs (rs v)))) (20 : Int)).toNat) 64, PV.lst 6 (.vals [PV.agg [PV.q (mkRat (-1 : Int) (4 : Nat)) 64, PV.q (mkRat (-1 : Int) (4 : Nat)) 64], PV.agg [PV.q (mkRat ((4 : Int) + (2 : Int) * nx v (4 : Int) + (1 : Int)) (4 : Nat)) 64, PV.q (mkRat (-1 : Int) (4 : Nat)) 64], PV.agg [PV.q (mkRat ((4 : Int) + (2 : Int) * nx v (4 : Int) + (1 : Int)) (4 : Nat)) 64, PV.q (mkRat (1 : Int) (4 : Nat)) 64], PV.agg [PV.q (mkRat (-1 : Int) (4 : Nat)) 64, PV.q (mkRat (1 : Int) (4 : Nat)) 64]])]].length).ble 4294967296) (.br (ib (i + (1 : Int))) (.ok (.out .normal { t := [PV.ptr 0 1 0 0 [], PV.ptr 1 12 0 0 [], PV.ptr 2 12 0 0 [], PV.i .i64 c, PV.i .i64 (i + (1 : Int))], h := [some { e := 1, c := Cont.vals [PV.agg [(rs (rs (rs (rs (rs (rs v)))))).w]] }, some { e := 12, c := Cont.vals [PV.agg [PV.s E, PV.agg [PV.agg [PV.agg [PV.bl false, PV.s E, PV.s E], PV.agg [PV.bl false, PV.s E, PV.s E]], PV.agg [PV.bl false, PV.agg [PV.bl false, PV.s E, PV.s E]]], PV.nil]] }, some { e := 12, c := Cont.vals [PV.agg [PV.s nm, PV.agg [PV.agg [PV.q bx 64, PV.q by_ 64], PV.agg [PV.bl false, PV.q t 64]], PV.sl 3 16 0 3]] }, some { e := 16, c := Cont.vals [PV.agg [PV.q a1 64, PV.q b1 64, PV.q c1 64, PV.q d1 64, PV.q e1 64, PV.lst 6 s1], PV.agg [PV.q a2 64, PV.q b2 64, PV.q c2 64, PV.q d2 64, PV.q e2 64, PV.lst 6 s2], PV.agg [PV.q (mkRat ((4 : Int) + (2 : Int) * nx v (4 : Int)) (Int.toNat (4 : Int))) 64, PV.q (mkRat ((-1 : Int) - nx (rs v) (6 : Int)) (Int.toNat (3 : Int))) 64, PV.q (mkRat ((1 : Int) + nx (rs (rs v)) (6 : Int)) (Int.toNat (3 : Int))) 64, PV.q (mkRat (1 : Int) ((4 : Int) + nx (rs (rs (rs v))) (8 : Int)).toNat) 64, PV.q (mkRat (1 : Int) ((10 : Int) + nx (rs (rs (rs (rs v)))) (20 : Int)).toNat) 64, PV.lst 6 (.vals [PV.agg [PV.q (mkRat (-1 : Int) (4 : Nat)) 64, PV.q (mkRat (-1 : Int) (4 : Nat)) 64], PV.agg [PV.q (mkRat ((4 : Int) + (2 : Int) * nx v (4 : Int) + (1 : Int)) (4 : Nat)) 64, PV.q (mkRat (-1 : Int) (4 : Nat)) 64], PV.agg [PV.q (mkRat ((4 : Int) + (2 : Int) * nx v (4 : Int) + (1 : Int)) (4 : Nat)) 64, PV.q (mkRat (1 : Int) (4 : Nat)) 64], PV.agg [PV.q (mkRat (-1 : Int) (4 : Nat)) 64, PV.q (mkRat (1 : Int) (4 : Nat)) 64]])]] }] })) (.no 11002)) (.no 10003))) (.no 1)) (.no 1)) (.no 7005)) (.no 1)) (.no 7008)) (.no 1)) (.no 1)) (.no 7012)) (.no 1)) (.no 1)) (.no 7016)) (.no 1)) (.no 1)) (.no 7020)) (.no 1)) (.no 1)) (.no 6002)) (.no 6003)) (.no 1)) (.ok (.out (.exit 0) { t := [PV.ptr 0 1 0 0 [], PV.ptr 1 12 0 0 [], PV.ptr 2 12 0 0 [], PV.i .i64 c, PV.i .i64 i], h := [some { e := 1, c := Cont.vals [PV.agg [v.w]] }, some { e := 12, c := Cont.vals [PV.agg [PV.s E, PV.agg [PV.agg [PV.agg [PV.bl false, PV.s E, PV.s E], PV.agg [PV.bl false, PV.s E, PV.s E]], PV.agg [PV.bl false, PV.agg [PV.bl false, PV.s E, PV.s E]]], PV.nil]] }, some { e := 12, c := Cont.vals [PV.agg [PV.s nm, PV.agg [PV.agg [PV.q bx 64, PV.q by_ 64], PV.agg [PV.bl false, PV.q t 64]], PV.sl 3 16 0 2]] }, some { e := 16, c := Cont.vals [PV.agg [PV.q a1 64, PV.q b1 64, PV.q c1 64, PV.q d1 64, PV.q e1 64, PV.lst 6 s1], PV.agg [PV.q a2 64, PV.q b2 64, PV.q c2 64, PV.q d2 64, PV.q e2 64, PV.lst 6 s2]] }] })) := by kernel_rfl
theorem r68d (v : PV) (nm : ByteArray) (bx by_ t : Rat) (c i : Int) (a1 b1 c1 d1 e1 a2 b2 c2 d2 e2 a3 b3 c3 d3 e3 : Rat) (s1 s2 s3 : Cont) : evRound Tryd.prog O68 [] pol68 Tryd.f59.ntmps 1 [0, 4, 5, 30, 31] b68 (st68 v nm bx by_ t (.sl 3 16 0 3) [some ⟨16, .vals [lkC a1 b1 c1 d1 e1 s1, lkC a2 b2 c2 d2 e2 s2, lkC a3 b3 c3 d3 e3 s3]⟩] c i) =
  Tr.br (decide (i < c)) (.br (okW v && decide ((0 : Int) < (4 : Int)) && decide ((4 : Int) ≤ (4294967296 : Int))) (.br (ib ((2 : Int) * nx v (4 : Int))) (.br (ib ((4 : Int) + (2 : Int) * nx v (4 : Int))) (.br (decide ((0 : Int) < (4 : Int)) && decide ((4 : Int) < (4611686018427387904 : Int)) && decide ((-4611686018427387904 : Int) < (4 : Int) + (2 : Int) * nx v (4 : Int)) && decide ((4 : Int) + (2 : Int) * nx v (4 : Int) < (4611686018427387904 : Int))) (.br (okW (rs v) && decide ((0 : Int) < (6 : Int)) && decide ((6 : Int) ≤ (4294967296 : Int))) (.br (ib ((-1 : Int) - nx (rs v) (6 : Int))) (.br (decide ((0 : Int) < (3 : Int)) && decide ((3 : Int) < (4611686018427387904 : Int)) && decide ((-4611686018427387904 : Int) < (-1 : Int) - nx (rs v) (6 : Int)) && decide ((-1 : Int) - nx (rs v) (6 : Int) < (4611686018427387904 : Int))) (.br (okW (rs (rs v)) && decide ((0 : Int) < (6 : Int)) && decide ((6 : Int) ≤ (4294967296 : Int))) (.br (ib ((1 : Int) + nx (rs (rs v)) (6 : Int))) (.br (decide ((0 : Int) < (3 : Int)) && decide ((3 : Int) < (4611686018427387904 : Int)) && decide ((-4611686018427387904 : Int) < (1 : Int) + nx (rs (rs v)) (6 : Int)) && decide ((1 : Int) + nx (rs (rs v)) (6 : Int) < (4611686018427387904 : Int))) (.br (okW (rs (rs (rs v))) && decide ((0 : Int) < (8 : Int)) && decide ((8 : Int) ≤ (4294967296 : Int))) (.br (ib ((4 : Int) + nx (rs (rs (rs v))) (8 : Int))) (.br (decide ((0 : Int) < (4 : Int) + nx (rs (rs (rs v))) (8 : Int)) && decide ((4 : Int) + nx (rs (rs (rs v))) (8 : Int) < (4611686018427387904 : Int)) && decide ((-4611686018427387904 : Int) < (1 : Int)) && decide ((1 : Int) < (4611686018427387904 : Int))) (.br (okW (rs (rs (rs (rs v)))) && decide ((0 : Int) < (20 : Int)) && decide ((20 : Int) ≤ (4294967296 : Int))) (.br (ib ((10 : Int) + nx (rs (rs (rs (rs v)))) (20 : Int))) (.br (decide ((0 : Int) < (10 : Int) + nx (rs (rs (rs (rs v)))) (20 : Int)) && decide ((10 : Int) + nx (rs (rs (rs (rs v)))) (20 : Int) < (4611686018427387904 : Int)) && decide ((-4611686018427387904 : Int) < (1 : Int)) && decide ((1 : Int) < (4611686018427387904 : Int))) (.br (ib ((4 : Int) + (2 : Int) * nx v (4 : Int) + (1 : Int))) (.br (smI (-1 : Int) && smI (-1 : Int) && smI ((4 : Int) + (2 : Int) * nx v (4 : Int) + (1 : Int)) && smI (1 : Int)) (.br (okW (rs (rs (rs (rs (rs v))))) && decide ((0 : Int) < (3 : Int)) && decide ((3 : Int) ≤ (4294967296 : Int))) (.br (decide (nx (rs (rs (rs (rs (rs v))))) (3 : Int) = (2 : Int))) (.br (smI (-1 : Int) && smI (-1 : Int)) (.br (ib ((4 : Int) + (2 : Int) * nx v (4 : Int) + (1 : Int))) (.br (smI ((4 : Int) + (2 : Int) * nx v (4 : Int) + (1 : Int)) && smI (0 : Int)) (.br (smI (-1 : Int) && smI (1 : Int)) (.br (((3 : Nat) + [PE.PV.agg [PV.q (mkRat ((4 : Int) + (2 : Int) * nx v (4 : Int)) (Int.toNat (4 : Int))) 64, PV.q (mkRat ((-1 : Int) - nx (rs v) (6 : Int)) (Int.toNat (3 : Int))) 64, PV.q (mkRat ((1 : Int) + nx (rs (rs v)) (6 : Int)) (Int.toNat (3 : Int))) 64, PV.q (mkRat (1 : Int) ((4 : Int) + nx (rs (rs (rs v))) (8 : Int)).toNat) 64, PV.q (mkRat (1 : Int) ((10 : Int) + nx (rs (rs (rs (rs v)))) (20 : Int)).toNat) 64, PV.lst 6 (.vals [PV.agg [PV.q (mkRat (-1 : Int) (4 : Nat)) 64, PV.q (mkRat (-1 : Int) (4 : Nat)) 64], PV.agg [PV.q (mkRat ((4 : Int) + (2 : Int) * nx v (4 : Int) + (1 : Int)) (4 : Nat)) 64, PV.q (mkRat (0 : Int) (4 : Nat)) 64], PV.agg [PV.q (mkRat (-1 : Int) (4 : Nat)) 64, PV.q (mkRat (1 : Int) (4 : Nat)) 64]])]].length).ble 4294967296) (.br (ib (i + (1 : Int))) (.ok (.out .normal { t := [PV.ptr 0 1 0 0 [], PV.ptr 1 12 0 0 [], PV.ptr 2 12 0 0 [], PV.i .i64 c, PV.i .i64 (i + (1 : Int))], h := [some { e := 1, c := Cont.vals [PV.agg [(rs (rs (rs (rs (rs (rs v)))))).w]] }, some { e := 12, c := Cont.vals [PV.agg [PV.s E, PV.agg [PV.agg [PV.agg [PV.bl false, PV.s E, PV.s E], PV.agg [PV.bl false, PV.s E, PV.s E]], PV.agg [PV.bl false, PV.agg [PV.bl false, PV.s E, PV.s E]]], PV.nil]] }, some { e := 12, c := Cont.vals [PV.agg [PV.s nm, PV.agg [PV.agg [PV.q bx 64, PV.q by_ 64], PV.agg [PV.bl false, PV.q t 64]], PV.sl 3 16 0 4]] }, some { e := 16, c := Cont.vals [PV.agg [PV.q a1 64, PV.q b1 64, PV.q c1 64, PV.q d1 64, PV.q e1 64, PV.lst 6 s1], PV.agg [PV.q a2 64, PV.q b2 64, PV.q c2 64, PV.q d2 64, PV.q e2 64, PV.lst 6 s2], PV.agg [PV.q a3 64, PV.q b3 64, PV.q c3 64, PV.q d3 64, PV.q e3 64, PV.lst 6 s3], PV.agg [PV.q (mkRat ((4 : Int) + (2 : Int) * nx v (4 : Int)) (Int.toNat (4 : Int))) 64, PV.q (mkRat ((-1 : Int) - nx (rs v) (6 : Int)) (Int.toNat (3 : Int))) 64, PV.q (mkRat ((1 : Int) + nx (rs (rs v)) (6 : Int)) (Int.toNat (3 : Int))) 64, PV.q (mkRat (1 : Int) ((4 : Int) + nx (rs (rs (rs v))) (8 : Int)).toNat) 64, PV.q (mkRat (1 : Int) ((10 : Int) + nx (rs (rs (rs (rs v)))) (20 : Int)).toNat) 64, PV.lst 6 (.vals [PV.agg [PV.q (mkRat (-1 : Int) (4 : Nat)) 64, PV.q (mkRat (-1 : Int) (4 : Nat)) 64], PV.agg [PV.q (mkRat ((4 : Int) + (2 : Int) * nx v (4 : Int) + (1 : Int)) (4 : Nat)) 64, PV.q (mkRat (0 : Int) (4 : Nat)) 64], PV.agg [PV.q (mkRat (-1 : Int) (4 : Nat)) 64, PV.q (mkRat (1 : Int) (4 : Nat)) 64]])]] }] })) (.no 11002)) (.no 10003)) (.no 1)) (.no 1)) (.no 9006)) (.no 1)) (.br (((3 : Nat) + [PE.PV.agg [PV.q (mkRat ((4 : Int) + (2 : Int) * nx v (4 : Int)) (Int.toNat (4 : Int))) 64, PV.q (mkRat ((-1 : Int) - nx (rs v) (6 : Int)) (Int.toNat (3 : Int))) 64, PV.q (mkRat ((1 : Int) + nx (rs (rs v)) (6 : Int)) (Int.toNat (3 : Int))) 64, PV.q (mkRat (1 : Int) ((4 : Int) + nx (rs (rs (rs v))) (8 : Int)).toNat) 64, PV.q (mkRat (1 : Int) ((10 : Int) + nx (rs (rs (rs (rs v)))) (20 : Int)).toNat) 64, PV.lst 6 (.vals [PV.agg [PV.q (mkRat (-1 : Int) (4 : Nat)) 64, PV.q (mkRat (-1 : Int) (4 : Nat)) 64], PV.agg [PV.q (mkRat ((4 : Int) + (2 : Int) * nx v (4 : Int) + (1 : Int)) (4 : Nat)) 64, PV.q (mkRat (-1 : Int) (4 : Nat)) 64], PV.agg [PV.q (mkRat ((4 : Int) + (2 : Int) * nx v (4 : Int) + (1 : Int)) (4 : Nat)) 64, PV.q (mkRat (1 : Int) (4 : Nat)) 64], PV.agg [PV.q (mkRat (-1 : Int) (4 : Nat)) 64, PV.q (mkRat (1 : Int) (4 : Nat)) 64]])]].length).ble 4294967296) (.br (ib (i + (1 : Int))) (.ok (.out .normal { t := [PV.ptr 0 1 0 0 [], PV.ptr 1 12 0 0 [], PV.ptr 2 12 0 0 [], PV.i .i64 c, PV.i .i64 (i + (1 : Int))], h := [some { e := 1, c := Cont.vals [PV.agg [(rs (rs (rs (rs (rs (rs v)))))).w]] }, some { e := 12, c := Cont.vals [PV.agg [PV.s E, PV.agg [PV.agg [PV.agg [PV.bl false, PV.s E, PV.s E], PV.agg [PV.bl false, PV.s E, PV.s E]], PV.agg [PV.bl false, PV.agg [PV.bl false, PV.s E, PV.s E]]], PV.nil]] }, some { e := 12, c := Cont.vals [PV.agg [PV.s nm, PV.agg [PV.agg [PV.q bx 64, PV.q by_ 64], PV.agg [PV.bl false, PV.q t 64]], PV.sl 3 16 0 4]] }, some { e := 16, c := Cont.vals [PV.agg [PV.q a1 64, PV.q b1 64, PV.q c1 64, PV.q d1 64, PV.q e1 64, PV.lst 6 s1], PV.agg [PV.q a2 64, PV.q b2 64, PV.q c2 64, PV.q d2 64, PV.q e2 64, PV.lst 6 s2], PV.agg [PV.q a3 64, PV.q b3 64, PV.q c3 64, PV.q d3 64, PV.q e3 64, PV.lst 6 s3], PV.agg [PV.q (mkRat ((4 : Int) + (2 : Int) * nx v (4 : Int)) (Int.toNat (4 : Int))) 64, PV.q (mkRat ((-1 : Int) - nx (rs v) (6 : Int)) (Int.toNat (3 : Int))) 64, PV.q (mkRat ((1 : Int) + nx (rs (rs v)) (6 : Int)) (Int.toNat (3 : Int))) 64, PV.q (mkRat (1 : Int) ((4 : Int) + nx (rs (rs (rs v))) (8 : Int)).toNat) 64, PV.q (mkRat (1 : Int) ((10 : Int) + nx (rs (rs (rs (rs v)))) (20 : Int)).toNat) 64, PV.lst 6 (.vals [PV.agg [PV.q (mkRat (-1 : Int) (4 : Nat)) 64, PV.q (mkRat (-1 : Int) (4 : Nat)) 64], PV.agg [PV.q (mkRat ((4 : Int) + (2 : Int) * nx v (4 : Int) + (1 : Int)) (4 : Nat)) 64, PV.q (mkRat (-1 : Int) (4 : Nat)) 64], PV.agg [PV.q (mkRat ((4 : Int) + (2 : Int) * nx v (4 : Int) + (1 : Int)) (4 : Nat)) 64, PV.q (mkRat (1 : Int) (4 : Nat)) 64], PV.agg [PV.q (mkRat (-1 : Int) (4 : Nat)) 64, PV.q (mkRat (1 : Int) (4 : Nat)) 64]])]] }] })) (.no 11002)) (.no 10003))) (.no 1)) (.no 1)) (.no 7005)) (.no 1)) (.no 7008)) (.no 1)) (.no 1)) (.no 7012)) (.no 1)) (.no 1)) (.no 7016)) (.no 1)) (.no 1)) (.no 7020)) (.no 1)) (.no 1)) (.no 6002)) (.no 6003)) (.no 1)) (.ok (.out (.exit 0) { t := [PV.ptr 0 1 0 0 [], PV.ptr 1 12 0 0 [], PV.ptr 2 12 0 0 [], PV.i .i64 c, PV.i .i64 i], h := [some { e := 1, c := Cont.vals [PV.agg [v.w]] }, some { e := 12, c := Cont.vals [PV.agg [PV.s E, PV.agg [PV.agg [PV.agg [PV.bl false, PV.s E, PV.s E], PV.agg [PV.bl false, PV.s E, PV.s E]], PV.agg [PV.bl false, PV.agg [PV.bl false, PV.s E, PV.s E]]], PV.nil]] }, some { e := 12, c := Cont.vals [PV.agg [PV.s nm, PV.agg [PV.agg [PV.q bx 64, PV.q by_ 64], PV.agg [PV.bl false, PV.q t 64]], PV.sl 3 16 0 3]] }, some { e := 16, c := Cont.vals [PV.agg [PV.q a1 64, PV.q b1 64, PV.q c1 64, PV.q d1 64, PV.q e1 64, PV.lst 6 s1], PV.agg [PV.q a2 64, PV.q b2 64, PV.q c2 64, PV.q d2 64, PV.q e2 64, PV.lst 6 s2], PV.agg [PV.q a3 64, PV.q b3 64, PV.q c3 64, PV.q d3 64, PV.q e3 64, PV.lst 6 s3]] }] })) := by kernel_rfl
end Go.Proofs.YtnenjkgffapplaaDoor.PE
namespace Go.Proofs.YtnenjkgffapplaaDoor.PE
open Go
set_option maxRecDepth 100000
variable {G : World → (Nat → Prop) → Prop} (hG : GOk G)
def r6 (v : PV) : PV := rs (rs (rs (rs (rs (rs v)))))
def shV (v : PV) : Cont := if nx (rs (rs (rs (rs (rs v))))) 3 = 2 then
    .vals [.agg [.q (mkRat (-1) 4) 64, .q (mkRat (-1) 4) 64], .agg [.q (mkRat (4 + 2 * nx v 4 + 1) 4) 64, .q (mkRat 0 4) 64], .agg [.q (mkRat (-1) 4) 64, .q (mkRat 1 4) 64]]
  else .vals [.agg [.q (mkRat (-1) 4) 64, .q (mkRat (-1) 4) 64], .agg [.q (mkRat (4 + 2 * nx v 4 + 1) 4) 64, .q (mkRat (-1) 4) 64], .agg [.q (mkRat (4 + 2 * nx v 4 + 1) 4) 64, .q (mkRat 1 4) 64], .agg [.q (mkRat (-1) 4) 64, .q (mkRat 1 4) 64]]
def lenV (v : PV) : Rat := mkRat (4 + 2 * nx v 4) (Int.toNat 4)
def lowV (v : PV) : Rat := mkRat (-1 - nx (rs v) 6) (Int.toNat 3)
def highV (v : PV) : Rat := mkRat (1 + nx (rs (rs v)) 6) (Int.toNat 3)
def spdV (v : PV) : Rat := mkRat 1 (4 + nx (rs (rs (rs v))) 8).toNat
def brkV (v : PV) : Rat := mkRat 1 (10 + nx (rs (rs (rs (rs v)))) 20).toNat
def lkV (v : PV) : PV := lkC (lenV v) (lowV v) (highV v) (spdV v) (brkV v) (shV v)
theorem step68a (v : PV) (hw : okW v = true) (nm : ByteArray) (bx by_ t : Rat) (c : Int) (hc : 0 < c) :
    (evRound Tryd.prog O68 [] pol68 Tryd.f59.ntmps 1 [0, 4, 5, 30, 31] b68 (st68 v nm bx by_ t .nil [] c 0)).run = some (.out .normal (st68 (r6 v) nm bx by_ t (.sl 3 16 0 1) [some ⟨16, .vals [lkV v]⟩] c 1)) := by
  have w1 := okW_rs hw
  have w2 := okW_rs w1
  have w3 := okW_rs w2
  have w4 := okW_rs w3
  have w5 := okW_rs w4
  have g0 := nx_range v (show (0 : Int) < 4 by omega)
  have g1 := nx_range (rs v) (show (0 : Int) < 6 by omega)
  have g2 := nx_range (rs (rs v)) (show (0 : Int) < 6 by omega)
  have g3 := nx_range (rs (rs (rs v))) (show (0 : Int) < 8 by omega)
  have g4 := nx_range (rs (rs (rs (rs v)))) (show (0 : Int) < 20 by omega)
  rw [r68a]
  by_cases hb : nx (rs (rs (rs (rs (rs v))))) 3 = 2
  · have hs : shV v = .vals [.agg [.q (mkRat (-1) 4) 64, .q (mkRat (-1) 4) 64], .agg [.q (mkRat (4 + 2 * nx v 4 + 1) 4) 64, .q (mkRat 0 4) 64], .agg [.q (mkRat (-1) 4) 64, .q (mkRat 1 4) 64]] := if_pos hb
    repeat rw [Tr.run_t (by simp only [hw, w1, w2, w3, w4, w5, Bool.true_and, Bool.and_eq_true, decide_eq_true_eq, smI_iff, Nat.blt_eq, Nat.ble_eq, List.length_cons, List.length_nil]; omega)]
    rw [Tr.run_ok]
    unfold lkV
    rw [hs]
    rfl
  · have hs : shV v = .vals [.agg [.q (mkRat (-1) 4) 64, .q (mkRat (-1) 4) 64], .agg [.q (mkRat (4 + 2 * nx v 4 + 1) 4) 64, .q (mkRat (-1) 4) 64], .agg [.q (mkRat (4 + 2 * nx v 4 + 1) 4) 64, .q (mkRat 1 4) 64], .agg [.q (mkRat (-1) 4) 64, .q (mkRat 1 4) 64]] := if_neg hb
    repeat rw [Tr.run_t (by simp only [hw, w1, w2, w3, w4, w5, Bool.true_and, Bool.and_eq_true, decide_eq_true_eq, smI_iff, Nat.blt_eq, Nat.ble_eq, List.length_cons, List.length_nil]; omega)]
    rw [Tr.run_f (decide_eq_false hb)]
    repeat rw [Tr.run_t (by simp only [hw, w1, w2, w3, w4, w5, Bool.true_and, Bool.and_eq_true, decide_eq_true_eq, smI_iff, Nat.blt_eq, Nat.ble_eq, List.length_cons, List.length_nil]; omega)]
    rw [Tr.run_ok]
    unfold lkV
    rw [hs]
    rfl
theorem step68b (v : PV) (hw : okW v = true) (nm : ByteArray) (bx by_ t : Rat) (c : Int) (a1 b1 c1 d1 e1 : Rat) (s1 : Cont) (hc : 1 < c) :
    (evRound Tryd.prog O68 [] pol68 Tryd.f59.ntmps 1 [0, 4, 5, 30, 31] b68 (st68 v nm bx by_ t (.sl 3 16 0 1) [some ⟨16, .vals [lkC a1 b1 c1 d1 e1 s1]⟩] c 1)).run = some (.out .normal (st68 (r6 v) nm bx by_ t (.sl 3 16 0 2) [some ⟨16, .vals [lkC a1 b1 c1 d1 e1 s1, lkV v]⟩] c 2)) := by
  have w1 := okW_rs hw
  have w2 := okW_rs w1
  have w3 := okW_rs w2
  have w4 := okW_rs w3
  have w5 := okW_rs w4
  have g0 := nx_range v (show (0 : Int) < 4 by omega)
  have g1 := nx_range (rs v) (show (0 : Int) < 6 by omega)
  have g2 := nx_range (rs (rs v)) (show (0 : Int) < 6 by omega)
  have g3 := nx_range (rs (rs (rs v))) (show (0 : Int) < 8 by omega)
  have g4 := nx_range (rs (rs (rs (rs v)))) (show (0 : Int) < 20 by omega)
  rw [r68b]
  by_cases hb : nx (rs (rs (rs (rs (rs v))))) 3 = 2
  · have hs : shV v = .vals [.agg [.q (mkRat (-1) 4) 64, .q (mkRat (-1) 4) 64], .agg [.q (mkRat (4 + 2 * nx v 4 + 1) 4) 64, .q (mkRat 0 4) 64], .agg [.q (mkRat (-1) 4) 64, .q (mkRat 1 4) 64]] := if_pos hb
    repeat rw [Tr.run_t (by simp only [hw, w1, w2, w3, w4, w5, Bool.true_and, Bool.and_eq_true, decide_eq_true_eq, smI_iff, Nat.blt_eq, Nat.ble_eq, List.length_cons, List.length_nil]; omega)]
    rw [Tr.run_ok]
    unfold lkV
    rw [hs]
    rfl
  · have hs : shV v = .vals [.agg [.q (mkRat (-1) 4) 64, .q (mkRat (-1) 4) 64], .agg [.q (mkRat (4 + 2 * nx v 4 + 1) 4) 64, .q (mkRat (-1) 4) 64], .agg [.q (mkRat (4 + 2 * nx v 4 + 1) 4) 64, .q (mkRat 1 4) 64], .agg [.q (mkRat (-1) 4) 64, .q (mkRat 1 4) 64]] := if_neg hb
    repeat rw [Tr.run_t (by simp only [hw, w1, w2, w3, w4, w5, Bool.true_and, Bool.and_eq_true, decide_eq_true_eq, smI_iff, Nat.blt_eq, Nat.ble_eq, List.length_cons, List.length_nil]; omega)]
    rw [Tr.run_f (decide_eq_false hb)]
    repeat rw [Tr.run_t (by simp only [hw, w1, w2, w3, w4, w5, Bool.true_and, Bool.and_eq_true, decide_eq_true_eq, smI_iff, Nat.blt_eq, Nat.ble_eq, List.length_cons, List.length_nil]; omega)]
    rw [Tr.run_ok]
    unfold lkV
    rw [hs]
    rfl
theorem step68c (v : PV) (hw : okW v = true) (nm : ByteArray) (bx by_ t : Rat) (c : Int) (a1 b1 c1 d1 e1 a2 b2 c2 d2 e2 : Rat) (s1 s2 : Cont) (hc : 2 < c) :
    (evRound Tryd.prog O68 [] pol68 Tryd.f59.ntmps 1 [0, 4, 5, 30, 31] b68 (st68 v nm bx by_ t (.sl 3 16 0 2) [some ⟨16, .vals [lkC a1 b1 c1 d1 e1 s1, lkC a2 b2 c2 d2 e2 s2]⟩] c 2)).run = some (.out .normal (st68 (r6 v) nm bx by_ t (.sl 3 16 0 3) [some ⟨16, .vals [lkC a1 b1 c1 d1 e1 s1, lkC a2 b2 c2 d2 e2 s2, lkV v]⟩] c 3)) := by
  have w1 := okW_rs hw
  have w2 := okW_rs w1
  have w3 := okW_rs w2
  have w4 := okW_rs w3
  have w5 := okW_rs w4
  have g0 := nx_range v (show (0 : Int) < 4 by omega)
  have g1 := nx_range (rs v) (show (0 : Int) < 6 by omega)
  have g2 := nx_range (rs (rs v)) (show (0 : Int) < 6 by omega)
  have g3 := nx_range (rs (rs (rs v))) (show (0 : Int) < 8 by omega)
  have g4 := nx_range (rs (rs (rs (rs v)))) (show (0 : Int) < 20 by omega)
  rw [r68c]
  by_cases hb : nx (rs (rs (rs (rs (rs v))))) 3 = 2
  · have hs : shV v = .vals [.agg [.q (mkRat (-1) 4) 64, .q (mkRat (-1) 4) 64], .agg [.q (mkRat (4 + 2 * nx v 4 + 1) 4) 64, .q (mkRat 0 4) 64], .agg [.q (mkRat (-1) 4) 64, .q (mkRat 1 4) 64]] := if_pos hb
    repeat rw [Tr.run_t (by simp only [hw, w1, w2, w3, w4, w5, Bool.true_and, Bool.and_eq_true, decide_eq_true_eq, smI_iff, Nat.blt_eq, Nat.ble_eq, List.length_cons, List.length_nil]; omega)]
    rw [Tr.run_ok]
    unfold lkV
    rw [hs]
    rfl
  · have hs : shV v = .vals [.agg [.q (mkRat (-1) 4) 64, .q (mkRat (-1) 4) 64], .agg [.q (mkRat (4 + 2 * nx v 4 + 1) 4) 64, .q (mkRat (-1) 4) 64], .agg [.q (mkRat (4 + 2 * nx v 4 + 1) 4) 64, .q (mkRat 1 4) 64], .agg [.q (mkRat (-1) 4) 64, .q (mkRat 1 4) 64]] := if_neg hb
    repeat rw [Tr.run_t (by simp only [hw, w1, w2, w3, w4, w5, Bool.true_and, Bool.and_eq_true, decide_eq_true_eq, smI_iff, Nat.blt_eq, Nat.ble_eq, List.length_cons, List.length_nil]; omega)]
    rw [Tr.run_f (decide_eq_false hb)]
    repeat rw [Tr.run_t (by simp only [hw, w1, w2, w3, w4, w5, Bool.true_and, Bool.and_eq_true, decide_eq_true_eq, smI_iff, Nat.blt_eq, Nat.ble_eq, List.length_cons, List.length_nil]; omega)]
    rw [Tr.run_ok]
    unfold lkV
    rw [hs]
    rfl
end Go.Proofs.YtnenjkgffapplaaDoor.PE
namespace Go.Proofs.YtnenjkgffapplaaDoor.PE
open Go
set_option maxRecDepth 100000
variable {G : World → (Nat → Prop) → Prop} (hG : GOk G)
def Pl68 (v z : PV) (u1 u2 u3 : Nat) (c i : Int) : Prop := okW v = true ∧ i = 0 ∧ 1 ≤ c ∧ c ≤ 3 ∧ z = zArm E E E E E E E ∧ u1 = 64 ∧ u2 = 64 ∧ u3 = 64
noncomputable def l68 : LSpec := fun ls K => match ls with
  | ⟨[.ptr 0 1 0 0 [], .ptr 1 12 0 0 [], .ptr 2 12 0 0 [], .i .i64 c, .i .i64 i], [some ⟨1, .vals [.agg [.w v]]⟩, some ⟨12, .vals [z]⟩, some ⟨12, .vals [.agg [.s nm, .agg [.agg [.q bx u1, .q by_ u2], .agg [.bl false, .q t u3]], .nil]]⟩]⟩ =>
    .br (decP (Pl68 v z u1 u2 u3 c i)) (.br (decide (c = 1)) (K (.exit 0) (st68 (r6 v) nm bx by_ t (.sl 3 16 0 1) [some ⟨16, .vals [lkV v]⟩] c 1))
      (.br (decide (c = 2)) (K (.exit 0) (st68 (r6 (r6 v)) nm bx by_ t (.sl 3 16 0 2) [some ⟨16, .vals [lkV v, lkV (r6 v)]⟩] c 2))
        (K (.exit 0) (st68 (r6 (r6 (r6 v))) nm bx by_ t (.sl 3 16 0 3) [some ⟨16, .vals [lkV v, lkV (r6 v), lkV (r6 (r6 v))]⟩] c 3)))) (.no 1)
  | _ => .no 1
include hG in
theorem orc68 : OrcOK Tryd.prog G O68 := .cons (ok45 hG) (.cons (ok81 hG) (.cons (ok104 hG) (.cons (ok105 hG) .nil)))
include hG in
theorem rnd68 {ls ls' : LS} {e : Exit} (hl : 1 ≤ ls.h.length) (h : (evRound Tryd.prog O68 [] pol68 Tryd.f59.ntmps 1 [0, 4, 5, 30, 31] b68 ls).run = some (.out e ls')) : Rnd Tryd.prog G Tryd.f59.ntmps 1 [0, 4, 5, 30, 31] b68 ls e ls' :=
  round_ok hG (orc68 hG) mix (L := []) (pol := pol68) (O := O68) (LpsOK.none (by kernel_rfl)) hl h
theorem okW_r6 {v : PV} (h : okW v = true) : okW (r6 v) = true := okW_rs (okW_rs (okW_rs (okW_rs (okW_rs (okW_rs h)))))
include hG in
theorem loop68 : LoopOK Tryd.prog G Tryd.f59.ntmps 1 [0, 4, 5, 30, 31] b68 l68 := by
  intro ls K y hm h
  unfold l68 at h
  split at h
  case h_2 => cases h
  rename_i c i v z nm bx u1 by_ u2 t u3
  obtain ⟨hc, hr⟩ := Tr.of_br h
  obtain ⟨hw, rfl, h1, h3, rfl, rfl, rfl, rfl⟩ := decP_iff.1 hc
  have a1 := rnd68 hG (ls := st68 v nm bx by_ t .nil [] c 0) (by simp [st68]) (step68a v hw nm bx by_ t c (by omega))
  have w1 := okW_r6 hw
  by_cases e1 : c = 1
  · subst e1
    rw [Tr.run_t (by decide)] at hr
    have a2 := rnd68 hG (ls := st68 (r6 v) nm bx by_ t (.sl 3 16 0 1) [some ⟨16, .vals [lkV v]⟩] 1 1) (e := .exit 0) (by simp [st68]) ((congrArg Tr.run (r68b (r6 v) nm bx by_ t 1 1 _ _ _ _ _ _)).trans ((Tr.run_f (by decide)).trans rfl))
    exact ⟨_, _, goes_ok (.more _ _ _ _ a1 (.last _ _ _ a2 (by simp))), hr⟩
  · rw [Tr.run_f (decide_eq_false e1)] at hr
    have a2 := rnd68 hG (ls := st68 (r6 v) nm bx by_ t (.sl 3 16 0 1) [some ⟨16, .vals [lkV v]⟩] c 1) (by simp [st68]) (step68b (r6 v) w1 nm bx by_ t c _ _ _ _ _ _ (by omega))
    by_cases e2 : c = 2
    · subst e2
      rw [Tr.run_t (by decide)] at hr
      have a3 := rnd68 hG (ls := st68 (r6 (r6 v)) nm bx by_ t (.sl 3 16 0 2) [some ⟨16, .vals [lkV v, lkV (r6 v)]⟩] 2 2) (e := .exit 0) (by simp [st68]) ((congrArg Tr.run (r68c (r6 (r6 v)) nm bx by_ t 2 2 _ _ _ _ _ _ _ _ _ _ _ _)).trans ((Tr.run_f (by decide)).trans rfl))
      exact ⟨_, _, goes_ok (.more _ _ _ _ a1 (.more _ _ _ _ a2 (.last _ _ _ a3 (by simp)))), hr⟩
    · have e3 : c = 3 := by omega
      subst e3
      rw [Tr.run_f (by decide)] at hr
      have a3 := rnd68 hG (ls := st68 (r6 (r6 v)) nm bx by_ t (.sl 3 16 0 2) [some ⟨16, .vals [lkV v, lkV (r6 v)]⟩] 3 2) (by simp [st68]) (step68c (r6 (r6 v)) (okW_r6 w1) nm bx by_ t 3 _ _ _ _ _ _ _ _ _ _ _ _ (by omega))
      have a4 := rnd68 hG (ls := st68 (r6 (r6 (r6 v))) nm bx by_ t (.sl 3 16 0 3) [some ⟨16, .vals [lkV v, lkV (r6 v), lkV (r6 (r6 v))]⟩] 3 3) (e := .exit 0) (by simp [st68]) ((congrArg Tr.run (r68d (r6 (r6 (r6 v))) nm bx by_ t 3 3 _ _ _ _ _ _ _ _ _ _ _ _ _ _ _ _ _ _)).trans ((Tr.run_f (by decide)).trans rfl))
      exact ⟨_, _, goes_ok (.more _ _ _ _ a1 (.more _ _ _ _ a2 (.more _ _ _ _ a3 (.last _ _ _ a4 (by simp))))), hr⟩
theorem e68 (v : PV) : evF Tryd.prog O68 [(4, l68)] pol68 Tryd.f59 [.ptr 0 1 0 0 [], .i .i64 0] [⟨1, .vals [.agg [.w v]]⟩] retK =
  Tr.br (ix ((0 : Int)) ((↑[PV.s (ByteArray.mk #[(111 : UInt8), (110 : UInt8), (101 : UInt8)]), PV.s (ByteArray.mk #[(116 : UInt8), (119 : UInt8), (111 : UInt8)]), PV.s (ByteArray.mk #[(116 : UInt8), (104 : UInt8), (114 : UInt8), (101 : UInt8), (101 : UInt8)]), PV.s (ByteArray.mk #[(102 : UInt8), (111 : UInt8), (117 : UInt8), (114 : UInt8)])].length : Int))) (.br (ib ((40 : Int) * (0 : Int))) (.br (smI ((40 : Int) * (0 : Int)) && smI (0 : Int)) (.br (okW v && decide ((0 : Int) < (4 : Int)) && decide ((4 : Int) ≤ (4294967296 : Int))) (.br (ix (nx v (4 : Int)) ((↑[(0 : Int), (1 : Int), (-1 : Int), (1 : Int)].length : Int))) (.br (okW (rs v) && decide ((0 : Int) < (3 : Int)) && decide ((3 : Int) ≤ (4294967296 : Int))) (.br (ib ((1 : Int) + nx (rs v) (3 : Int))) (.br (decide ((0 : Int) < (1 : Int) + nx (rs v) (3 : Int)) && decide ((1 : Int) + nx (rs v) (3 : Int) < (4611686018427387904 : Int)) && decide ((-4611686018427387904 : Int) < [(0 : Int), (1 : Int), (-1 : Int), (1 : Int)].getD (nx v (4 : Int)).toNat (0 : Int)) && decide ([(0 : Int), (1 : Int), (-1 : Int), (1 : Int)].getD (nx v (4 : Int)).toNat (0 : Int) < (4611686018427387904 : Int))) (.br (okW (rs (rs v)) && decide ((0 : Int) < (3 : Int)) && decide ((3 : Int) ≤ (4294967296 : Int))) (.br (ib ((1 : Int) + nx (rs (rs v)) (3 : Int))) (.br (decP (Pl68 (rs (rs (rs v))) (PV.agg [PV.s (ByteArray.mk #[]), PV.agg [PV.agg [PV.agg [PV.bl false, PV.s (ByteArray.mk #[]), PV.s (ByteArray.mk #[])], PV.agg [PV.bl false, PV.s (ByteArray.mk #[]), PV.s (ByteArray.mk #[])]], PV.agg [PV.bl false, PV.agg [PV.bl false, PV.s (ByteArray.mk #[]), PV.s (ByteArray.mk #[])]]], PV.nil]) (64 : Nat) (64 : Nat) (64 : Nat) ((1 : Int) + nx (rs (rs v)) (3 : Int)) (0 : Int))) (.br (decide ((1 : Int) + nx (rs (rs v)) (3 : Int) = (1 : Int))) (.ok (.ret (PV.agg [PV.s (ByteArray.mk #[(111 : UInt8), (110 : UInt8), (101 : UInt8)]), PV.agg [PV.agg [PV.q (mkRat ((40 : Int) * (0 : Int)) (4 : Nat)) 64, PV.q (mkRat (0 : Int) (4 : Nat)) 64], PV.agg [PV.bl false, PV.q (mkRat ([(0 : Int), (1 : Int), (-1 : Int), (1 : Int)].getD (nx v (4 : Int)).toNat (0 : Int)) ((1 : Int) + nx (rs v) (3 : Int)).toNat) 64]], PV.fr 16 (.vals [PV.agg [PV.q (lenV (rs (rs (rs v)))) 64, PV.q (lowV (rs (rs (rs v)))) 64, PV.q (highV (rs (rs (rs v)))) 64, PV.q (spdV (rs (rs (rs v)))) 64, PV.q (brkV (rs (rs (rs v)))) 64, PV.lst 6 (shV (rs (rs (rs v))))]])]) [Blk.mk 1 (.vals [PV.agg [(r6 (rs (rs (rs v)))).w]])])) (.br (decide ((1 : Int) + nx (rs (rs v)) (3 : Int) = (2 : Int))) (.ok (.ret (PV.agg [PV.s (ByteArray.mk #[(111 : UInt8), (110 : UInt8), (101 : UInt8)]), PV.agg [PV.agg [PV.q (mkRat ((40 : Int) * (0 : Int)) (4 : Nat)) 64, PV.q (mkRat (0 : Int) (4 : Nat)) 64], PV.agg [PV.bl false, PV.q (mkRat ([(0 : Int), (1 : Int), (-1 : Int), (1 : Int)].getD (nx v (4 : Int)).toNat (0 : Int)) ((1 : Int) + nx (rs v) (3 : Int)).toNat) 64]], PV.fr 16 (.vals [PV.agg [PV.q (lenV (rs (rs (rs v)))) 64, PV.q (lowV (rs (rs (rs v)))) 64, PV.q (highV (rs (rs (rs v)))) 64, PV.q (spdV (rs (rs (rs v)))) 64, PV.q (brkV (rs (rs (rs v)))) 64, PV.lst 6 (shV (rs (rs (rs v))))], PV.agg [PV.q (lenV (r6 (rs (rs (rs v))))) 64, PV.q (lowV (r6 (rs (rs (rs v))))) 64, PV.q (highV (r6 (rs (rs (rs v))))) 64, PV.q (spdV (r6 (rs (rs (rs v))))) 64, PV.q (brkV (r6 (rs (rs (rs v))))) 64, PV.lst 6 (shV (r6 (rs (rs (rs v)))))]])]) [Blk.mk 1 (.vals [PV.agg [(r6 (r6 (rs (rs (rs v))))).w]])])) (.ok (.ret (PV.agg [PV.s (ByteArray.mk #[(111 : UInt8), (110 : UInt8), (101 : UInt8)]), PV.agg [PV.agg [PV.q (mkRat ((40 : Int) * (0 : Int)) (4 : Nat)) 64, PV.q (mkRat (0 : Int) (4 : Nat)) 64], PV.agg [PV.bl false, PV.q (mkRat ([(0 : Int), (1 : Int), (-1 : Int), (1 : Int)].getD (nx v (4 : Int)).toNat (0 : Int)) ((1 : Int) + nx (rs v) (3 : Int)).toNat) 64]], PV.fr 16 (.vals [PV.agg [PV.q (lenV (rs (rs (rs v)))) 64, PV.q (lowV (rs (rs (rs v)))) 64, PV.q (highV (rs (rs (rs v)))) 64, PV.q (spdV (rs (rs (rs v)))) 64, PV.q (brkV (rs (rs (rs v)))) 64, PV.lst 6 (shV (rs (rs (rs v))))], PV.agg [PV.q (lenV (r6 (rs (rs (rs v))))) 64, PV.q (lowV (r6 (rs (rs (rs v))))) 64, PV.q (highV (r6 (rs (rs (rs v))))) 64, PV.q (spdV (r6 (rs (rs (rs v))))) 64, PV.q (brkV (r6 (rs (rs (rs v))))) 64, PV.lst 6 (shV (r6 (rs (rs (rs v)))))], PV.agg [PV.q (lenV (r6 (r6 (rs (rs (rs v)))))) 64, PV.q (lowV (r6 (r6 (rs (rs (rs v)))))) 64, PV.q (highV (r6 (r6 (rs (rs (rs v)))))) 64, PV.q (spdV (r6 (r6 (rs (rs (rs v)))))) 64, PV.q (brkV (r6 (r6 (rs (rs (rs v)))))) 64, PV.lst 6 (shV (r6 (r6 (rs (rs (rs v))))))]])]) [Blk.mk 1 (.vals [PV.agg [(r6 (r6 (r6 (rs (rs (rs v)))))).w]])])))) (.no 1)) (.no 4002)) (.no 1)) (.no 1)) (.no 3006)) (.no 1)) (.no 3010)) (.no 1)) (.no 1)) (.no 3015)) (.no 2005) := by kernel_rfl
def itR6 : Nat → PV → PV
  | 0, v => v
  | k + 1, v => itR6 k (r6 v)
def lkD (v : PV) : Lk := ⟨lenV v, lowV v, highV v, spdV v, brkV v, (shV v).len, fun i => dq (fldV ((shV v).get i) 0), fun i => dq (fldV ((shV v).get i) 1)⟩
def armD (v : PV) : Am := ⟨⟨#[111, 110, 101]⟩, mkRat (40 * 0) 4, mkRat 0 4, mkRat ([(0 : Int), 1, -1, 1].getD (nx v 4).toNat 0) (1 + nx (rs v) 3).toNat, (1 + nx (rs (rs v)) 3).toNat, fun j => lkD (itR6 j (rs (rs (rs v))))⟩
theorem shV_get (v : PV) (i : Nat) (h : i < (shV v).len) : (shV v).get i = .agg [.q (dq (fldV ((shV v).get i) 0)) 64, .q (dq (fldV ((shV v).get i) 1)) 64] := by
  unfold shV at *
  by_cases hb : nx (rs (rs (rs (rs (rs v))))) 3 = 2
  · simp only [hb, if_true, Cont.len, List.length_cons, List.length_nil] at h ⊢
    match i, h with
    | 0, _ => rfl
    | 1, _ => rfl
    | 2, _ => rfl
    | i + 3, h => omega
  · simp only [hb, if_false, Cont.len, List.length_cons, List.length_nil] at h ⊢
    match i, h with
    | 0, _ => rfl
    | 1, _ => rfl
    | 2, _ => rfl
    | 3, _ => rfl
    | i + 4, h => omega
theorem lkV_le (v : PV) : VLe (lkV v) (lkPV (lkD v)) := by
  refine VLe.agg (VLeL.cons (.refl _) (VLeL.cons (.refl _) (VLeL.cons (.refl _) (VLeL.cons (.refl _) (VLeL.cons (.refl _) (VLeL.cons ?_ .nil))))))
  refine VLe.lst rfl fun i hi => ?_
  have := shV_get v i hi
  have e : (Cont.fn (lkD v).np (pv (lkD v).px (lkD v).py)).get i = (shV v).get i := this.symm
  rw [e]
  exact .refl _
theorem rle_arm (nm : ByteArray) (bx by_ t : Rat) (vs : List PV) (n : Nat) (f : Nat → PV) (hl : vs.length = n) (h : ∀ (i : Nat) (v : PV), vs[i]? = some v → noRef 8 v = true ∧ VLe v (f i)) :
    RLe (frA nm bx by_ t (.fr 16 (.vals vs))) (frA nm bx by_ t (.fr 16 (.fn n f))) := by
  subst hl
  exact ⟨fun m => .refl _, fun m => KsLe.one (KLe.fn rfl h)⟩
def armFr (A : Am) : PV := frA A.name A.bx A.by_ A.t (.fr 16 (.fn A.n (fun j => lkPV (A.lk j))))
def s68 : Spec := fun args hs K => match args, hs with
  | [.ptr 0 1 0 0 [], .i .i64 k], [⟨1, .vals [.agg [.w v]]⟩] => .br (okW v && decide (k = 0)) (K (armFr (armD v)) [⟨1, .vals [.agg [.w (itR6 (armD v).n (rs (rs (rs v))))]]⟩]) (.no 1)
  | _, _ => .no 1
include hG in
theorem ok68 : SpecOK Tryd.prog G 59 s68 := by
  refine spec_of hG (orc68 hG) mix enter68 (L := [(4, l68)]) (pol := pol68) fun args hs K x h => ?_
  unfold s68 at h
  split at h
  case h_2 => cases h
  rename_i k v
  obtain ⟨hc, hr⟩ := Tr.of_br h
  simp only [Bool.and_eq_true, decide_eq_true_eq] at hc
  obtain ⟨hw, rfl⟩ := hc
  refine ⟨lps1 (b := b68) (live := [0, 4, 5, 30, 31]) (sp := l68) (m := 1) (by kernel_rfl) (by kernel_rfl) (by kernel_rfl) (loop68 hG), ?_⟩
  have w1 := okW_rs hw
  have w2 := okW_rs w1
  have w3 := okW_rs w2
  have g0 := nx_range v (show (0 : Int) < 4 by omega)
  have g1 := nx_range (rs v) (show (0 : Int) < 3 by omega)
  have g2 := nx_range (rs (rs v)) (show (0 : Int) < 3 by omega)
  have gt : ∀ i : Nat, -2 < [(0 : Int), 1, -1, 1].getD i 0 ∧ [(0 : Int), 1, -1, 1].getD i 0 < 2 := by
    intro i
    match i with
    | 0 => decide
    | 1 => decide
    | 2 => decide
    | 3 => decide
    | i + 4 => exact ⟨by show (-2 : Int) < 0; decide, by show (0 : Int) < 2; decide⟩
  have gt' := gt (nx v 4).toNat
  rw [e68]
  rw [Tr.run_t (by decide), Tr.run_t (by decide), Tr.run_t (by decide), Tr.run_t (by rw [hw]; decide), Tr.run_t (by simp only [Bool.and_eq_true, decide_eq_true_eq, List.length_cons, List.length_nil]; omega), Tr.run_t (by rw [w1]; decide),
    Tr.run_t (by simp only [Bool.and_eq_true, decide_eq_true_eq]; omega), Tr.run_t (by simp only [Bool.and_eq_true, decide_eq_true_eq]; omega), Tr.run_t (by rw [w2]; decide), Tr.run_t (by simp only [Bool.and_eq_true, decide_eq_true_eq]; omega),
    Tr.run_t (decP_iff.2 ⟨w3, rfl, by omega, by omega, rfl, rfl, rfl, rfl⟩)]
  have hn : (armD v).n = (1 + nx (rs (rs v)) 3).toNat := rfl
  have one : ∀ (vs : List PV), vs.length = (armD v).n → (∀ i u, vs[i]? = some u → u = lkV (itR6 i (rs (rs (rs v))))) →
      RLe (frA (armD v).name (armD v).bx (armD v).by_ (armD v).t (.fr 16 (.vals vs))) (armFr (armD v)) := by
    intro vs hl hv
    refine rle_arm _ _ _ _ _ _ _ hl fun i u hu => ?_
    rw [hv i u hu]
    exact ⟨rfl, lkV_le _⟩
  by_cases e1 : 1 + nx (rs (rs v)) 3 = 1
  · have hn1 : (armD v).n = 1 := by omega
    rw [hn1] at hr
    rw [Tr.run_t (decide_eq_true e1)]
    refine ⟨_, _, _, rfl, one [lkV (rs (rs (rs v)))] (by rw [hn1]; rfl) (fun i u hu => ?_), hr⟩
    match i, hu with
    | 0, hu => exact (Option.some.inj hu).symm
    | i + 1, hu => simp at hu
  · rw [Tr.run_f (decide_eq_false e1)]
    by_cases e2 : 1 + nx (rs (rs v)) 3 = 2
    · have hn1 : (armD v).n = 2 := by omega
      rw [hn1] at hr
      rw [Tr.run_t (decide_eq_true e2)]
      refine ⟨_, _, _, rfl, one [lkV (rs (rs (rs v))), lkV (r6 (rs (rs (rs v))))] (by rw [hn1]; rfl) (fun i u hu => ?_), hr⟩
      match i, hu with
      | 0, hu => exact (Option.some.inj hu).symm
      | 1, hu => exact (Option.some.inj hu).symm
      | i + 2, hu => simp at hu
    · have hn1 : (armD v).n = 3 := by omega
      rw [hn1] at hr
      rw [Tr.run_f (decide_eq_false e2)]
      refine ⟨_, _, _, rfl, one [lkV (rs (rs (rs v))), lkV (r6 (rs (rs (rs v)))), lkV (r6 (r6 (rs (rs (rs v)))))] (by rw [hn1]; rfl) (fun i u hu => ?_), hr⟩
      match i, hu with
      | 0, hu => exact (Option.some.inj hu).symm
      | 1, hu => exact (Option.some.inj hu).symm
      | 2, hu => exact (Option.some.inj hu).symm
      | i + 3, hu => simp at hu
theorem enter15 : Enters Tryd.prog 13 Tryd.f13 (bodyC Tryd.f13) := ⟨Tryd.func13, by kernel_rfl, rfl⟩
def pol15 : Pol := { own := [6], wr := [(59, [0])] }
theorem e15 (v : PV) : evF Tryd.prog [(59, s68)] [] pol15 Tryd.f13 [.w v] [] retK =
  Tr.br (okW v && decide ((0 : Int) = (0 : Int))) (.br ((armD v).n.ble (armD v).n) (.ok (.ret (PV.agg [PV.s (armD v).name, PV.agg [PV.agg [PV.q (armD v).bx 64, PV.q (armD v).by_ 64], PV.agg [PV.bl false, PV.q (armD v).t 64]], PV.fr 16 (.fn (armD v).n fun (j : Nat) => PV.agg [PV.q ((armD v).lk (j + (0 : Nat))).len 64, PV.q ((armD v).lk (j + (0 : Nat))).low 64, PV.q ((armD v).lk (j + (0 : Nat))).high 64, PV.q ((armD v).lk (j + (0 : Nat))).spd 64, PV.q ((armD v).lk (j + (0 : Nat))).brk 64, PV.lst 6 (.fn ((armD v).lk (j + (0 : Nat))).np fun (a : Nat) => PV.agg [PV.q (((armD v).lk (j + (0 : Nat))).px a) 64, PV.q (((armD v).lk (j + (0 : Nat))).py a) 64])])]) [])) (.no 15)) (.no 1) := by kernel_rfl
def s15 : Spec := fun args hs K => match args, hs with
  | [.w v], [] => .br (okW v) (K (armFr (armD v)) []) (.no 1)
  | _, _ => .no 1
include hG in
theorem ok15 : SpecOK Tryd.prog G 13 s15 := by
  refine spec_of hG (.cons (ok68 hG) .nil) mix enter15 (L := []) (pol := pol15) fun args hs K x h => ?_
  unfold s15 at h
  split at h
  case h_2 => cases h
  rename_i v
  obtain ⟨hc, hr⟩ := Tr.of_br h
  refine ⟨LpsOK.none (by kernel_rfl), _, _, _, ?_, .refl _, hr⟩
  rw [e15, Tr.run_t (by rw [hc]; decide), Tr.run_t (by rw [Nat.ble_eq]; omega), Tr.run_ok]
  rfl

theorem smQ_mk {n : Int} {d : Nat} (hd : d ≠ 0) (hn : n.natAbs ≤ 1000000) (hd2 : d ≤ 1000) : smQ (mkRat n d) = true :=
  smQ_iff.2 ⟨Nat.le_trans (mkRat_num_le n hd) hn, Nat.le_trans (mkRat_den_le n hd) hd2⟩
theorem mk_posI {n : Int} {d : Nat} (hn : 0 < n) (hd : 0 < d) : (0 : Rat) < mkRat n d := by
  rw [show n = ((n.toNat : Nat) : Int) by omega]; exact Prof.mk_pos (by omega) hd
theorem mk_negI {n : Int} {d : Nat} (hn : n < 0) (hd : 0 < d) : mkRat n d < (0 : Rat) := by
  have h := mk_posI (n := -n) (d := d) (by omega) hd
  rw [← Rat.neg_mkRat] at h
  grind
def shF (g : Int) (b : Bool) : Cont := match b with
  | true => .vals [.agg [.q (mkRat (-1) 4) 64, .q (mkRat (-1) 4) 64], .agg [.q (mkRat (4 + 2 * g + 1) 4) 64, .q (mkRat 0 4) 64], .agg [.q (mkRat (-1) 4) 64, .q (mkRat 1 4) 64]]
  | false => .vals [.agg [.q (mkRat (-1) 4) 64, .q (mkRat (-1) 4) 64], .agg [.q (mkRat (4 + 2 * g + 1) 4) 64, .q (mkRat (-1) 4) 64], .agg [.q (mkRat (4 + 2 * g + 1) 4) 64, .q (mkRat 1 4) 64], .agg [.q (mkRat (-1) 4) 64, .q (mkRat 1 4) 64]]
theorem shV_F (v : PV) : shV v = shF (nx v 4) (decide (nx (rs (rs (rs (rs (rs v))))) 3 = 2)) := by
  unfold shV
  by_cases hb : nx (rs (rs (rs (rs (rs v))))) 3 = 2
  · rw [if_pos hb, decide_eq_true hb]; rfl
  · rw [if_neg hb, decide_eq_false hb]; rfl
theorem shF_ok : ∀ (g : Nat) (b : Bool), g < 4 → polyB (shF g b).len (fun i => dq (fldV ((shF g b).get i) 0)) (fun i => dq (fldV ((shF g b).get i) 1)) = true
  | 0, true, _ => by kernel_rfl
  | 1, true, _ => by kernel_rfl
  | 2, true, _ => by kernel_rfl
  | 3, true, _ => by kernel_rfl
  | 0, false, _ => by kernel_rfl
  | 1, false, _ => by kernel_rfl
  | 2, false, _ => by kernel_rfl
  | 3, false, _ => by kernel_rfl
theorem lkB_V (v : PV) : lkB (lkD v) = true := by
  have g0 := nx_range v (show (0 : Int) < 4 by omega)
  have g1 := nx_range (rs v) (show (0 : Int) < 6 by omega)
  have g2 := nx_range (rs (rs v)) (show (0 : Int) < 6 by omega)
  have g3 := nx_range (rs (rs (rs v))) (show (0 : Int) < 8 by omega)
  have g4 := nx_range (rs (rs (rs (rs v)))) (show (0 : Int) < 20 by omega)
  have t3 : Int.toNat 3 = 3 := rfl
  have t4 : Int.toNat 4 = 4 := rfl
  have p := shF_ok (nx v 4).toNat (decide (nx (rs (rs (rs (rs (rs v))))) 3 = 2)) (by omega)
  rw [Int.toNat_of_nonneg g0.1, ← shV_F] at p
  have hlh : lowV v < highV v := by
    have a := mk_negI (n := -1 - nx (rs v) 6) (d := 3) (by omega) (by omega)
    have b := mk_posI (n := 1 + nx (rs (rs v)) 6) (d := 3) (by omega) (by omega)
    unfold lowV highV
    rw [t3]
    grind
  simp only [lkB, Bool.and_eq_true, decide_eq_true_eq]
  refine ⟨⟨⟨⟨⟨⟨⟨⟨⟨?_, ?_⟩, ?_⟩, ?_⟩, ?_⟩, ?_⟩, hlh⟩, ?_⟩, ?_⟩, p⟩
  · exact smQ_mk (by omega) (by omega) (by omega)
  · exact smQ_mk (by omega) (by omega) (by omega)
  · exact smQ_mk (by omega) (by omega) (by omega)
  · exact smQ_mk (by omega) (by omega) (by omega)
  · exact smQ_mk (by omega) (by omega) (by omega)
  · exact mk_posI (by omega) (by omega)
  · exact mk_posI (by omega) (by omega)
  · exact mk_posI (by omega) (by omega)
theorem armB_V (v : PV) : armB (armD v) = true := by
  have g0 := nx_range v (show (0 : Int) < 4 by omega)
  have g1 := nx_range (rs v) (show (0 : Int) < 3 by omega)
  have g2 := nx_range (rs (rs v)) (show (0 : Int) < 3 by omega)
  have hn : (armD v).n = (1 + nx (rs (rs v)) 3).toNat := rfl
  simp only [armB, Bool.and_eq_true, decide_eq_true_eq, List.all_eq_true]
  refine ⟨⟨⟨⟨⟨⟨by kernel_rfl, by kernel_rfl⟩, by kernel_rfl⟩, ?_⟩, by omega⟩, by omega⟩, fun j _ => lkB_V _⟩
  have gt : ∀ i : Nat, ([(0 : Int), 1, -1, 1].getD i 0).natAbs ≤ 1 := by
    intro i
    match i with
    | 0 => decide
    | 1 => decide
    | 2 => decide
    | 3 => decide
    | i + 4 => show (0 : Int).natAbs ≤ 1; decide
  have := gt (nx v 4).toNat
  exact smQ_mk (by omega) (by omega) (by omega)
end Go.Proofs.YtnenjkgffapplaaDoor.PE
namespace Go.Proofs.YtnenjkgffapplaaDoor.PE
open Go
set_option maxRecDepth 100000
variable {G : World → (Nat → Prop) → Prop} (hG : GOk G)
noncomputable def b106a : Code := (loopsOf (bodyC Tryd.f103)).getD 0 .skip
noncomputable def b106b : Code := (loopsOf (bodyC Tryd.f103)).getD 1 .skip
def pol106 : Pol := { live := [(3, [1, 4, 5, 12, 13, 14]), (8, [1, 4, 5, 26, 27, 28])] }
theorem enter106 : Enters Tryd.prog 103 Tryd.f103 (bodyC Tryd.f103) := ⟨Tryd.func103, by kernel_rfl, rfl⟩
def st106a (x : Rat) (w : Nat) (bl : List UInt8) (i : Nat) : LS := ⟨[.ptr 0 3 0 0 [], .i .i64 (bv (bl.take i) : Nat), .i .i64 0, .lst 1 (.ints .u8 (bl.map fun c => (c.toNat : Int))), .i .i64 (bl.length : Nat), .i .i64 (i : Nat)], [some ⟨3, .vals [.q x w]⟩]⟩
def st106b (x : Rat) (w : Nat) (a : Int) (bl : List UInt8) (i : Nat) : LS := ⟨[.ptr 0 3 0 0 [], .i .i64 a, .i .i64 (bv (bl.take i) : Nat), .lst 1 (.ints .u8 (bl.map fun c => (c.toNat : Int))), .i .i64 (bl.length : Nat), .i .i64 (i : Nat)], [some ⟨3, .vals [.q x w]⟩]⟩
theorem r106a (x : Rat) (w : Nat) (a b n i : Int) (l : List Int) : evRound Tryd.prog [] [] pol106 Tryd.f103.ntmps 0 [1, 4, 5, 12, 13, 14] b106a ⟨[.ptr 0 3 0 0 [], .i .i64 a, .i .i64 b, .lst 1 (.ints .u8 l), .i .i64 n, .i .i64 i], [some ⟨3, .vals [.q x w]⟩]⟩ =
  Tr.br (decide (i < n)) (.br (ix (i) ((↑l.length : Int))) (.br (ib ((256 : Int) * a)) (.br (ib ((256 : Int) * a + IntKind.i64.wrap (l.getD i.toNat (0 : Int)))) (.br (ib (i + (1 : Int))) (.ok (.out .normal (LS.mk [.ptr 0 3 0 0 [], .i .i64 ((256 : Int) * a + IntKind.i64.wrap (l.getD i.toNat (0 : Int))), .i .i64 b, .lst 1 (.ints .u8 l), .i .i64 n, .i .i64 (i + (1 : Int))] [some (.mk 3 (.vals [.q x w]))]))) (.no 7002)) (.no 6002)) (.no 6005)) (.no 5003)) (.ok (.out (.exit 0) (LS.mk [.ptr 0 3 0 0 [], .i .i64 a, .i .i64 b, .lst 1 (.ints .u8 l), .i .i64 n, .i .i64 i] [some (.mk 3 (.vals [.q x w]))]))) := by kernel_rfl
theorem r106b (x : Rat) (w : Nat) (a b n i : Int) (l : List Int) : evRound Tryd.prog [] [] pol106 Tryd.f103.ntmps 0 [1, 4, 5, 26, 27, 28] b106b ⟨[.ptr 0 3 0 0 [], .i .i64 a, .i .i64 b, .lst 1 (.ints .u8 l), .i .i64 n, .i .i64 i], [some ⟨3, .vals [.q x w]⟩]⟩ =
  Tr.br (decide (i < n)) (.br (ix (i) ((↑l.length : Int))) (.br (ib ((256 : Int) * b)) (.br (ib ((256 : Int) * b + IntKind.i64.wrap (l.getD i.toNat (0 : Int)))) (.br (ib (i + (1 : Int))) (.ok (.out .normal (LS.mk [.ptr 0 3 0 0 [], .i .i64 a, .i .i64 ((256 : Int) * b + IntKind.i64.wrap (l.getD i.toNat (0 : Int))), .lst 1 (.ints .u8 l), .i .i64 n, .i .i64 (i + (1 : Int))] [some (.mk 3 (.vals [.q x w]))]))) (.no 12002)) (.no 11002)) (.no 11005)) (.no 10003)) (.ok (.out (.exit 2) (LS.mk [.ptr 0 3 0 0 [], .i .i64 a, .i .i64 b, .lst 1 (.ints .u8 l), .i .i64 n, .i .i64 i] [some (.mk 3 (.vals [.q x w]))]))) := by kernel_rfl
def bI (l : List Int) : Int := (bv (l.map fun n => UInt8.ofNat n.toNat) : Nat)
theorem bI_map (bl : List UInt8) : bI (bl.map fun c => (c.toNat : Int)) = (bv bl : Nat) := by
  unfold bI
  rw [List.map_map]
  have : (List.map ((fun n : Int => UInt8.ofNat n.toNat) ∘ fun c : UInt8 => (c.toNat : Int)) bl) = bl := by
    rw [List.map_congr_left (g := id) (fun c _ => by simp), List.map_id]
  rw [this]
def F106 (l : List Int) (n i : Int) : Prop := ∃ bl : List UInt8, l = (bl.map fun c => (c.toNat : Int)) ∧ n = (bl.length : Nat) ∧ i = 0 ∧ bl.length ≤ 2
noncomputable def l106a : LSpec := fun ls K => match ls with
  | ⟨[.ptr 0 3 0 0 [], .i .i64 a, .i .i64 b, .lst 1 (.ints .u8 l), .i .i64 n, .i .i64 i], [some ⟨3, .vals [.q x w]⟩]⟩ => .br (decP (F106 l n i ∧ a = 0 ∧ b = 0)) (K (.exit 0) ⟨[.ptr 0 3 0 0 [], .i .i64 (bI l), .i .i64 b, .lst 1 (.ints .u8 l), .i .i64 n, .i .i64 n], [some ⟨3, .vals [.q x w]⟩]⟩) (.no 1)
  | _ => .no 1
noncomputable def l106b : LSpec := fun ls K => match ls with
  | ⟨[.ptr 0 3 0 0 [], .i .i64 a, .i .i64 b, .lst 1 (.ints .u8 l), .i .i64 n, .i .i64 i], [some ⟨3, .vals [.q x w]⟩]⟩ => .br (decP (F106 l n i ∧ b = 0)) (K (.exit 2) ⟨[.ptr 0 3 0 0 [], .i .i64 a, .i .i64 (bI l), .lst 1 (.ints .u8 l), .i .i64 n, .i .i64 n], [some ⟨3, .vals [.q x w]⟩]⟩) (.no 1)
  | _ => .no 1
theorem bv2_lt (bl : List UInt8) (i : Nat) (h : bl.length ≤ 2) : bv (bl.take i) < 65536 := by
  have h1 := bv_lt (bl.take i)
  have h2 : 256 ^ (bl.take i).length ≤ 256 ^ 2 := Nat.pow_le_pow_right (by omega) (by rw [List.length_take]; omega)
  omega
theorem bv_take_succ (bl : List UInt8) (i : Nat) (h : i < bl.length) : bv (bl.take (i + 1)) = bv (bl.take i) * 256 + (bl.getD i 0).toNat := by
  rw [List.take_add_one, List.getElem?_eq_getElem h, List.getD_eq_getElem?_getD, List.getElem?_eq_getElem h]
  exact bv_snoc _ _
theorem byte_get (bl : List UInt8) (i : Nat) (h : i < bl.length) : IntKind.i64.wrap ((bl.map fun c => (c.toNat : Int)).getD i 0) = ((bl.getD i 0).toNat : Int) := by
  rw [List.getD_eq_getElem?_getD, List.getD_eq_getElem?_getD, List.getElem?_map, List.getElem?_eq_getElem h]
  have := UInt8.toNat_lt (bl[i])
  show IntKind.i64.wrap ((bl[i].toNat : Nat) : Int) = ((bl[i].toNat : Nat) : Int)
  exact wi64 (by omega) (by omega)
include hG in
theorem loop106a : LoopOK Tryd.prog G Tryd.f103.ntmps 0 [1, 4, 5, 12, 13, 14] b106a l106a := by
  intro ls K y hm h
  unfold l106a at h
  split at h
  case h_2 => cases h
  rename_i a b l n i x w
  obtain ⟨hc, hr⟩ := Tr.of_br h
  obtain ⟨⟨bl, rfl, rfl, rfl, hl⟩, rfl, rfl⟩ := decP_iff.1 hc
  have hg := Goes.count (R := Rnd Tryd.prog G Tryd.f103.ntmps 0 [1, 4, 5, 12, 13, 14] b106a) (fun i => st106a x w bl i) (e := .exit 0) (ls' := st106a x w bl bl.length) (by simp) bl.length 0
    (fun i _ hi => round_ok hG .nil mix (L := []) (pol := pol106) (O := []) (LpsOK.none (by kernel_rfl)) (Nat.zero_le _) (by
      have hi' : i < bl.length := by omega
      have b1 := bv2_lt bl i hl
      have b2 := bv2_lt bl (i + 1) hl
      have b3 := bv_take_succ bl i hi'
      have b4 := byte_get bl i hi'
      unfold st106a
      rw [r106a, Int.toNat_natCast, b4, Tr.run_t (decide_eq_true (by omega)), Tr.run_t (by simp only [Bool.and_eq_true, decide_eq_true_eq, List.length_map]; omega), Tr.run_t (by simp only [Bool.and_eq_true, decide_eq_true_eq]; omega), Tr.run_t (by simp only [Bool.and_eq_true, decide_eq_true_eq]; omega), Tr.run_t (by simp only [Bool.and_eq_true, decide_eq_true_eq]; omega), Tr.run_ok]
      have e1 : 256 * ((bv (bl.take i) : Nat) : Int) + ((bl.getD i 0).toNat : Int) = ((bv (bl.take (i + 1)) : Nat) : Int) := by omega
      rw [e1]
      rfl))
    (by
      refine round_ok hG .nil mix (L := []) (pol := pol106) (O := []) (LpsOK.none (by kernel_rfl)) (Nat.zero_le _) ?_
      unfold st106a
      rw [Nat.zero_add, r106a, Tr.run_f (decide_eq_false (by omega)), Tr.run_ok])
  refine ⟨_, _, goes_ok hg, ?_⟩
  unfold st106a
  rw [List.take_length, ← bI_map]
  exact hr
include hG in
theorem loop106b : LoopOK Tryd.prog G Tryd.f103.ntmps 0 [1, 4, 5, 26, 27, 28] b106b l106b := by
  intro ls K y hm h
  unfold l106b at h
  split at h
  case h_2 => cases h
  rename_i a b l n i x w
  obtain ⟨hc, hr⟩ := Tr.of_br h
  obtain ⟨⟨bl, rfl, rfl, rfl, hl⟩, rfl⟩ := decP_iff.1 hc
  have hg := Goes.count (R := Rnd Tryd.prog G Tryd.f103.ntmps 0 [1, 4, 5, 26, 27, 28] b106b) (fun i => st106b x w a bl i) (e := .exit 2) (ls' := st106b x w a bl bl.length) (by simp) bl.length 0
    (fun i _ hi => round_ok hG .nil mix (L := []) (pol := pol106) (O := []) (LpsOK.none (by kernel_rfl)) (Nat.zero_le _) (by
      have hi' : i < bl.length := by omega
      have b1 := bv2_lt bl i hl
      have b2 := bv2_lt bl (i + 1) hl
      have b3 := bv_take_succ bl i hi'
      have b4 := byte_get bl i hi'
      unfold st106b
      rw [r106b, Int.toNat_natCast, b4, Tr.run_t (decide_eq_true (by omega)), Tr.run_t (by simp only [Bool.and_eq_true, decide_eq_true_eq, List.length_map]; omega), Tr.run_t (by simp only [Bool.and_eq_true, decide_eq_true_eq]; omega), Tr.run_t (by simp only [Bool.and_eq_true, decide_eq_true_eq]; omega), Tr.run_t (by simp only [Bool.and_eq_true, decide_eq_true_eq]; omega), Tr.run_ok]
      have e1 : 256 * ((bv (bl.take i) : Nat) : Int) + ((bl.getD i 0).toNat : Int) = ((bv (bl.take (i + 1)) : Nat) : Int) := by omega
      rw [e1]
      rfl))
    (by
      refine round_ok hG .nil mix (L := []) (pol := pol106) (O := []) (LpsOK.none (by kernel_rfl)) (Nat.zero_le _) ?_
      unfold st106b
      rw [Nat.zero_add, r106b, Tr.run_f (decide_eq_false (by omega)), Tr.run_ok])
  refine ⟨_, _, goes_ok hg, ?_⟩
  unfold st106b
  rw [List.take_length, ← bI_map]
  exact hr
theorem e106 (x : Rat) (w : Nat) : evF Tryd.prog [] [(3, l106a), (8, l106b)] pol106 Tryd.f103 [.q x w] [] retK =
  Tr.br (decP (F106 (List.map (fun (c : UInt8) => (↑c.toNat : Int)) (natBytesL x.num.natAbs x.num.natAbs []).toArray.toList) (↑(List.map (fun (c : UInt8) => (↑c.toNat : Int)) (natBytesL x.num.natAbs x.num.natAbs []).toArray.toList).length : Int) (0 : Int) ∧ (0 : Int) = (0 : Int) ∧ (0 : Int) = (0 : Int))) (.br (decP (F106 (List.map (fun (c : UInt8) => (↑c.toNat : Int)) (natBytesL x.den x.den []).toArray.toList) (↑(List.map (fun (c : UInt8) => (↑c.toNat : Int)) (natBytesL x.den x.den []).toArray.toList).length : Int) (0 : Int) ∧ (0 : Int) = (0 : Int))) (.br (rneg x) (.br (ib ((0 : Int) - bI (List.map (fun (c : UInt8) => (↑c.toNat : Int)) (natBytesL x.num.natAbs x.num.natAbs []).toArray.toList))) (.ok (.ret (.tup [.i .i64 ((0 : Int) - bI (List.map (fun (c : UInt8) => (↑c.toNat : Int)) (natBytesL x.num.natAbs x.num.natAbs []).toArray.toList)), .i .i64 (if (1 : Int) > bI (List.map (fun (c : UInt8) => (↑c.toNat : Int)) (natBytesL x.den x.den []).toArray.toList) then (1 : Int) else bI (List.map (fun (c : UInt8) => (↑c.toNat : Int)) (natBytesL x.den x.den []).toArray.toList))]) [])) (.no 14002)) (.ok (.ret (.tup [.i .i64 (bI (List.map (fun (c : UInt8) => (↑c.toNat : Int)) (natBytesL x.num.natAbs x.num.natAbs []).toArray.toList)), .i .i64 (if (1 : Int) > bI (List.map (fun (c : UInt8) => (↑c.toNat : Int)) (natBytesL x.den x.den []).toArray.toList) then (1 : Int) else bI (List.map (fun (c : UInt8) => (↑c.toNat : Int)) (natBytesL x.den x.den []).toArray.toList))]) []))) (.no 1)) (.no 1) := by kernel_rfl
def smX (x : Rat) : Bool := decide (x.num.natAbs < 1000) && decide (x.den < 1000)
def s106 : Spec := fun args hs K => match args, hs with
  | [.q x _], [] => .br (smX x) (K (.tup [.i .i64 x.num, .i .i64 x.den]) []) (.no 1)
  | _, _ => .no 1


theorem bI_nbl (n : Nat) : bI (List.map (fun (c : UInt8) => (c.toNat : Int)) (natBytesL n n []).toArray.toList) = (n : Int) := by
  rw [show (natBytesL n n []).toArray.toList = nbl n from rfl, bI_map, bv_nbl]
theorem F106_nbl {n : Nat} (h : n < 65536) : F106 (List.map (fun (c : UInt8) => (c.toNat : Int)) (natBytesL n n []).toArray.toList) ((List.map (fun (c : UInt8) => (c.toNat : Int)) (natBytesL n n []).toArray.toList).length : Nat) 0 := by
  rw [show (natBytesL n n []).toArray.toList = nbl n from rfl]
  exact ⟨nbl n, rfl, by rw [List.length_map], rfl, nbl_length_le (k := 2) (by omega)⟩
include hG in
theorem ok106 : SpecOK Tryd.prog G 103 s106 := by
  refine spec_of hG .nil mix enter106 (L := [(3, l106a), (8, l106b)]) (pol := pol106) fun args hs K x h => ?_
  unfold s106 at h
  split at h
  case h_2 => cases h
  rename_i x w
  obtain ⟨hc, hr⟩ := Tr.of_br h
  simp only [smX, Bool.and_eq_true, decide_eq_true_eq] at hc
  refine ⟨lps2 (b1 := b106a) (live1 := [1, 4, 5, 12, 13, 14]) (sp1 := l106a) (b2 := b106b) (live2 := [1, 4, 5, 26, 27, 28]) (sp2 := l106b) (m := 0) (by kernel_rfl) (by kernel_rfl) (by kernel_rfl) (by kernel_rfl) (by kernel_rfl) (loop106a hG) (loop106b hG), ?_⟩
  have hd := x.den_pos
  rw [e106, bI_nbl, bI_nbl, Tr.run_t (decP_iff.2 ⟨F106_nbl (by omega), rfl, rfl⟩), Tr.run_t (decP_iff.2 ⟨F106_nbl (by omega), rfl⟩)]
  have e2 : (if (1 : Int) > (x.den : Int) then (1 : Int) else (x.den : Int)) = (x.den : Int) := if_neg (by omega)
  rw [e2]
  cases hn : rneg x with
  | true =>
    have hneg : x.num < 0 := of_decide_eq_true hn
    rw [Tr.run_t rfl, Tr.run_t (by simp only [Bool.and_eq_true, decide_eq_true_eq]; omega), Tr.run_ok, show (0 : Int) - (x.num.natAbs : Int) = x.num by omega]
    exact ⟨_, _, _, rfl, .refl _, hr⟩
  | false =>
    have hneg : ¬ x.num < 0 := of_decide_eq_false hn
    rw [Tr.run_f rfl, Tr.run_ok, show (x.num.natAbs : Int) = x.num by omega]
    exact ⟨_, _, _, rfl, .refl _, hr⟩
end Go.Proofs.YtnenjkgffapplaaDoor.PE
namespace Go.Proofs.YtnenjkgffapplaaDoor.PE
open Go
set_option maxRecDepth 100000
variable {G : World → (Nat → Prop) → Prop} (hG : GOk G)
noncomputable def b69 : Code := (loopsOf (bodyC Tryd.f61)).getD 0 .skip
def pol69 : Pol := { live := [(3, [1, 5, 14, 15, 16])], wr := [(60, [0])] }
theorem enter69 : Enters Tryd.prog 61 Tryd.f61 (bodyC Tryd.f61) := ⟨Tryd.func61, by kernel_rfl, rfl⟩
def O69 : Orc := [(60, s45), (75, s81), (103, s106)]
def n69 (v : PV) (n : Nat) (lk : Nat → Lk) (i : Int) : LS := ⟨[.ptr 0 1 0 0 [], .nil, .lst 16 (.fn n (fun j => lkPV (lk j))), .i .i64 n, .i .i64 i], [some ⟨1, .vals [.agg [.w v]]⟩]⟩
def x69 (v : PV) (n : Nat) (lk : Nat → Lk) (xs : List Rat) (i : Int) : LS := ⟨[.ptr 0 1 0 0 [], .sl 1 3 0 xs.length, .lst 16 (.fn n (fun j => lkPV (lk j))), .i .i64 n, .i .i64 i], [some ⟨1, .vals [.agg [.w v]]⟩, some ⟨3, .rats 64 xs⟩]⟩
theorem r69n (v : PV) (n : Nat) (lk : Nat → Lk) (i : Int) : evRound Tryd.prog O69 [] pol69 Tryd.f61.ntmps 1 [1, 5, 14, 15, 16] b69 (n69 v n lk i) =
  Tr.br (decide (i < (↑n : Int))) (.br (ix (i) ((↑n : Int))) (.br (smX (lk i.toNat).low) (.br (smX (lk i.toNat).high) (.br (okW v && decide ((0 : Int) < (9 : Int)) && decide ((9 : Int) ≤ (4294967296 : Int))) (.br (ib ((8 : Int) * (lk i.toNat).low.num)) (.br (ib ((8 : Int) * (lk i.toNat).low.num * (↑(lk i.toNat).high.den : Int))) (.br (ib ((lk i.toNat).high.num * (↑(lk i.toNat).low.den : Int))) (.br (ib ((lk i.toNat).low.num * (↑(lk i.toNat).high.den : Int))) (.br (ib ((lk i.toNat).high.num * (↑(lk i.toNat).low.den : Int) - (lk i.toNat).low.num * (↑(lk i.toNat).high.den : Int))) (.br (ib (((lk i.toNat).high.num * (↑(lk i.toNat).low.den : Int) - (lk i.toNat).low.num * (↑(lk i.toNat).high.den : Int)) * nx v (9 : Int))) (.br (ib ((8 : Int) * (lk i.toNat).low.num * (↑(lk i.toNat).high.den : Int) + ((lk i.toNat).high.num * (↑(lk i.toNat).low.den : Int) - (lk i.toNat).low.num * (↑(lk i.toNat).high.den : Int)) * nx v (9 : Int))) (.br (ib ((8 : Int) * (↑(lk i.toNat).low.den : Int))) (.br (ib ((8 : Int) * (↑(lk i.toNat).low.den : Int) * (↑(lk i.toNat).high.den : Int))) (.br (decide ((0 : Int) < (8 : Int) * (↑(lk i.toNat).low.den : Int) * (↑(lk i.toNat).high.den : Int)) && decide ((8 : Int) * (↑(lk i.toNat).low.den : Int) * (↑(lk i.toNat).high.den : Int) < (4611686018427387904 : Int)) && decide ((-4611686018427387904 : Int) < (8 : Int) * (lk i.toNat).low.num * (↑(lk i.toNat).high.den : Int) + ((lk i.toNat).high.num * (↑(lk i.toNat).low.den : Int) - (lk i.toNat).low.num * (↑(lk i.toNat).high.den : Int)) * nx v (9 : Int)) && decide ((8 : Int) * (lk i.toNat).low.num * (↑(lk i.toNat).high.den : Int) + ((lk i.toNat).high.num * (↑(lk i.toNat).low.den : Int) - (lk i.toNat).low.num * (↑(lk i.toNat).high.den : Int)) * nx v (9 : Int) < (4611686018427387904 : Int))) (.br (Nat.blt (0 : Nat) [mkRat ((8 : Int) * (lk i.toNat).low.num * (↑(lk i.toNat).high.den : Int) + ((lk i.toNat).high.num * (↑(lk i.toNat).low.den : Int) - (lk i.toNat).low.num * (↑(lk i.toNat).high.den : Int)) * nx v (9 : Int)) ((8 : Int) * (↑(lk i.toNat).low.den : Int) * (↑(lk i.toNat).high.den : Int)).toNat].length && [mkRat ((8 : Int) * (lk i.toNat).low.num * (↑(lk i.toNat).high.den : Int) + ((lk i.toNat).high.num * (↑(lk i.toNat).low.den : Int) - (lk i.toNat).low.num * (↑(lk i.toNat).high.den : Int)) * nx v (9 : Int)) ((8 : Int) * (↑(lk i.toNat).low.den : Int) * (↑(lk i.toNat).high.den : Int)).toNat].length.ble 4294967296) (.br (ib (i + (1 : Int))) (.ok (.out .normal { t := [.ptr 0 1 0 0 [], .sl 1 3 0 1, .lst 16 (.fn n fun (j : Nat) => .agg [.q (lk j).len 64, .q (lk j).low 64, .q (lk j).high 64, .q (lk j).spd 64, .q (lk j).brk 64, .lst 6 (.fn (lk j).np fun (a : Nat) => .agg [.q ((lk j).px a) 64, .q ((lk j).py a) 64])]), .i .i64 (↑n : Int), .i .i64 (i + (1 : Int))], h := [some { e := 1, c := Cont.vals [.agg [(rs v).w]] }, some { e := 3, c := Cont.rats 64 [mkRat ((8 : Int) * (lk i.toNat).low.num * (↑(lk i.toNat).high.den : Int) + ((lk i.toNat).high.num * (↑(lk i.toNat).low.den : Int) - (lk i.toNat).low.num * (↑(lk i.toNat).high.den : Int)) * nx v (9 : Int)) ((8 : Int) * (↑(lk i.toNat).low.den : Int) * (↑(lk i.toNat).high.den : Int)).toNat] }] })) (.no 10002)) (.no 9002)) (.no 1)) (.no 9005)) (.no 9007)) (.no 9009)) (.no 9010)) (.no 9012)) (.no 9013)) (.no 9016)) (.no 9019)) (.no 9021)) (.no 1)) (.no 1)) (.no 1)) (.no 5004)) (.ok (.out (.exit 0) { t := [.ptr 0 1 0 0 [], .nil, .lst 16 (.fn n fun (j : Nat) => .agg [.q (lk j).len 64, .q (lk j).low 64, .q (lk j).high 64, .q (lk j).spd 64, .q (lk j).brk 64, .lst 6 (.fn (lk j).np fun (a : Nat) => .agg [.q ((lk j).px a) 64, .q ((lk j).py a) 64])]), .i .i64 (↑n : Int), .i .i64 i], h := [some { e := 1, c := Cont.vals [.agg [v.w]] }] })) := by kernel_rfl
theorem r69 (v : PV) (n : Nat) (lk : Nat → Lk) (xs : List Rat) (i : Int) : evRound Tryd.prog O69 [] pol69 Tryd.f61.ntmps 1 [1, 5, 14, 15, 16] b69 (x69 v n lk xs i) =
  Tr.br (decide (i < (↑n : Int))) (.br (ix (i) ((↑n : Int))) (.br (smX (lk i.toNat).low) (.br (smX (lk i.toNat).high) (.br (okW v && decide ((0 : Int) < (9 : Int)) && decide ((9 : Int) ≤ (4294967296 : Int))) (.br (ib ((8 : Int) * (lk i.toNat).low.num)) (.br (ib ((8 : Int) * (lk i.toNat).low.num * (↑(lk i.toNat).high.den : Int))) (.br (ib ((lk i.toNat).high.num * (↑(lk i.toNat).low.den : Int))) (.br (ib ((lk i.toNat).low.num * (↑(lk i.toNat).high.den : Int))) (.br (ib ((lk i.toNat).high.num * (↑(lk i.toNat).low.den : Int) - (lk i.toNat).low.num * (↑(lk i.toNat).high.den : Int))) (.br (ib (((lk i.toNat).high.num * (↑(lk i.toNat).low.den : Int) - (lk i.toNat).low.num * (↑(lk i.toNat).high.den : Int)) * nx v (9 : Int))) (.br (ib ((8 : Int) * (lk i.toNat).low.num * (↑(lk i.toNat).high.den : Int) + ((lk i.toNat).high.num * (↑(lk i.toNat).low.den : Int) - (lk i.toNat).low.num * (↑(lk i.toNat).high.den : Int)) * nx v (9 : Int))) (.br (ib ((8 : Int) * (↑(lk i.toNat).low.den : Int))) (.br (ib ((8 : Int) * (↑(lk i.toNat).low.den : Int) * (↑(lk i.toNat).high.den : Int))) (.br (decide ((0 : Int) < (8 : Int) * (↑(lk i.toNat).low.den : Int) * (↑(lk i.toNat).high.den : Int)) && decide ((8 : Int) * (↑(lk i.toNat).low.den : Int) * (↑(lk i.toNat).high.den : Int) < (4611686018427387904 : Int)) && decide ((-4611686018427387904 : Int) < (8 : Int) * (lk i.toNat).low.num * (↑(lk i.toNat).high.den : Int) + ((lk i.toNat).high.num * (↑(lk i.toNat).low.den : Int) - (lk i.toNat).low.num * (↑(lk i.toNat).high.den : Int)) * nx v (9 : Int)) && decide ((8 : Int) * (lk i.toNat).low.num * (↑(lk i.toNat).high.den : Int) + ((lk i.toNat).high.num * (↑(lk i.toNat).low.den : Int) - (lk i.toNat).low.num * (↑(lk i.toNat).high.den : Int)) * nx v (9 : Int) < (4611686018427387904 : Int))) (.br (xs.length.ble xs.length && (xs.length + [mkRat ((8 : Int) * (lk i.toNat).low.num * (↑(lk i.toNat).high.den : Int) + ((lk i.toNat).high.num * (↑(lk i.toNat).low.den : Int) - (lk i.toNat).low.num * (↑(lk i.toNat).high.den : Int)) * nx v (9 : Int)) ((8 : Int) * (↑(lk i.toNat).low.den : Int) * (↑(lk i.toNat).high.den : Int)).toNat].length).ble 4294967296) (.br (ib (i + (1 : Int))) (.ok (.out .normal { t := [.ptr 0 1 0 0 [], .sl 1 3 0 (xs.length + [mkRat ((8 : Int) * (lk i.toNat).low.num * (↑(lk i.toNat).high.den : Int) + ((lk i.toNat).high.num * (↑(lk i.toNat).low.den : Int) - (lk i.toNat).low.num * (↑(lk i.toNat).high.den : Int)) * nx v (9 : Int)) ((8 : Int) * (↑(lk i.toNat).low.den : Int) * (↑(lk i.toNat).high.den : Int)).toNat].length), .lst 16 (.fn n fun (j : Nat) => .agg [.q (lk j).len 64, .q (lk j).low 64, .q (lk j).high 64, .q (lk j).spd 64, .q (lk j).brk 64, .lst 6 (.fn (lk j).np fun (a : Nat) => .agg [.q ((lk j).px a) 64, .q ((lk j).py a) 64])]), .i .i64 (↑n : Int), .i .i64 (i + (1 : Int))], h := [some { e := 1, c := Cont.vals [.agg [(rs v).w]] }, some { e := 3, c := Cont.rats 64 (List.take xs.length (List.drop (0 : Nat) xs) ++ [mkRat ((8 : Int) * (lk i.toNat).low.num * (↑(lk i.toNat).high.den : Int) + ((lk i.toNat).high.num * (↑(lk i.toNat).low.den : Int) - (lk i.toNat).low.num * (↑(lk i.toNat).high.den : Int)) * nx v (9 : Int)) ((8 : Int) * (↑(lk i.toNat).low.den : Int) * (↑(lk i.toNat).high.den : Int)).toNat]) }] })) (.no 10002)) (.no 9002)) (.no 1)) (.no 9005)) (.no 9007)) (.no 9009)) (.no 9010)) (.no 9012)) (.no 9013)) (.no 9016)) (.no 9019)) (.no 9021)) (.no 1)) (.no 1)) (.no 1)) (.no 5004)) (.ok (.out (.exit 0) { t := [.ptr 0 1 0 0 [], .sl 1 3 0 xs.length, .lst 16 (.fn n fun (j : Nat) => .agg [.q (lk j).len 64, .q (lk j).low 64, .q (lk j).high 64, .q (lk j).spd 64, .q (lk j).brk 64, .lst 6 (.fn (lk j).np fun (a : Nat) => .agg [.q ((lk j).px a) 64, .q ((lk j).py a) 64])]), .i .i64 (↑n : Int), .i .i64 i], h := [some { e := 1, c := Cont.vals [.agg [v.w]] }, some { e := 3, c := Cont.rats 64 xs }] })) := by kernel_rfl

def itRs : Nat → PV → PV
  | 0, v => v
  | k + 1, v => rs (itRs k v)
theorem okW_itRs {v : PV} (h : okW v = true) : ∀ k, okW (itRs k v) = true
  | 0 => h
  | k + 1 => okW_rs (okW_itRs h k)
def cf0 (l h : Rat) (k : Int) : Rat := mkRat ((8 : Int) * l.num * (h.den : Int) + (h.num * (l.den : Int) - l.num * (h.den : Int)) * k) ((8 : Int) * (l.den : Int) * (h.den : Int)).toNat
def cf1 (lk : Nat → Lk) (v : PV) (j : Nat) : Rat := cf0 (lk j).low (lk j).high (nx (itRs j v) 9)
def cfL (lk : Nat → Lk) (v : PV) (n : Nat) : List Rat := (List.range n).map (cf1 lk v)
theorem cfL_succ (lk : Nat → Lk) (v : PV) (n : Nat) : cfL lk v (n + 1) = cfL lk v n ++ [cf1 lk v n] := by simp [cfL, List.range_succ]
theorem cfL_len (lk : Nat → Lk) (v : PV) (n : Nat) : (cfL lk v n).length = n := by simp [cfL]
theorem nabs_mul {a b : Int} {A B : Nat} (ha : a.natAbs ≤ A) (hb : b.natAbs ≤ B) : (a * b).natAbs ≤ A * B := by
  rw [Int.natAbs_mul]; exact Nat.mul_le_mul ha hb
theorem smX_iff {x : Rat} : smX x = true ↔ x.num.natAbs < 1000 ∧ x.den < 1000 := by simp [smX]
def st69 (v : PV) (n : Nat) (lk : Nat → Lk) (xs : List Rat) (i : Int) : LS := match xs with
  | [] => n69 v n lk i
  | xs => x69 v n lk xs i
theorem st69_x {v : PV} {n : Nat} {lk : Nat → Lk} {xs : List Rat} {i : Int} (h : xs ≠ []) : st69 v n lk xs i = x69 v n lk xs i := by
  cases xs with
  | nil => exact absurd rfl h
  | cons x xs => rfl
include hG in
theorem orc69 : OrcOK Tryd.prog G O69 := .cons (ok45 hG) (.cons (ok81 hG) (.cons (ok106 hG) .nil))
theorem step69 (v : PV) (hw : okW v = true) (n : Nat) (lk : Nat → Lk) (xs : List Rat) (j : Nat) (hn : n ≤ 3) (hj : j < n) (hx : xs.length ≤ 1000) (h1 : smX (lk j).low = true) (h2 : smX (lk j).high = true) :
    (evRound Tryd.prog O69 [] pol69 Tryd.f61.ntmps 1 [1, 5, 14, 15, 16] b69 (st69 v n lk xs ((j : Nat) : Int))).run = some (.out .normal (st69 (rs v) n lk (xs ++ [cf0 (lk j).low (lk j).high (nx v 9)]) ((j + 1 : Nat) : Int))) := by
  obtain ⟨a1, a2⟩ := smX_iff.1 h1
  obtain ⟨a3, a4⟩ := smX_iff.1 h2
  have d1 := (lk j).low.den_pos
  have d2 := (lk j).high.den_pos
  have g := nx_range v (show (0 : Int) < 9 by omega)
  have b1 : ((8 : Int) * (lk j).low.num * ((lk j).high.den : Int)).natAbs ≤ 8 * 1000 * 1000 := nabs_mul (nabs_mul (by omega) (by omega)) (by omega)
  have b2 : ((lk j).high.num * ((lk j).low.den : Int)).natAbs ≤ 1000 * 1000 := nabs_mul (by omega) (by omega)
  have b3 : ((lk j).low.num * ((lk j).high.den : Int)).natAbs ≤ 1000 * 1000 := nabs_mul (by omega) (by omega)
  have b4 : (((lk j).high.num * ((lk j).low.den : Int) - (lk j).low.num * ((lk j).high.den : Int)) * nx v 9).natAbs ≤ 2000000 * 9 := nabs_mul (by omega) (by omega)
  have b5 : ((8 : Int) * ((lk j).low.den : Int) * ((lk j).high.den : Int)).natAbs ≤ 8 * 1000 * 1000 := nabs_mul (nabs_mul (by omega) (by omega)) (by omega)
  have b6 : 0 < (8 : Int) * ((lk j).low.den : Int) * ((lk j).high.den : Int) := Int.mul_pos (by omega) (by omega)
  rw [st69_x (xs := xs ++ [cf0 (lk j).low (lk j).high (nx v 9)]) (by simp)]
  cases xs with
  | nil =>
    show (evRound Tryd.prog O69 [] pol69 Tryd.f61.ntmps 1 [1, 5, 14, 15, 16] b69 (n69 v n lk ((j : Nat) : Int))).run = _
    rw [r69n, Int.toNat_natCast, Tr.run_t (decide_eq_true (by omega)), Tr.run_t (by simp only [Bool.and_eq_true, decide_eq_true_eq]; omega), Tr.run_t h1, Tr.run_t h2, Tr.run_t (by rw [hw]; decide)]
    repeat rw [Tr.run_t (by simp only [Bool.and_eq_true, decide_eq_true_eq, Nat.blt_eq, Nat.ble_eq, List.length_cons, List.length_nil]; omega)]
    rw [Tr.run_ok]
    rfl
  | cons y ys =>
    show (evRound Tryd.prog O69 [] pol69 Tryd.f61.ntmps 1 [1, 5, 14, 15, 16] b69 (x69 v n lk (y :: ys) ((j : Nat) : Int))).run = _
    rw [r69, Int.toNat_natCast, Tr.run_t (decide_eq_true (by omega)), Tr.run_t (by simp only [Bool.and_eq_true, decide_eq_true_eq]; omega), Tr.run_t h1, Tr.run_t h2, Tr.run_t (by rw [hw]; decide)]
    simp only [List.length_cons] at hx
    repeat rw [Tr.run_t (by simp only [Bool.and_eq_true, decide_eq_true_eq, Nat.blt_eq, Nat.ble_eq, List.length_cons, List.length_nil]; omega)]
    rw [Tr.run_ok, List.drop_zero, List.take_length]
    have hlen : ((y :: ys) ++ [cf0 (lk j).low (lk j).high (nx v 9)]).length = (y :: ys).length + 1 := by simp
    unfold x69
    rw [hlen]
    rfl
def Pl69 (v : PV) (n : Nat) (f : Nat → PV) (m i : Int) : Prop := ∃ lk : Nat → Lk, f = (fun j => lkPV (lk j)) ∧ m = n ∧ i = 0 ∧ 1 ≤ n ∧ n ≤ 3 ∧ okW v = true ∧ ∀ j, j < n → smX (lk j).low = true ∧ smX (lk j).high = true
def cfF (f : Nat → PV) (v : PV) (n : Nat) : List Rat := cfL (fun j => dLk (f j)) v n
noncomputable def l69 : LSpec := fun ls K => match ls with
  | ⟨[.ptr 0 1 0 0 [], .nil, .lst 16 (.fn n f), .i .i64 m, .i .i64 i], [some ⟨1, .vals [.agg [.w v]]⟩]⟩ => .br (decP (Pl69 v n f m i)) (K (.exit 0) ⟨[.ptr 0 1 0 0 [], .sl 1 3 0 (cfF f v n).length, .lst 16 (.fn n f), .i .i64 m, .i .i64 m], [some ⟨1, .vals [.agg [.w (itRs n v)]]⟩, some ⟨3, .rats 64 (cfF f v n)⟩]⟩) (.no 1)
  | _ => .no 1
include hG in
theorem loop69 : LoopOK Tryd.prog G Tryd.f61.ntmps 1 [1, 5, 14, 15, 16] b69 l69 := by
  intro ls K y hm h
  unfold l69 at h
  split at h
  case h_2 => cases h
  rename_i n f m i v
  obtain ⟨hc, hr⟩ := Tr.of_br h
  obtain ⟨lk, rfl, rfl, rfl, hn1, hn, hw, hp⟩ := decP_iff.1 hc
  have hg := Goes.count (R := Rnd Tryd.prog G Tryd.f61.ntmps 1 [1, 5, 14, 15, 16] b69) (fun i => st69 (itRs i v) n lk (cfL lk v i) ((i : Nat) : Int)) (e := .exit 0) (ls' := st69 (itRs n v) n lk (cfL lk v n) n) (by simp) n 0
    (fun i _ hi => round_ok hG (orc69 hG) mix (L := []) (pol := pol69) (O := O69) (LpsOK.none (by kernel_rfl)) (by cases cfL lk v i <;> simp [st69, n69, x69]) (by
      rw [cfL_succ]
      exact step69 (itRs i v) (okW_itRs hw i) n lk _ i hn (by omega) (by rw [cfL_len]; omega) (hp i (by omega)).1 (hp i (by omega)).2))
    (by
      refine round_ok hG (orc69 hG) mix (L := []) (pol := pol69) (O := O69) (LpsOK.none (by kernel_rfl)) (by cases cfL lk v (0 + n) <;> simp [st69, n69, x69]) ?_
      rw [Nat.zero_add]
      cases hc : cfL lk v n with
      | nil =>
        show (evRound Tryd.prog O69 [] pol69 Tryd.f61.ntmps 1 [1, 5, 14, 15, 16] b69 (n69 (itRs n v) n lk ((n : Nat) : Int))).run = _
        rw [r69n, Tr.run_f (decide_eq_false (by omega)), Tr.run_ok]; rfl
      | cons y ys =>
        show (evRound Tryd.prog O69 [] pol69 Tryd.f61.ntmps 1 [1, 5, 14, 15, 16] b69 (x69 (itRs n v) n lk (y :: ys) ((n : Nat) : Int))).run = _
        rw [r69, Tr.run_f (decide_eq_false (by omega)), Tr.run_ok]; rfl)
  refine ⟨_, _, goes_ok hg, ?_⟩
  rw [st69_x (by intro h0; have := cfL_len lk v n; rw [h0] at this; simp at this; omega)]
  exact hr
theorem e69 (A : Am) (v : PV) : evF Tryd.prog O69 [(3, l69)] pol69 Tryd.f61 [armPV A, .ptr 0 1 0 0 []] [⟨1, .vals [.agg [.w v]]⟩] retK =
  Tr.br (decP (Pl69 v A.n (fun (j : Nat) => lkPV (A.lk j)) (↑A.n : Int) (0 : Int))) (.br ((cfF (fun (j : Nat) => lkPV (A.lk j)) v A.n).length.ble (cfF (fun (j : Nat) => lkPV (A.lk j)) v A.n).length) (.ok (.ret (.fr 3 (.rats 64 (List.take (cfF (fun (j : Nat) => lkPV (A.lk j)) v A.n).length (List.drop (0 : Nat) (cfF (fun (j : Nat) => lkPV (A.lk j)) v A.n))))) [{ e := 1, c := Cont.vals [.agg [(itRs A.n v).w]] }])) (.no 15)) (.no 1) := by kernel_rfl
def limX (A : Am) : Bool := (List.range A.n).all fun j => smX (A.lk j).low && smX (A.lk j).high
def P69 (arm v : PV) : Prop := okA arm ∧ limX (dArm arm) = true ∧ okW v = true
noncomputable def s69 : Spec := fun args hs K => match args, hs with
  | [.agg [.s nm, .agg [.agg [.q bx w1, .q by_ w2], .agg [hf, .q t w3]], .lst 16 c], .ptr 0 1 0 0 []], [⟨1, .vals [.agg [.w v]]⟩] =>
    .br (decP (P69 (.agg [.s nm, .agg [.agg [.q bx w1, .q by_ w2], .agg [hf, .q t w3]], .lst 16 c]) v)) (K (.fr 3 (.rats 64 (cfF c.get v c.len))) [⟨1, .vals [.agg [.w (itRs c.len v)]]⟩]) (.no 1)
  | _, _ => .no 1
include hG in
theorem ok69 : SpecOK Tryd.prog G 61 s69 := by
  intro args hs K x h
  unfold s69 at h
  split at h
  case h_2 => cases h
  rename_i nm bx w1 by_ w2 hf t w3 c v
  obtain ⟨hc, hr⟩ := Tr.of_br h
  obtain ⟨⟨hv, hA⟩, hx, hw⟩ := decP_iff.1 hc
  generalize hA' : dArm (.agg [.s nm, .agg [.agg [.q bx w1, .q by_ w2], .agg [hf, .q t w3]], .lst 16 c]) = A at *
  have ek : cfF c.get v c.len = cfF (fun j => lkPV (A.lk j)) v A.n := by rw [← hA']; rfl
  have en : c.len = A.n := by rw [← hA']; rfl
  obtain ⟨h1, h2, h3, h4, h5, h6, h7⟩ := armB_c hA
  have hlim : ∀ j, j < A.n → smX (A.lk j).low = true ∧ smX (A.lk j).high = true := by
    intro j hj
    have := List.all_eq_true.1 hx j (List.mem_range.2 hj)
    rwa [Bool.and_eq_true] at this
  rw [ek, en] at hr
  refine ⟨_, _, PC.args (.cons hv (.refl _)) (evF_pc hG (orc69 hG) mix enter69 (L := [(3, l69)]) (pol := pol69) (O := O69) (lps1 (b := b69) (live := [1, 5, 14, 15, 16]) (sp := l69) (m := 1) (by kernel_rfl) (by kernel_rfl) (by kernel_rfl) (loop69 hG)) ?_), hr⟩
  rw [e69, Tr.run_t (decP_iff.2 ⟨A.lk, rfl, rfl, rfl, h5, h6, hw, hlim⟩), Tr.run_t (by rw [Nat.ble_eq]; omega), Tr.run_ok, List.drop_zero, List.take_length]
def pol33 : Pol := { wr := [(61, [1])], own := [9] }
theorem enter33 : Enters Tryd.prog 30 Tryd.f30 (bodyC Tryd.f30) := ⟨Tryd.func30, by kernel_rfl, rfl⟩
noncomputable def s33 : Spec := fun args hs K => match args, hs with
  | [.agg [.s nm, .agg [.agg [.q bx w1, .q by_ w2], .agg [.bl hf, .q t w3]], .lst 16 c], .w v], [] =>
    .br (decP (P69 (.agg [.s nm, .agg [.agg [.q bx w1, .q by_ w2], .agg [.bl hf, .q t w3]], .lst 16 c]) v)) (K (.fr 3 (.rats 64 (cfF c.get v c.len))) []) (.no 1)
  | _, _ => .no 1
theorem e33 (nm : ByteArray) (bx by_ t : Rat) (w1 w2 w3 : Nat) (hf : Bool) (c : Cont) (v : PV) : evF Tryd.prog [(61, s69)] [] pol33 Tryd.f30 [.agg [.s nm, .agg [.agg [.q bx w1, .q by_ w2], .agg [.bl hf, .q t w3]], .lst 16 c], .w v] [] retK =
  Tr.br (decP (P69 (.agg [.s nm, .agg [.agg [.q bx w1, .q by_ w2], .agg [.bl hf, .q t w3]], .lst 16 c]) v)) (.br ((cfF c.get v (match c with | Cont.ints k xs => xs.length | Cont.rats n xs => xs.length | Cont.vals vs => vs.length | Cont.fn n f => n)).length.ble (cfF c.get v (match c with | Cont.ints k xs => xs.length | Cont.rats n xs => xs.length | Cont.vals vs => vs.length | Cont.fn n f => n)).length) (.ok (.ret (.fr 3 (.rats 64 (List.take (Cont.rats (64 : Nat) (cfF c.get v c.len)).len (List.drop (0 : Nat) (cfF c.get v c.len))))) [])) (.no 15)) (.no 1) := by kernel_rfl
include hG in
theorem ok33 : SpecOK Tryd.prog G 30 s33 := by
  refine spec_of hG (.cons (ok69 hG) .nil) mix enter33 (L := []) (pol := pol33) fun args hs K x h => ?_
  unfold s33 at h
  split at h
  case h_2 => cases h
  rename_i nm bx w1 by_ w2 hf t w3 c v
  obtain ⟨hc, hr⟩ := Tr.of_br h
  refine ⟨LpsOK.none (by kernel_rfl), _, _, _, ?_, .refl _, hr⟩
  rw [e33, Tr.run_t hc, Tr.run_t (by rw [Nat.ble_eq]; exact Nat.le_refl _), Tr.run_ok, List.drop_zero]
  show some (Res.ret (.fr 3 (.rats 64 (List.take (cfF c.get v c.len).length (cfF c.get v c.len)))) []) = _
  rw [List.take_length]
end Go.Proofs.YtnenjkgffapplaaDoor.PE
namespace Go.Proofs.YtnenjkgffapplaaDoor.PE
open Go
set_option maxRecDepth 100000
variable {G : World → (Nat → Prop) → Prop} (hG : GOk G)
theorem enter84 : Enters Tryd.prog 33 Tryd.f33 (bodyC Tryd.f33) := ⟨Tryd.func33, by kernel_rfl, rfl⟩
noncomputable def s84 : Spec := evF Tryd.prog [(28, s23)] [] {} Tryd.f33
include hG in
theorem ok84 : SpecOK Tryd.prog G 33 s84 := spec_ev hG (.cons (ok23 hG) .nil) mix enter84 (fun _ => LpsOK.none (by kernel_rfl))
end Go.Proofs.YtnenjkgffapplaaDoor.PE
namespace Go.Proofs.YtnenjkgffapplaaDoor.PE
open Go
set_option maxRecDepth 100000
variable {G : World → (Nat → Prop) → Prop} (hG : GOk G)
noncomputable def b32 : Code := (loopsOf (bodyC Tryd.f27)).getD 0 .skip
def pol32 : Pol := { live := [(3, [2, 3, 11, 12, 13])] }
noncomputable def O32 : Orc := [(28, s23), (33, s84)]
theorem enter32 : Enters Tryd.prog 27 Tryd.f27 (bodyC Tryd.f27) := ⟨Tryd.func27, by kernel_rfl, rfl⟩
noncomputable def l32 : LSpec := unr Tryd.prog O32 [] pol32 Tryd.f27.ntmps 0 [2, 3, 11, 12, 13] b32 3
theorem e32 (x : Unit) : evF Tryd.prog O32 [(3, l32)] pol32 Tryd.f27 [.lst 1 (.ints .i64 [3, 2])] [] retK =
  Tr.br (decide ((0 : Int) < (1 : Int)) && decide ((1 : Int) < (4611686018427387904 : Int)) && decide ((-4611686018427387904 : Int) < (0 : Int)) && decide ((0 : Int) < (4611686018427387904 : Int))) (.br (decide ((0 : Int) < (1 : Int)) && decide ((1 : Int) < (4611686018427387904 : Int)) && decide ((-4611686018427387904 : Int) < (0 : Int)) && decide ((0 : Int) < (4611686018427387904 : Int))) (.br (decide ((0 : Int) < (1 : Int)) && decide ((1 : Int) < (4611686018427387904 : Int)) && decide ((-4611686018427387904 : Int) < (0 : Int)) && decide ((0 : Int) < (4611686018427387904 : Int))) (.br (decide ((0 : Int) < (↑[(3 : Int), (2 : Int)].length : Int))) (.br (ix ((0 : Int)) ((↑[(3 : Int), (2 : Int)].length : Int))) (.br (decide ((0 : Int) < (1 : Int)) && decide ((1 : Int) < (4611686018427387904 : Int)) && decide ((-4611686018427387904 : Int) < [(3 : Int), (2 : Int)].getD (Int.toNat 0) (0 : Int)) && decide ([(3 : Int), (2 : Int)].getD (Int.toNat 0) (0 : Int) < (4611686018427387904 : Int))) (.br (decide ((0 : Int) < (1 : Int)) && decide ((1 : Int) < (4611686018427387904 : Int)) && decide ((-4611686018427387904 : Int) < (-2 : Int)) && decide ((-2 : Int) < (4611686018427387904 : Int))) (.br (decide ((0 : Int) < (1 : Int)) && decide ((1 : Int) < (4611686018427387904 : Int)) && decide ((-4611686018427387904 : Int) < (2 : Int)) && decide ((2 : Int) < (4611686018427387904 : Int))) (.br (decide ((0 : Int) < (4 : Int)) && decide ((4 : Int) < (4611686018427387904 : Int)) && decide ((-4611686018427387904 : Int) < (1 : Int)) && decide ((1 : Int) < (4611686018427387904 : Int))) (.br (decide ((0 : Int) < (10 : Int)) && decide ((10 : Int) < (4611686018427387904 : Int)) && decide ((-4611686018427387904 : Int) < (1 : Int)) && decide ((1 : Int) < (4611686018427387904 : Int))) (.br (decide ((0 : Int) < (1 : Int)) && decide ((1 : Int) < (4611686018427387904 : Int)) && decide ((-4611686018427387904 : Int) < (0 : Int)) && decide ((0 : Int) < (4611686018427387904 : Int))) (.br (decide ((0 : Int) < (1 : Int)) && decide ((1 : Int) < (4611686018427387904 : Int)) && decide ((-4611686018427387904 : Int) < (-1 : Int)) && decide ((-1 : Int) < (4611686018427387904 : Int))) (.br (decide ((0 : Int) < (1 : Int)) && decide ((1 : Int) < (4611686018427387904 : Int)) && decide ((-4611686018427387904 : Int) < [(3 : Int), (2 : Int)].getD (Int.toNat 0) (0 : Int)) && decide ([(3 : Int), (2 : Int)].getD (Int.toNat 0) (0 : Int) < (4611686018427387904 : Int))) (.br (decide ((0 : Int) < (1 : Int)) && decide ((1 : Int) < (4611686018427387904 : Int)) && decide ((-4611686018427387904 : Int) < (-1 : Int)) && decide ((-1 : Int) < (4611686018427387904 : Int))) (.br (decide ((0 : Int) < (1 : Int)) && decide ((1 : Int) < (4611686018427387904 : Int)) && decide ((-4611686018427387904 : Int) < [(3 : Int), (2 : Int)].getD (Int.toNat 0) (0 : Int)) && decide ([(3 : Int), (2 : Int)].getD (Int.toNat 0) (0 : Int) < (4611686018427387904 : Int))) (.br (decide ((0 : Int) < (1 : Int)) && decide ((1 : Int) < (4611686018427387904 : Int)) && decide ((-4611686018427387904 : Int) < (1 : Int)) && decide ((1 : Int) < (4611686018427387904 : Int))) (.br (decide ((0 : Int) < (1 : Int)) && decide ((1 : Int) < (4611686018427387904 : Int)) && decide ((-4611686018427387904 : Int) < (0 : Int)) && decide ((0 : Int) < (4611686018427387904 : Int))) (.br (decide ((0 : Int) < (1 : Int)) && decide ((1 : Int) < (4611686018427387904 : Int)) && decide ((-4611686018427387904 : Int) < (1 : Int)) && decide ((1 : Int) < (4611686018427387904 : Int))) (.br (Nat.blt (0 : Nat) [PV.agg [PV.q (mkRat ([(3 : Int), (2 : Int)].getD (Int.toNat 0) (0 : Int)) (Int.toNat (1 : Int))) 64, PV.q (mkRat (-2 : Int) (Int.toNat (1 : Int))) 64, PV.q (mkRat (2 : Int) (Int.toNat (1 : Int))) 64, PV.q (mkRat (1 : Int) (Int.toNat (4 : Int))) 64, PV.q (mkRat (1 : Int) (Int.toNat (10 : Int))) 64, PV.lst 6 (.vals [PV.agg [PV.q (mkRat (0 : Int) (Int.toNat (1 : Int))) 64, PV.q (mkRat (-1 : Int) (Int.toNat (1 : Int))) 64], PV.agg [PV.q (mkRat ([(3 : Int), (2 : Int)].getD (Int.toNat 0) (0 : Int)) (Int.toNat (1 : Int))) 64, PV.q (mkRat (-1 : Int) (Int.toNat (1 : Int))) 64], PV.agg [PV.q (mkRat ([(3 : Int), (2 : Int)].getD (Int.toNat 0) (0 : Int)) (Int.toNat (1 : Int))) 64, PV.q (mkRat (1 : Int) (Int.toNat (1 : Int))) 64], PV.agg [PV.q (mkRat (0 : Int) (Int.toNat (1 : Int))) 64, PV.q (mkRat (1 : Int) (Int.toNat (1 : Int))) 64]])]].length && [PV.agg [PV.q (mkRat ([(3 : Int), (2 : Int)].getD (Int.toNat 0) (0 : Int)) (Int.toNat (1 : Int))) 64, PV.q (mkRat (-2 : Int) (Int.toNat (1 : Int))) 64, PV.q (mkRat (2 : Int) (Int.toNat (1 : Int))) 64, PV.q (mkRat (1 : Int) (Int.toNat (4 : Int))) 64, PV.q (mkRat (1 : Int) (Int.toNat (10 : Int))) 64, PV.lst 6 (.vals [PV.agg [PV.q (mkRat (0 : Int) (Int.toNat (1 : Int))) 64, PV.q (mkRat (-1 : Int) (Int.toNat (1 : Int))) 64], PV.agg [PV.q (mkRat ([(3 : Int), (2 : Int)].getD (Int.toNat 0) (0 : Int)) (Int.toNat (1 : Int))) 64, PV.q (mkRat (-1 : Int) (Int.toNat (1 : Int))) 64], PV.agg [PV.q (mkRat ([(3 : Int), (2 : Int)].getD (Int.toNat 0) (0 : Int)) (Int.toNat (1 : Int))) 64, PV.q (mkRat (1 : Int) (Int.toNat (1 : Int))) 64], PV.agg [PV.q (mkRat (0 : Int) (Int.toNat (1 : Int))) 64, PV.q (mkRat (1 : Int) (Int.toNat (1 : Int))) 64]])]].length.ble 4294967296) (.br (ib ((0 : Int) + (1 : Int))) (.br (decide ((0 : Int) + (1 : Int) < (↑[(3 : Int), (2 : Int)].length : Int))) (.br (ix ((0 : Int) + (1 : Int)) ((↑[(3 : Int), (2 : Int)].length : Int))) (.br (decide ((0 : Int) < (1 : Int)) && decide ((1 : Int) < (4611686018427387904 : Int)) && decide ((-4611686018427387904 : Int) < [(3 : Int), (2 : Int)].getD ((0 : Int) + (1 : Int)).toNat (0 : Int)) && decide ([(3 : Int), (2 : Int)].getD ((0 : Int) + (1 : Int)).toNat (0 : Int) < (4611686018427387904 : Int))) (.br (decide ((0 : Int) < (1 : Int)) && decide ((1 : Int) < (4611686018427387904 : Int)) && decide ((-4611686018427387904 : Int) < (-2 : Int)) && decide ((-2 : Int) < (4611686018427387904 : Int))) (.br (decide ((0 : Int) < (1 : Int)) && decide ((1 : Int) < (4611686018427387904 : Int)) && decide ((-4611686018427387904 : Int) < (2 : Int)) && decide ((2 : Int) < (4611686018427387904 : Int))) (.br (decide ((0 : Int) < (4 : Int)) && decide ((4 : Int) < (4611686018427387904 : Int)) && decide ((-4611686018427387904 : Int) < (1 : Int)) && decide ((1 : Int) < (4611686018427387904 : Int))) (.br (decide ((0 : Int) < (10 : Int)) && decide ((10 : Int) < (4611686018427387904 : Int)) && decide ((-4611686018427387904 : Int) < (1 : Int)) && decide ((1 : Int) < (4611686018427387904 : Int))) (.br (decide ((0 : Int) < (1 : Int)) && decide ((1 : Int) < (4611686018427387904 : Int)) && decide ((-4611686018427387904 : Int) < (0 : Int)) && decide ((0 : Int) < (4611686018427387904 : Int))) (.br (decide ((0 : Int) < (1 : Int)) && decide ((1 : Int) < (4611686018427387904 : Int)) && decide ((-4611686018427387904 : Int) < (-1 : Int)) && decide ((-1 : Int) < (4611686018427387904 : Int))) (.br (decide ((0 : Int) < (1 : Int)) && decide ((1 : Int) < (4611686018427387904 : Int)) && decide ((-4611686018427387904 : Int) < [(3 : Int), (2 : Int)].getD ((0 : Int) + (1 : Int)).toNat (0 : Int)) && decide ([(3 : Int), (2 : Int)].getD ((0 : Int) + (1 : Int)).toNat (0 : Int) < (4611686018427387904 : Int))) (.br (decide ((0 : Int) < (1 : Int)) && decide ((1 : Int) < (4611686018427387904 : Int)) && decide ((-4611686018427387904 : Int) < (-1 : Int)) && decide ((-1 : Int) < (4611686018427387904 : Int))) (.br (decide ((0 : Int) < (1 : Int)) && decide ((1 : Int) < (4611686018427387904 : Int)) && decide ((-4611686018427387904 : Int) < [(3 : Int), (2 : Int)].getD ((0 : Int) + (1 : Int)).toNat (0 : Int)) && decide ([(3 : Int), (2 : Int)].getD ((0 : Int) + (1 : Int)).toNat (0 : Int) < (4611686018427387904 : Int))) (.br (decide ((0 : Int) < (1 : Int)) && decide ((1 : Int) < (4611686018427387904 : Int)) && decide ((-4611686018427387904 : Int) < (1 : Int)) && decide ((1 : Int) < (4611686018427387904 : Int))) (.br (decide ((0 : Int) < (1 : Int)) && decide ((1 : Int) < (4611686018427387904 : Int)) && decide ((-4611686018427387904 : Int) < (0 : Int)) && decide ((0 : Int) < (4611686018427387904 : Int))) (.br (decide ((0 : Int) < (1 : Int)) && decide ((1 : Int) < (4611686018427387904 : Int)) && decide ((-4611686018427387904 : Int) < (1 : Int)) && decide ((1 : Int) < (4611686018427387904 : Int))) (.br (([PV.agg [PV.q (mkRat ([(3 : Int), (2 : Int)].getD (Int.toNat 0) (0 : Int)) (Int.toNat (1 : Int))) 64, PV.q (mkRat (-2 : Int) (Int.toNat (1 : Int))) 64, PV.q (mkRat (2 : Int) (Int.toNat (1 : Int))) 64, PV.q (mkRat (1 : Int) (Int.toNat (4 : Int))) 64, PV.q (mkRat (1 : Int) (Int.toNat (10 : Int))) 64, PV.lst 6 (.vals [PV.agg [PV.q (mkRat (0 : Int) (Int.toNat (1 : Int))) 64, PV.q (mkRat (-1 : Int) (Int.toNat (1 : Int))) 64], PV.agg [PV.q (mkRat ([(3 : Int), (2 : Int)].getD (Int.toNat 0) (0 : Int)) (Int.toNat (1 : Int))) 64, PV.q (mkRat (-1 : Int) (Int.toNat (1 : Int))) 64], PV.agg [PV.q (mkRat ([(3 : Int), (2 : Int)].getD (Int.toNat 0) (0 : Int)) (Int.toNat (1 : Int))) 64, PV.q (mkRat (1 : Int) (Int.toNat (1 : Int))) 64], PV.agg [PV.q (mkRat (0 : Int) (Int.toNat (1 : Int))) 64, PV.q (mkRat (1 : Int) (Int.toNat (1 : Int))) (nat_lit 64)]])]].length + [PV.agg [PV.q (mkRat ([(3 : Int), (2 : Int)].getD ((0 : Int) + (1 : Int)).toNat (0 : Int)) (Int.toNat (1 : Int))) 64, PV.q (mkRat (-2 : Int) (Int.toNat (1 : Int))) 64, PV.q (mkRat (2 : Int) (Int.toNat (1 : Int))) 64, PV.q (mkRat (1 : Int) (Int.toNat (4 : Int))) 64, PV.q (mkRat (1 : Int) (Int.toNat (10 : Int))) 64, PV.lst 6 (.vals [PV.agg [PV.q (mkRat (0 : Int) (Int.toNat (1 : Int))) 64, PV.q (mkRat (-1 : Int) (Int.toNat (1 : Int))) 64], PV.agg [PV.q (mkRat ([(3 : Int), (2 : Int)].getD ((0 : Int) + (1 : Int)).toNat (0 : Int)) (Int.toNat (1 : Int))) 64, PV.q (mkRat (-1 : Int) (Int.toNat (1 : Int))) 64], PV.agg [PV.q (mkRat ([(3 : Int), (2 : Int)].getD ((0 : Int) + (1 : Int)).toNat (0 : Int)) (Int.toNat (1 : Int))) 64, PV.q (mkRat (1 : Int) (Int.toNat (1 : Int))) 64], PV.agg [PV.q (mkRat (0 : Int) (Int.toNat (1 : Int))) 64, PV.q (mkRat (1 : Int) (Int.toNat (1 : Int))) (nat_lit 64)]])]].length).ble 4294967296) (.br (ib ((0 : Int) + (1 : Int) + (1 : Int))) (.br (decide ((0 : Int) + (1 : Int) + (1 : Int) < (↑[(3 : Int), (2 : Int)].length : Int))) (.br (ix ((0 : Int) + (1 : Int) + (1 : Int)) ((↑[(3 : Int), (2 : Int)].length : Int))) (.br (decide ((0 : Int) < (1 : Int)) && decide ((1 : Int) < (4611686018427387904 : Int)) && decide ((-4611686018427387904 : Int) < [(3 : Int), (2 : Int)].getD ((0 : Int) + (1 : Int) + (1 : Int)).toNat (0 : Int)) && decide ([(3 : Int), (2 : Int)].getD ((0 : Int) + (1 : Int) + (1 : Int)).toNat (0 : Int) < (4611686018427387904 : Int))) (.br (decide ((0 : Int) < (1 : Int)) && decide ((1 : Int) < (4611686018427387904 : Int)) && decide ((-4611686018427387904 : Int) < (-2 : Int)) && decide ((-2 : Int) < (4611686018427387904 : Int))) (.br (decide ((0 : Int) < (1 : Int)) && decide ((1 : Int) < (4611686018427387904 : Int)) && decide ((-4611686018427387904 : Int) < (2 : Int)) && decide ((2 : Int) < (4611686018427387904 : Int))) (.br (decide ((0 : Int) < (4 : Int)) && decide ((4 : Int) < (4611686018427387904 : Int)) && decide ((-4611686018427387904 : Int) < (1 : Int)) && decide ((1 : Int) < (4611686018427387904 : Int))) (.br (decide ((0 : Int) < (10 : Int)) && decide ((10 : Int) < (4611686018427387904 : Int)) && decide ((-4611686018427387904 : Int) < (1 : Int)) && decide ((1 : Int) < (4611686018427387904 : Int))) (.br (decide ((0 : Int) < (1 : Int)) && decide ((1 : Int) < (4611686018427387904 : Int)) && decide ((-4611686018427387904 : Int) < (0 : Int)) && decide ((0 : Int) < (4611686018427387904 : Int))) (.br (decide ((0 : Int) < (1 : Int)) && decide ((1 : Int) < (4611686018427387904 : Int)) && decide ((-4611686018427387904 : Int) < (-1 : Int)) && decide ((-1 : Int) < (4611686018427387904 : Int))) (.br (decide ((0 : Int) < (1 : Int)) && decide ((1 : Int) < (4611686018427387904 : Int)) && decide ((-4611686018427387904 : Int) < [(3 : Int), (2 : Int)].getD ((0 : Int) + (1 : Int) + (1 : Int)).toNat (0 : Int)) && decide ([(3 : Int), (2 : Int)].getD ((0 : Int) + (1 : Int) + (1 : Int)).toNat (0 : Int) < (4611686018427387904 : Int))) (.br (decide ((0 : Int) < (1 : Int)) && decide ((1 : Int) < (4611686018427387904 : Int)) && decide ((-4611686018427387904 : Int) < (-1 : Int)) && decide ((-1 : Int) < (4611686018427387904 : Int))) (.br (decide ((0 : Int) < (1 : Int)) && decide ((1 : Int) < (4611686018427387904 : Int)) && decide ((-4611686018427387904 : Int) < [(3 : Int), (2 : Int)].getD ((0 : Int) + (1 : Int) + (1 : Int)).toNat (0 : Int)) && decide ([(3 : Int), (2 : Int)].getD ((0 : Int) + (1 : Int) + (1 : Int)).toNat (0 : Int) < (4611686018427387904 : Int))) (.br (decide ((0 : Int) < (1 : Int)) && decide ((1 : Int) < (4611686018427387904 : Int)) && decide ((-4611686018427387904 : Int) < (1 : Int)) && decide ((1 : Int) < (4611686018427387904 : Int))) (.br (decide ((0 : Int) < (1 : Int)) && decide ((1 : Int) < (4611686018427387904 : Int)) && decide ((-4611686018427387904 : Int) < (0 : Int)) && decide ((0 : Int) < (4611686018427387904 : Int))) (.br (decide ((0 : Int) < (1 : Int)) && decide ((1 : Int) < (4611686018427387904 : Int)) && decide ((-4611686018427387904 : Int) < (1 : Int)) && decide ((1 : Int) < (4611686018427387904 : Int))) (.br (([PV.agg [PV.q (mkRat ([(3 : Int), (2 : Int)].getD (Int.toNat 0) (0 : Int)) (Int.toNat (1 : Int))) (nat_lit 64), PV.q (mkRat (-2 : Int) (Int.toNat (1 : Int))) (nat_lit 64), PV.q (mkRat (2 : Int) (Int.toNat (1 : Int))) (nat_lit 64), PV.q (mkRat (1 : Int) (Int.toNat (4 : Int))) (nat_lit 64), PV.q (mkRat (1 : Int) (Int.toNat (10 : Int))) (nat_lit 64), PV.lst (nat_lit 6) (Cont.vals [PV.agg [PV.q (mkRat (0 : Int) (Int.toNat (1 : Int))) (nat_lit 64), PV.q (mkRat (-1 : Int) (Int.toNat (1 : Int))) (nat_lit 64)], PV.agg [PV.q (mkRat ([(3 : Int), (2 : Int)].getD (Int.toNat 0) (0 : Int)) (Int.toNat (1 : Int))) (nat_lit 64), PV.q (mkRat (-1 : Int) (Int.toNat (1 : Int))) (nat_lit 64)], PV.agg [PV.q (mkRat ([(3 : Int), (2 : Int)].getD (Int.toNat 0) (0 : Int)) (Int.toNat (1 : Int))) (nat_lit 64), PV.q (mkRat (1 : Int) (Int.toNat (1 : Int))) (nat_lit 64)], PV.agg [PV.q (mkRat (0 : Int) (Int.toNat (1 : Int))) (nat_lit 64), PV.q (mkRat (1 : Int) (Int.toNat (1 : Int))) (nat_lit 64)]])]].length + [PV.agg [PV.q (mkRat ([(3 : Int), (2 : Int)].getD ((0 : Int) + (1 : Int)).toNat (0 : Int)) (Int.toNat (1 : Int))) (nat_lit 64), PV.q (mkRat (-2 : Int) (Int.toNat (1 : Int))) (nat_lit 64), PV.q (mkRat (2 : Int) (Int.toNat (1 : Int))) (nat_lit 64), PV.q (mkRat (1 : Int) (Int.toNat (4 : Int))) (nat_lit 64), PV.q (mkRat (1 : Int) (Int.toNat (10 : Int))) (nat_lit 64), PV.lst (nat_lit 6) (Cont.vals [PV.agg [PV.q (mkRat (0 : Int) (Int.toNat (1 : Int))) (nat_lit 64), PV.q (mkRat (-1 : Int) (Int.toNat (1 : Int))) (nat_lit 64)], PV.agg [PV.q (mkRat ([(3 : Int), (2 : Int)].getD ((0 : Int) + (1 : Int)).toNat (0 : Int)) (Int.toNat (1 : Int))) (nat_lit 64), PV.q (mkRat (-1 : Int) (Int.toNat (1 : Int))) (nat_lit 64)], PV.agg [PV.q (mkRat ([(3 : Int), (2 : Int)].getD ((0 : Int) + (1 : Int)).toNat (0 : Int)) (Int.toNat (1 : Int))) (nat_lit 64), PV.q (mkRat (1 : Int) (Int.toNat (1 : Int))) (nat_lit 64)], PV.agg [PV.q (mkRat (0 : Int) (Int.toNat (1 : Int))) (nat_lit 64), PV.q (mkRat (1 : Int) (Int.toNat (1 : Int))) (nat_lit 64)]])]].length + [PV.agg [PV.q (mkRat ([(3 : Int), (2 : Int)].getD ((0 : Int) + (1 : Int) + (1 : Int)).toNat (0 : Int)) (Int.toNat (1 : Int))) (nat_lit 64), PV.q (mkRat (-2 : Int) (Int.toNat (1 : Int))) (nat_lit 64), PV.q (mkRat (2 : Int) (Int.toNat (1 : Int))) (nat_lit 64), PV.q (mkRat (1 : Int) (Int.toNat (4 : Int))) (nat_lit 64), PV.q (mkRat (1 : Int) (Int.toNat (10 : Int))) (nat_lit 64), PV.lst (nat_lit 6) (Cont.vals [PV.agg [PV.q (mkRat (0 : Int) (Int.toNat (1 : Int))) (nat_lit 64), PV.q (mkRat (-1 : Int) (Int.toNat (1 : Int))) (nat_lit 64)], PV.agg [PV.q (mkRat ([(3 : Int), (2 : Int)].getD ((0 : Int) + (1 : Int) + (1 : Int)).toNat (0 : Int)) (Int.toNat (1 : Int))) (nat_lit 64), PV.q (mkRat (-1 : Int) (Int.toNat (1 : Int))) (nat_lit 64)], PV.agg [PV.q (mkRat ([(3 : Int), (2 : Int)].getD ((0 : Int) + (1 : Int) + (1 : Int)).toNat (0 : Int)) (Int.toNat (1 : Int))) (nat_lit 64), PV.q (mkRat (1 : Int) (Int.toNat (1 : Int))) (nat_lit 64)], PV.agg [PV.q (mkRat (0 : Int) (Int.toNat (1 : Int))) (nat_lit 64), PV.q (mkRat (1 : Int) (Int.toNat (1 : Int))) (nat_lit 64)]])]].length).ble 4294967296) (.br (ib ((0 : Int) + (1 : Int) + (1 : Int) + (1 : Int))) (.no (nat_lit 16)) (.no (nat_lit 7002))) (.no (nat_lit 6003))) (.no 1)) (.no 1)) (.no 1)) (.no 1)) (.no 1)) (.no 1)) (.no 1)) (.no 1)) (.no 1)) (.no 1)) (.no 1)) (.no 1)) (.no 1)) (.no 5003)) (.ok (.ret (PV.agg [PV.s (ByteArray.mk #[(111 : UInt8), (110 : UInt8), (101 : UInt8)]), PV.agg [PV.agg [PV.q (mkRat (0 : Int) (Int.toNat (1 : Int))) 64, PV.q (mkRat (0 : Int) (Int.toNat (1 : Int))) 64], PV.agg [PV.bl false, PV.q (mkRat (0 : Int) (Int.toNat (1 : Int))) 64]], PV.fr 16 (.vals [PV.agg [PV.q (mkRat ([(3 : Int), (2 : Int)].getD (Int.toNat 0) (0 : Int)) (Int.toNat (1 : Int))) 64, PV.q (mkRat (-2 : Int) (Int.toNat (1 : Int))) 64, PV.q (mkRat (2 : Int) (Int.toNat (1 : Int))) 64, PV.q (mkRat (1 : Int) (Int.toNat (4 : Int))) 64, PV.q (mkRat (1 : Int) (Int.toNat (10 : Int))) 64, PV.lst 6 (.vals [PV.agg [PV.q (mkRat (0 : Int) (Int.toNat (1 : Int))) 64, PV.q (mkRat (-1 : Int) (Int.toNat (1 : Int))) 64], PV.agg [PV.q (mkRat ([(3 : Int), (2 : Int)].getD (Int.toNat 0) (0 : Int)) (Int.toNat (1 : Int))) 64, PV.q (mkRat (-1 : Int) (Int.toNat (1 : Int))) 64], PV.agg [PV.q (mkRat ([(3 : Int), (2 : Int)].getD (Int.toNat 0) (0 : Int)) (Int.toNat (1 : Int))) 64, PV.q (mkRat (1 : Int) (Int.toNat (1 : Int))) 64], PV.agg [PV.q (mkRat (0 : Int) (Int.toNat (1 : Int))) 64, PV.q (mkRat (1 : Int) (Int.toNat (1 : Int))) (nat_lit 64)]])], PV.agg [PV.q (mkRat ([(3 : Int), (2 : Int)].getD ((0 : Int) + (1 : Int)).toNat (0 : Int)) (Int.toNat (1 : Int))) 64, PV.q (mkRat (-2 : Int) (Int.toNat (1 : Int))) 64, PV.q (mkRat (2 : Int) (Int.toNat (1 : Int))) 64, PV.q (mkRat (1 : Int) (Int.toNat (4 : Int))) 64, PV.q (mkRat (1 : Int) (Int.toNat (10 : Int))) 64, PV.lst 6 (.vals [PV.agg [PV.q (mkRat (0 : Int) (Int.toNat (1 : Int))) 64, PV.q (mkRat (-1 : Int) (Int.toNat (1 : Int))) 64], PV.agg [PV.q (mkRat ([(3 : Int), (2 : Int)].getD ((0 : Int) + (1 : Int)).toNat (0 : Int)) (Int.toNat (1 : Int))) 64, PV.q (mkRat (-1 : Int) (Int.toNat (1 : Int))) 64], PV.agg [PV.q (mkRat ([(3 : Int), (2 : Int)].getD ((0 : Int) + (1 : Int)).toNat (0 : Int)) (Int.toNat (1 : Int))) 64, PV.q (mkRat (1 : Int) (Int.toNat (1 : Int))) 64], PV.agg [PV.q (mkRat (0 : Int) (Int.toNat (1 : Int))) 64, PV.q (mkRat (1 : Int) (Int.toNat (1 : Int))) (nat_lit 64)]])]])]) []))) (.no 7002)) (.no 6003)) (.no 1)) (.no 1)) (.no 1)) (.no 1)) (.no 1)) (.no 1)) (.no 1)) (.no 1)) (.no 1)) (.no 1)) (.no 1)) (.no 1)) (.no 1)) (.no 5003)) (.ok (.ret (PV.agg [PV.s (ByteArray.mk #[(111 : UInt8), (110 : UInt8), (101 : UInt8)]), PV.agg [PV.agg [PV.q (mkRat (0 : Int) (Int.toNat (1 : Int))) 64, PV.q (mkRat (0 : Int) (Int.toNat (1 : Int))) 64], PV.agg [PV.bl false, PV.q (mkRat (0 : Int) (Int.toNat (1 : Int))) 64]], PV.fr 16 (.vals [PV.agg [PV.q (mkRat ([(3 : Int), (2 : Int)].getD (Int.toNat 0) (0 : Int)) (Int.toNat (1 : Int))) 64, PV.q (mkRat (-2 : Int) (Int.toNat (1 : Int))) 64, PV.q (mkRat (2 : Int) (Int.toNat (1 : Int))) 64, PV.q (mkRat (1 : Int) (Int.toNat (4 : Int))) 64, PV.q (mkRat (1 : Int) (Int.toNat (10 : Int))) 64, PV.lst 6 (.vals [PV.agg [PV.q (mkRat (0 : Int) (Int.toNat (1 : Int))) 64, PV.q (mkRat (-1 : Int) (Int.toNat (1 : Int))) 64], PV.agg [PV.q (mkRat ([(3 : Int), (2 : Int)].getD (Int.toNat 0) (0 : Int)) (Int.toNat (1 : Int))) 64, PV.q (mkRat (-1 : Int) (Int.toNat (1 : Int))) 64], PV.agg [PV.q (mkRat ([(3 : Int), (2 : Int)].getD (Int.toNat 0) (0 : Int)) (Int.toNat (1 : Int))) 64, PV.q (mkRat (1 : Int) (Int.toNat (1 : Int))) 64], PV.agg [PV.q (mkRat (0 : Int) (Int.toNat (1 : Int))) 64, PV.q (mkRat (1 : Int) (Int.toNat (1 : Int))) 64]])]])]) []))) (.no 7002)) (.no 6003)) (.no 1)) (.no 1)) (.no 1)) (.no 1)) (.no 1)) (.no 1)) (.no 1)) (.no 1)) (.no 1)) (.no 1)) (.no 1)) (.no 1)) (.no 1)) (.no 5003)) (.ok (.ret (PV.agg [PV.s (ByteArray.mk #[(111 : UInt8), (110 : UInt8), (101 : UInt8)]), PV.agg [PV.agg [PV.q (mkRat (0 : Int) (Int.toNat (1 : Int))) 64, PV.q (mkRat (0 : Int) (Int.toNat (1 : Int))) 64], PV.agg [PV.bl false, PV.q (mkRat (0 : Int) (Int.toNat (1 : Int))) 64]], PV.nil]) []))) (.no 1)) (.no 1)) (.no 1) := by kernel_rfl
def smC (L : Int) : Cont := .vals [.agg [.q (mkRat 0 1) 64, .q (mkRat (-1) 1) 64], .agg [.q (mkRat L 1) 64, .q (mkRat (-1) 1) 64], .agg [.q (mkRat L 1) 64, .q (mkRat 1 1) 64], .agg [.q (mkRat 0 1) 64, .q (mkRat 1 1) 64]]
def smV (L : Int) : PV := lkC (mkRat L 1) (mkRat (-2) 1) (mkRat 2 1) (mkRat 1 4) (mkRat 1 10) (smC L)
def smL (L : Int) : Lk := ⟨mkRat L 1, mkRat (-2) 1, mkRat 2 1, mkRat 1 4, mkRat 1 10, 4, fun i => dq (fldV ((smC L).get i) 0), fun i => dq (fldV ((smC L).get i) 1)⟩
def A32 : Am := ⟨⟨#[111, 110, 101]⟩, mkRat 0 1, mkRat 0 1, mkRat 0 1, 2, fun j => smL ([(3 : Int), 2].getD j 0)⟩
theorem t32 : (evF Tryd.prog O32 [(3, l32)] pol32 Tryd.f27 [.lst 1 (.ints .i64 [3, 2])] [] retK).run = some (.ret (frA ⟨#[111, 110, 101]⟩ (mkRat 0 1) (mkRat 0 1) (mkRat 0 1) (.fr 16 (.vals [smV 3, smV 2]))) []) := by
  rw [e32 ()]
  repeat rw [Tr.run_t (by decide)]
  rw [Tr.run_f (by decide)]
  repeat rw [Tr.run_t (by decide)]
  rw [Tr.run_ok]
  rfl
theorem smV_le (L : Int) : VLe (smV L) (lkPV (smL L)) := by
  refine VLe.agg (VLeL.cons (.refl _) (VLeL.cons (.refl _) (VLeL.cons (.refl _) (VLeL.cons (.refl _) (VLeL.cons (.refl _) (VLeL.cons ?_ .nil))))))
  refine VLe.lst rfl fun i hi => ?_
  have hi' : i < 4 := hi
  match i, hi' with
  | 0, _ => exact .refl _
  | 1, _ => exact .refl _
  | 2, _ => exact .refl _
  | 3, _ => exact .refl _
  | i + 4, h => omega
noncomputable def s32s : Spec := fun args hs K => match args, hs with
  | [.lst 1 (.ints .i64 l)], [] => .br (decide (l = [3, 2])) (K (armFr A32) []) (.no 1)
  | _, _ => .no 1
include hG in
theorem ok32s : SpecOK Tryd.prog G 27 s32s := by
  refine spec_of hG (.cons (ok23 hG) (.cons (ok84 hG) .nil)) mix enter32 (O := O32) (L := [(3, l32)]) (pol := pol32) fun args hs K x h => ?_
  unfold s32s at h
  split at h
  case h_2 => cases h
  rename_i l
  obtain ⟨hc, hr⟩ := Tr.of_br h
  obtain rfl := of_decide_eq_true hc
  refine ⟨lps1 (b := b32) (live := [2, 3, 11, 12, 13]) (sp := l32) (m := 0) (by kernel_rfl) (by kernel_rfl) (by kernel_rfl) (unr_ok hG (.cons (ok23 hG) (.cons (ok84 hG) .nil)) mix (LpsOK.none (by kernel_rfl)) 3), _, _, _, t32, ?_, hr⟩
  refine rle_arm _ _ _ _ _ _ _ rfl fun i u hu => ?_
  match i, hu with
  | 0, hu => obtain rfl := Option.some.inj hu; exact ⟨rfl, smV_le 3⟩
  | 1, hu => obtain rfl := Option.some.inj hu; exact ⟨rfl, smV_le 2⟩
  | i + 2, hu => simp at hu
theorem armB_32 : armB A32 = true := by kernel_rfl
end Go.Proofs.YtnenjkgffapplaaDoor.PE
namespace Go.Proofs.YtnenjkgffapplaaDoor.PE
open Go
set_option maxRecDepth 100000
variable {G : World → (Nat → Prop) → Prop} (hG : GOk G)
noncomputable def OV : Orc := [(19, g21), (36, g27), (56, g29), (65, g43), (152, g133), (153, g134)]
theorem enter57 : Enters Tryd.prog 88 Tryd.f88 (bodyC Tryd.f88) := ⟨Tryd.func88, by kernel_rfl, rfl⟩
theorem enter40 : Enters Tryd.prog 44 Tryd.f44 (bodyC Tryd.f44) := ⟨Tryd.func44, by kernel_rfl, rfl⟩
theorem enter67 : Enters Tryd.prog 89 Tryd.f89 (bodyC Tryd.f89) := ⟨Tryd.func89, by kernel_rfl, rfl⟩
theorem enter121 : Enters Tryd.prog 137 Tryd.f137 (bodyC Tryd.f137) := ⟨Tryd.func137, by kernel_rfl, rfl⟩
theorem enter92 : Enters Tryd.prog 120 Tryd.f120 (bodyC Tryd.f120) := ⟨Tryd.func120, by kernel_rfl, rfl⟩
theorem enter51 : Enters Tryd.prog 119 Tryd.f119 (bodyC Tryd.f119) := ⟨Tryd.func119, by kernel_rfl, rfl⟩
include hG in
theorem orcV (hT : TabG G) : OrcOK Tryd.prog G OV := .cons (gk21 hG hT) (.cons (gk27 hG hT) (.cons (gk29 hG hT) (.cons (gk43 hG hT) (.cons (gk133 hG hT) (.cons (gk134 hG hT) .nil)))))
noncomputable def g57 : Spec := evF Tryd.prog OV [] {} Tryd.f88
noncomputable def g41 : Spec := evF Tryd.prog OV [] {} Tryd.f38
noncomputable def g42 : Spec := evF Tryd.prog OV [] {} Tryd.f39
noncomputable def g97 : Spec := evF Tryd.prog OV [] {} Tryd.f84
noncomputable def g40 : Spec := evF Tryd.prog OV [] {} Tryd.f44
noncomputable def g67 : Spec := evF Tryd.prog OV [] {} Tryd.f89
include hG in
theorem gk57 (hT : TabG G) : SpecOK Tryd.prog G 88 g57 := spec_ev hG (orcV hG hT) mix enter57 (fun _ => LpsOK.none (by kernel_rfl))
include hG in
theorem gk41 (hT : TabG G) : SpecOK Tryd.prog G 38 g41 := spec_ev hG (orcV hG hT) mix enter41 (fun _ => LpsOK.none (by kernel_rfl))
include hG in
theorem gk97 (hT : TabG G) : SpecOK Tryd.prog G 84 g97 := spec_ev hG (orcV hG hT) mix enter97 (fun _ => LpsOK.none (by kernel_rfl))
include hG in
theorem gk40 (hT : TabG G) : SpecOK Tryd.prog G 44 g40 := spec_ev hG (orcV hG hT) mix enter40 (fun _ => LpsOK.none (by kernel_rfl))
include hG in
theorem gk67 (hT : TabG G) : SpecOK Tryd.prog G 89 g67 := spec_ev hG (orcV hG hT) mix enter67 (fun _ => LpsOK.none (by kernel_rfl))
theorem k121 (x y t : Rat) (h : Bool) (n m k : Nat) : evF Tryd.prog OV [] {} Tryd.f137 [.agg [.q x n, .q y m], .agg [.b h, .q t k]] [] retK =
  Tr.br (k.ble 100000 && Nat.ble 1 k) (.br (k.ble 100000 && Nat.ble 1 k) (.br ((n + ((4 : Nat) * k + (4 : Nat))).ble 800000) (.br ((m + ((4 : Nat) * k + (4 : Nat))).ble 800000) (.br ((n + ((4 : Nat) * k + (4 : Nat)) + (m + ((4 : Nat) * k + (4 : Nat))) + (1 : Nat)).ble 800000) (.br ((n + ((4 : Nat) * k + (4 : Nat))).ble 800000) (.br ((m + ((4 : Nat) * k + (4 : Nat))).ble 800000) (.br ((n + ((4 : Nat) * k + (4 : Nat)) + (m + ((4 : Nat) * k + (4 : Nat))) + (1 : Nat)).ble 800000) (.ok (.ret (.agg [.q (x * cosR h t - y * sinR h t) (n + ((4 : Nat) * k + (4 : Nat)) + (m + ((4 : Nat) * k + (4 : Nat))) + (1 : Nat)), .q (x * sinR h t + y * cosR h t) (n + ((4 : Nat) * k + (4 : Nat)) + (m + ((4 : Nat) * k + (4 : Nat))) + (1 : Nat))]) [])) (.no 1)) (.no 1)) (.no 1)) (.no 1)) (.no 1)) (.no 1)) (.no 1)) (.no 1) := by kernel_rfl
noncomputable def g121 : Spec := fun args hs K => match args, hs with
  | [.agg [.q x n, .q y m], .agg [hv, .q t k]], [] => match bof hv with
    | some h => .br (Nat.ble (n + m + 8 * k + 9) 800000 && Nat.ble 1 k) (K (.agg [.q (x * cosR h t - y * sinR h t) (n + m + 8 * k + 9), .q (x * sinR h t + y * cosR h t) (n + m + 8 * k + 9)]) []) (.no 1)
    | none => .no 1
  | _, _ => .no 1
theorem vc_rle {x y u v : Rat} {n m p r : Nat} (h1 : x = u) (h2 : y = v) (h3 : n ≤ p) (h4 : m ≤ r) : RLe (.agg [.q x n, .q y m]) (.agg [.q u p, .q v r]) := by
  subst h1; subst h2
  exact rle_of_vle (fun _ => rfl) (fun _ => rfl) (VLe.agg (vllc (vle_qm h3) (vllc (vle_qm h4) vll0)))
include hG in
theorem gk121 (hT : TabG G) : SpecOK Tryd.prog G 137 g121 := by
  intro args hs K x h
  unfold g121 at h
  split at h
  case h_2 => cases h
  rename_i x n y m hv t k
  split at h
  case h_2 => cases h
  rename_i b hb
  obtain ⟨hc, hr⟩ := Tr.of_br h
  simp only [Bool.and_eq_true, Nat.ble_eq] at hc
  have key : ∃ r, (evF Tryd.prog OV [] {} Tryd.f137 [.agg [.q x n, .q y m], .agg [.b b, .q t k]] [] retK).run = some (.ret r []) ∧ RLe r (.agg [.q (x * cosR b t - y * sinR b t) (n + m + 8 * k + 9), .q (x * sinR b t + y * cosR b t) (n + m + 8 * k + 9)]) := by
    rw [k121]
    repeat rw [Tr.run_t (by simp only [Bool.and_eq_true, Nat.ble_eq]; omega)]
    exact ⟨_, rfl, vc_rle rfl rfl (by omega) (by omega)⟩
  obtain ⟨r, k1, k2⟩ := key
  exact ⟨_, _, PC.args (.cons (.refl _) (.cons (tn_le hb rfl (Nat.le_refl _)) .nil)) ((evF_pc hG (orcV hG hT) mix enter121 (L := []) (pol := {}) (LpsOK.none (by kernel_rfl)) k1).le k2 (.refl _)), hr⟩
noncomputable def O92 : Orc := [(88, g57), (137, g121)]
theorem k92 (x y t u v : Rat) (h : Bool) (n m k p r : Nat) : evF Tryd.prog O92 [] {} Tryd.f120 [.agg [.agg [.q x n, .q y m], .agg [.b h, .q t k]], .agg [.q u p, .q v r]] [] retK =
  Tr.br ((p + r + (8 : Nat) * k + (9 : Nat)).ble 800000 && Nat.ble 1 k) (.br ((n + (p + r + (8 : Nat) * k + (9 : Nat)) + (1 : Nat)).ble 800000) (.br ((m + (p + r + (8 : Nat) * k + (9 : Nat)) + (1 : Nat)).ble 800000) (.ok (.ret (.agg [.q (x + (u * cosR h t - v * sinR h t)) (n + (p + r + (8 : Nat) * k + (9 : Nat)) + (1 : Nat)), .q (y + (u * sinR h t + v * cosR h t)) (m + (p + r + (8 : Nat) * k + (9 : Nat)) + (1 : Nat))]) [])) (.no 1)) (.no 1)) (.no 1) := by kernel_rfl
noncomputable def g92 : Spec := fun args hs K => match args, hs with
  | [.agg [.agg [.q x n, .q y m], .agg [hv, .q t k]], .agg [.q u p, .q v r]], [] => match bof hv with
    | some h => match r with
      | 1 => match p with
        | 1 => .br (decP (u = 0 ∧ v = 0 ∧ n + 8 * k + 20 ≤ 800000 ∧ m + 8 * k + 20 ≤ 800000)) (K (.agg [.q x n, .q y m]) []) (.no 1)
        | p => .br (decP (v = 0 ∧ n + p + 8 * k + 20 ≤ 800000 ∧ m + p + 8 * k + 20 ≤ 800000 ∧ 1 ≤ k)) (K (.agg [.q (x + u * cosR h t) (n + p + 8 * k + 11), .q (y + u * sinR h t) (m + p + 8 * k + 11)]) []) (.no 1)
      | r => .br (Nat.ble (n + p + r + 8 * k + 20) 800000 && Nat.ble (m + p + r + 8 * k + 20) 800000 && Nat.ble 1 k) (K (.agg [.q (x + (u * cosR h t - v * sinR h t)) (n + p + r + 8 * k + 10), .q (y + (u * sinR h t + v * cosR h t)) (m + p + r + 8 * k + 10)]) []) (.no 1)
    | none => .no 1
  | _, _ => .no 1
include hG in
theorem orc92 (hT : TabG G) : OrcOK Tryd.prog G O92 := .cons (gk57 hG hT) (.cons (gk121 hG hT) .nil)
theorem put_key (x y t u v : Rat) (h : Bool) (n m k p r : Nat) (h1 : n + p + r + 8 * k + 10 ≤ 800000) (h2 : m + p + r + 8 * k + 10 ≤ 800000) (h3 : 1 ≤ k) : ∃ z, (evF Tryd.prog O92 [] {} Tryd.f120 [.agg [.agg [.q x n, .q y m], .agg [.b h, .q t k]], .agg [.q u p, .q v r]] [] retK).run = some (.ret z []) ∧
    RLe z (.agg [.q (x + (u * cosR h t - v * sinR h t)) (n + p + r + 8 * k + 10), .q (y + (u * sinR h t + v * cosR h t)) (m + p + r + 8 * k + 10)]) := by
  rw [k92]
  repeat rw [Tr.run_t (by simp only [Bool.and_eq_true, Nat.ble_eq]; omega)]
  exact ⟨_, rfl, vc_rle rfl rfl (by omega) (by omega)⟩
theorem put_sz {x y : Rat} {n m k : Nat} {t : Rat} {hv : PV} {b : PV} (w : World) (S : Nat → Prop) (μ : Mu) (vs : List Value) (h : RepVL w S μ [.agg [.agg [.q x n, .q y m], .agg [hv, .q t k]], b] vs) : sz x ≤ n ∧ sz y ≤ m ∧ sz t ≤ k := by
  cases h with
  | cons _ _ _ _ _ h _ =>
    obtain ⟨ds, hd⟩ := RepV_agg h (.agg [.q x n, .q y m]) (by simp)
    obtain ⟨es, he⟩ := RepV_agg h (.agg [hv, .q t k]) (by simp)
    cases hd with
    | agg _ _ _ hl =>
      obtain ⟨a, ha⟩ := RepL_get hl (.q x n) (by simp)
      obtain ⟨b, hb⟩ := RepL_get hl (.q y m) (by simp)
      cases he with
      | agg _ _ _ hl2 =>
        obtain ⟨c, hc⟩ := RepL_get hl2 (.q t k) (by simp)
        exact ⟨RepC_q ha, RepC_q hb, RepC_q hc⟩
include hG in
theorem gk92 (hT : TabG G) : SpecOK Tryd.prog G 120 g92 := by
  intro args hs K z h
  unfold g92 at h
  split at h
  case h_2 => cases h
  rename_i x n y m hv t k u p v r
  split at h
  case h_2 => cases h
  rename_i b hb
  have hargs : ArgsLe [.agg [.agg [.q x n, .q y m], .agg [hv, .q t k]], .agg [.q u p, .q v r]] [.agg [.agg [.q x n, .q y m], .agg [.b b, .q t k]], .agg [.q u p, .q v r]] := .cons (VLe.agg (vllc (.refl _) (vllc (tn_le hb rfl (Nat.le_refl _)) vll0))) (.cons (.refl _) .nil)
  split at h
  · split at h
    · obtain ⟨hc, hr⟩ := Tr.of_br h
      obtain ⟨rfl, rfl, h1, h2⟩ := decP_iff.1 hc
      refine ⟨_, _, ?_, hr⟩
      refine PC.args hargs (pc_assume _ put_sz fun hq => ?_)
      obtain ⟨r, k1, k2⟩ := put_key x y t 0 0 b n m k 1 1 (by omega) (by omega) (sz_lt hq.2.2).2.2
      refine ((evF_pc hG (orc92 hG hT) mix enter92 (L := []) (pol := {}) (LpsOK.none (by kernel_rfl)) k1).le k2 (.refl _)).le ?_ (.refl _)
      rw [show x + (0 * cosR b t - 0 * sinR b t) = x by grind, show y + (0 * sinR b t + 0 * cosR b t) = y by grind]
      exact rle_of_vle (fun _ => rfl) (fun _ => rfl) (VLe.agg (vllc (vle_qq hq.1) (vllc (vle_qq hq.2.1) vll0)))
    · obtain ⟨hc, hr⟩ := Tr.of_br h
      obtain ⟨rfl, h1, h2, h3⟩ := decP_iff.1 hc
      obtain ⟨r, k1, k2⟩ := put_key x y t u 0 b n m k p 1 (by omega) (by omega) h3
      refine ⟨_, _, PC.args hargs (((evF_pc hG (orc92 hG hT) mix enter92 (L := []) (pol := {}) (LpsOK.none (by kernel_rfl)) k1).le k2 (.refl _)).le (vc_rle ?_ ?_ (by omega) (by omega)) (.refl _)), hr⟩
      · grind
      · grind
  · obtain ⟨hc, hr⟩ := Tr.of_br h
    simp only [Bool.and_eq_true, Nat.ble_eq] at hc
    obtain ⟨r, k1, k2⟩ := put_key x y t u v b n m k p r (by omega) (by omega) hc.2
    exact ⟨_, _, PC.args hargs ((evF_pc hG (orc92 hG hT) mix enter92 (L := []) (pol := {}) (LpsOK.none (by kernel_rfl)) k1).le k2 (.refl _)), hr⟩
noncomputable def O51 : Orc := [(120, g92), (136, g93)]
noncomputable def g51 : Spec := evF Tryd.prog O51 [] {} Tryd.f119
include hG in
theorem gk51 (hT : TabG G) : SpecOK Tryd.prog G 119 g51 := spec_ev hG (.cons (gk92 hG hT) (.cons (gk93 hG hT) .nil)) mix enter51 (fun _ => LpsOK.none (by kernel_rfl))
theorem enter39 : Enters Tryd.prog 79 Tryd.f79 (bodyC Tryd.f79) := ⟨Tryd.func79, by kernel_rfl, rfl⟩
end Go.Proofs.YtnenjkgffapplaaDoor.PE
namespace Go.Proofs.YtnenjkgffapplaaDoor.PE
open Go
set_option maxRecDepth 100000
variable {G : World → (Nat → Prop) → Prop} (hG : GOk G)
noncomputable def b39 : Code := (loopsOf (bodyC Tryd.f79)).getD 0 .skip
def pol39 : Pol := { live := [(9, [1, 7, 8, 9, 10, 29, 30, 31])] }
noncomputable def O39 : Orc := [(118, g50), (119, g51), (63, g71), (116, s85)]
structure Fr where
  x : Rat
  y : Rat
  h : Bool
  t : Rat
def frP (f : Fr) (a b : Nat) : PV := .agg [.agg [.q f.x a, .q f.y a], .agg [.b f.h, .q f.t b]]
def n39 (qs : List Rat) (n : Nat) (lk : Nat → Lk) (x y t : Rat) (i : Int) : LS := ⟨[.lst 3 (.rats 64 qs), .ptr 0 10 0 0 [], .ptr 1 6 0 0 [], .ptr 2 4 0 0 [], .nil, .lst 16 (.fn n (fun j => lkPV (lk j))), .i .i64 n, .i .i64 i],
  [some ⟨10, .vals [.agg [.agg [.q x 64, .q y 64], .agg [.bl false, .q t 64]]]⟩, some ⟨6, .vals [.agg [.q ((0 : Int) : Rat) 1, .q ((0 : Int) : Rat) 1]]⟩, some ⟨4, .vals [.agg [.bl false, .q ((0 : Int) : Rat) 1]]⟩]⟩
def x39 (qs : List Rat) (n : Nat) (lk : Nat → Lk) (ys : List PV) (l : Nat) (x y : Rat) (h : Bool) (t : Rat) (a b : Nat) (i : Int) : LS := ⟨[.lst 3 (.rats 64 qs), .ptr 0 10 0 0 [], .ptr 1 6 0 0 [], .ptr 2 4 0 0 [], .sl 3 10 0 l, .lst 16 (.fn n (fun j => lkPV (lk j))), .i .i64 n, .i .i64 i],
  [some ⟨10, .vals [.agg [.agg [.q x a, .q y a], .agg [.b h, .q t b]]]⟩, some ⟨6, .vals [.agg [.q ((0 : Int) : Rat) 1, .q ((0 : Int) : Rat) 1]]⟩, some ⟨4, .vals [.agg [.bl false, .q ((0 : Int) : Rat) 1]]⟩, some ⟨10, .vals ys⟩]⟩
theorem t39n (qs : List Rat) (n : Nat) (lk : Nat → Lk) (x y t : Rat) (i : Int) : evRound Tryd.prog O39 [] pol39 Tryd.f79.ntmps 0 [1, 7, 8, 9, 10, 29, 30, 31] b39 (n39 qs n lk x y t i) =
  Tr.br (decide (i < (↑n : Int))) (.br (ix (i) ((↑n : Int))) (.br (ix (i) ((↑qs.length : Int))) (.br (Nat.ble 64 (400000 : Nat)) (.br (decP ((↑(0 : Int) : Rat) = (0 : Rat) ∧ (↑(0 : Int) : Rat) = (0 : Rat) ∧ (64 : Nat) + (8 : Nat) * (64 : Nat) + (20 : Nat) ≤ (800000 : Nat) ∧ (64 : Nat) + (8 : Nat) * (64 : Nat) + (20 : Nat) ≤ (800000 : Nat))) (.br (Nat.ble 64 (50000 : Nat) && Nat.ble 1 (64 : Nat) && Nat.ble 64 (50000 : Nat) && Nat.ble 1 (64 : Nat)) (.br (Nat.blt (0 : Nat) [PV.agg [PV.agg [PV.q x 64, PV.q y 64], PV.agg [PV.b (thH false t false (qs.getD i.toNat 0)), PV.q (thT false t false (qs.getD i.toNat 0)) 259]]].length && [PV.agg [PV.agg [PV.q x 64, PV.q y 64], PV.agg [PV.b (thH false t false (qs.getD i.toNat 0)), PV.q (thT false t false (qs.getD i.toNat 0)) 259]]].length.ble 4294967296) (.br (decide ((-72057594037927936 : Int) < (0 : Int)) && decide ((0 : Int) ≤ 9223372036854775807)) (.br (decP ((↑(0 : Int) : Rat) = (0 : Rat) ∧ (64 : Nat) + (64 : Nat) + (8 : Nat) * ((2 : Nat) * (64 : Nat) + (2 : Nat) * (64 : Nat) + (3 : Nat)) + (20 : Nat) ≤ (800000 : Nat) ∧ (64 : Nat) + (64 : Nat) + (8 : Nat) * ((2 : Nat) * (64 : Nat) + (2 : Nat) * (64 : Nat) + (3 : Nat)) + (20 : Nat) ≤ (800000 : Nat) ∧ (1 : Nat) ≤ (2 : Nat) * (64 : Nat) + (2 : Nat) * (64 : Nat) + (3 : Nat))) (.br (decP (false = false ∧ (↑(0 : Int) : Rat) = (0 : Rat) ∧ (2 : Nat) * (64 : Nat) + (2 : Nat) * (64 : Nat) + (3 : Nat) ≤ (50000 : Nat))) (.br (ib (i + (1 : Int))) (.ok (.out .normal (LS.mk [PV.lst 3 (.rats 64 qs), PV.ptr 0 10 0 0 [], PV.ptr 1 6 0 0 [], PV.ptr 2 4 0 0 [], PV.sl 3 10 0 1, PV.lst 16 (.fn n fun (j : Nat) => PV.agg [PV.q (lk j).len 64, PV.q (lk j).low 64, PV.q (lk j).high 64, PV.q (lk j).spd 64, PV.q (lk j).brk 64, PV.lst 6 (.fn (lk j).np fun (a : Nat) => PV.agg [PV.q ((lk j).px a) 64, PV.q ((lk j).py a) 64])]), PV.i .i64 (↑n : Int), PV.i .i64 (i + (1 : Int))] [some (.mk 10 (.vals [PV.agg [PV.agg [PV.q (x + (lk i.toNat).len * cosR (thH false t false (qs.getD i.toNat 0)) (thT false t false (qs.getD i.toNat 0))) 2211, PV.q (y + (lk i.toNat).len * sinR (thH false t false (qs.getD i.toNat 0)) (thT false t false (qs.getD i.toNat 0))) 2211], PV.agg [PV.b (thH false t false (qs.getD i.toNat 0)), PV.q (ftT (thH false t false (qs.getD i.toNat 0)) (thT false t false (qs.getD i.toNat 0))) 259]]])), some (.mk 6 (.vals [PV.agg [PV.q (↑(0 : Int) : Rat) 1, PV.q (↑(0 : Int) : Rat) 1]])), some (.mk 4 (.vals [PV.agg [PV.bl false, PV.q (↑(0 : Int) : Rat) 1]])), some (.mk 10 (.vals [PV.agg [PV.agg [PV.q x 64, PV.q y 64], PV.agg [PV.b (thH false t false (qs.getD i.toNat 0)), PV.q (thT false t false (qs.getD i.toNat 0)) 259]]]))]))) (.no 15002)) (.no 1)) (.no 1)) (.no 1)) (.no 13002)) (.no 1)) (.no 1)) (.no 1)) (.no 12007)) (.no 11005)) (.ok (.out (.exit 0) (LS.mk [PV.lst 3 (.rats 64 qs), PV.ptr 0 10 0 0 [], PV.ptr 1 6 0 0 [], PV.ptr 2 4 0 0 [], PV.nil, PV.lst 16 (.fn n fun (j : Nat) => PV.agg [PV.q (lk j).len 64, PV.q (lk j).low 64, PV.q (lk j).high 64, PV.q (lk j).spd 64, PV.q (lk j).brk 64, PV.lst 6 (.fn (lk j).np fun (a : Nat) => PV.agg [PV.q ((lk j).px a) 64, PV.q ((lk j).py a) 64])]), PV.i .i64 (↑n : Int), PV.i .i64 i] [some (.mk 10 (.vals [PV.agg [PV.agg [PV.q x 64, PV.q y 64], PV.agg [PV.bl false, PV.q t 64]]])), some (.mk 6 (.vals [PV.agg [PV.q (↑(0 : Int) : Rat) 1, PV.q (↑(0 : Int) : Rat) 1]])), some (.mk 4 (.vals [PV.agg [PV.bl false, PV.q (↑(0 : Int) : Rat) 1]]))]))) := by kernel_rfl
theorem t39a (qs : List Rat) (n : Nat) (lk : Nat → Lk) (f0 : Fr) (x y : Rat) (h : Bool) (t : Rat) (i : Int) : evRound Tryd.prog O39 [] pol39 Tryd.f79.ntmps 0 [1, 7, 8, 9, 10, 29, 30, 31] b39 (x39 qs n lk [frP f0 64 259] 1 x y h t 2211 259 i) =
  Tr.br (decide (i < (↑n : Int))) (.br (ix (i) ((↑n : Int))) (.br (ix (i) ((↑qs.length : Int))) (.br (Nat.ble 64 (400000 : Nat)) (.br (decP ((↑(0 : Int) : Rat) = (0 : Rat) ∧ (↑(0 : Int) : Rat) = (0 : Rat) ∧ (2211 : Nat) + (8 : Nat) * (259 : Nat) + (20 : Nat) ≤ (800000 : Nat) ∧ (2211 : Nat) + (8 : Nat) * (259 : Nat) + (20 : Nat) ≤ (800000 : Nat))) (.br (Nat.ble 259 (50000 : Nat) && Nat.ble 1 (259 : Nat) && Nat.ble 64 (50000 : Nat) && Nat.ble 1 (64 : Nat)) (.br (((1 : Nat) + [PE.PV.agg [PV.agg [PV.q x 2211, PV.q y 2211], PV.agg [PV.b (thH h t false (qs.getD i.toNat 0)), PV.q (thT h t false (qs.getD i.toNat 0)) 649]]].length).ble 4294967296) (.br (decide ((-72057594037927936 : Int) < (0 : Int)) && decide ((0 : Int) ≤ 9223372036854775807)) (.br (decP ((↑(0 : Int) : Rat) = (0 : Rat) ∧ (2211 : Nat) + (64 : Nat) + (8 : Nat) * ((2 : Nat) * (259 : Nat) + (2 : Nat) * (64 : Nat) + (3 : Nat)) + (20 : Nat) ≤ (800000 : Nat) ∧ (2211 : Nat) + (64 : Nat) + (8 : Nat) * ((2 : Nat) * (259 : Nat) + (2 : Nat) * (64 : Nat) + (3 : Nat)) + (20 : Nat) ≤ (800000 : Nat) ∧ (1 : Nat) ≤ (2 : Nat) * (259 : Nat) + (2 : Nat) * (64 : Nat) + (3 : Nat))) (.br (decP (false = false ∧ (↑(0 : Int) : Rat) = (0 : Rat) ∧ (2 : Nat) * (259 : Nat) + (2 : Nat) * (64 : Nat) + (3 : Nat) ≤ (50000 : Nat))) (.br (ib (i + (1 : Int))) (.ok (.out .normal (LS.mk [PV.lst 3 (.rats 64 qs), PV.ptr 0 10 0 0 [], PV.ptr 1 6 0 0 [], PV.ptr 2 4 0 0 [], PV.sl 3 10 0 2, PV.lst 16 (.fn n fun (j : Nat) => PV.agg [PV.q (lk j).len 64, PV.q (lk j).low 64, PV.q (lk j).high 64, PV.q (lk j).spd 64, PV.q (lk j).brk 64, PV.lst 6 (.fn (lk j).np fun (a : Nat) => PV.agg [PV.q ((lk j).px a) 64, PV.q ((lk j).py a) 64])]), PV.i .i64 (↑n : Int), PV.i .i64 (i + (1 : Int))] [some (.mk 10 (.vals [PV.agg [PV.agg [PV.q (x + (lk i.toNat).len * cosR (thH h t false (qs.getD i.toNat 0)) (thT h t false (qs.getD i.toNat 0))) 7478, PV.q (y + (lk i.toNat).len * sinR (thH h t false (qs.getD i.toNat 0)) (thT h t false (qs.getD i.toNat 0))) 7478], PV.agg [PV.b (thH h t false (qs.getD i.toNat 0)), PV.q (ftT (thH h t false (qs.getD i.toNat 0)) (thT h t false (qs.getD i.toNat 0))) 649]]])), some (.mk 6 (.vals [PV.agg [PV.q (↑(0 : Int) : Rat) 1, PV.q (↑(0 : Int) : Rat) 1]])), some (.mk 4 (.vals [PV.agg [PV.bl false, PV.q (↑(0 : Int) : Rat) 1]])), some (.mk 10 (.vals [frP f0 64 259, PV.agg [PV.agg [PV.q x 2211, PV.q y 2211], PV.agg [PV.b (thH h t false (qs.getD i.toNat 0)), PV.q (thT h t false (qs.getD i.toNat 0)) 649]]]))]))) (.no 15002)) (.no 1)) (.no 1)) (.no 1)) (.no 13002)) (.no 1)) (.no 1)) (.no 1)) (.no 12007)) (.no 11005)) (.ok (.out (.exit 0) (LS.mk [PV.lst 3 (.rats 64 qs), PV.ptr 0 10 0 0 [], PV.ptr 1 6 0 0 [], PV.ptr 2 4 0 0 [], PV.sl 3 10 0 1, PV.lst 16 (.fn n fun (j : Nat) => PV.agg [PV.q (lk j).len 64, PV.q (lk j).low 64, PV.q (lk j).high 64, PV.q (lk j).spd 64, PV.q (lk j).brk 64, PV.lst 6 (.fn (lk j).np fun (a : Nat) => PV.agg [PV.q ((lk j).px a) 64, PV.q ((lk j).py a) 64])]), PV.i .i64 (↑n : Int), PV.i .i64 i] [some (.mk 10 (.vals [PV.agg [PV.agg [PV.q x 2211, PV.q y 2211], PV.agg [PV.b h, PV.q t 259]]])), some (.mk 6 (.vals [PV.agg [PV.q (↑(0 : Int) : Rat) 1, PV.q (↑(0 : Int) : Rat) 1]])), some (.mk 4 (.vals [PV.agg [PV.bl false, PV.q (↑(0 : Int) : Rat) 1]])), some (.mk 10 (.vals [frP f0 64 259]))]))) := by kernel_rfl
theorem t39b (qs : List Rat) (n : Nat) (lk : Nat → Lk) (f0 f1 : Fr) (x y : Rat) (h : Bool) (t : Rat) (i : Int) : evRound Tryd.prog O39 [] pol39 Tryd.f79.ntmps 0 [1, 7, 8, 9, 10, 29, 30, 31] b39 (x39 qs n lk [frP f0 64 259, frP f1 2211 649] 2 x y h t 7478 649 i) =
  Tr.br (decide (i < (↑n : Int))) (.br (ix (i) ((↑n : Int))) (.br (ix (i) ((↑qs.length : Int))) (.br (Nat.ble 64 (400000 : Nat)) (.br (decP ((↑(0 : Int) : Rat) = (0 : Rat) ∧ (↑(0 : Int) : Rat) = (0 : Rat) ∧ (7478 : Nat) + (8 : Nat) * (649 : Nat) + (20 : Nat) ≤ (800000 : Nat) ∧ (7478 : Nat) + (8 : Nat) * (649 : Nat) + (20 : Nat) ≤ (800000 : Nat))) (.br (Nat.ble 649 (50000 : Nat) && Nat.ble 1 (649 : Nat) && Nat.ble 64 (50000 : Nat) && Nat.ble 1 (64 : Nat)) (.br (((2 : Nat) + [PE.PV.agg [PV.agg [PV.q x 7478, PV.q y 7478], PV.agg [PV.b (thH h t false (qs.getD i.toNat 0)), PV.q (thT h t false (qs.getD i.toNat 0)) 1429]]].length).ble 4294967296) (.br (decide ((-72057594037927936 : Int) < (0 : Int)) && decide ((0 : Int) ≤ 9223372036854775807)) (.br (decP ((↑(0 : Int) : Rat) = (0 : Rat) ∧ (7478 : Nat) + (64 : Nat) + (8 : Nat) * ((2 : Nat) * (649 : Nat) + (2 : Nat) * (64 : Nat) + (3 : Nat)) + (20 : Nat) ≤ (800000 : Nat) ∧ (7478 : Nat) + (64 : Nat) + (8 : Nat) * ((2 : Nat) * (649 : Nat) + (2 : Nat) * (64 : Nat) + (3 : Nat)) + (20 : Nat) ≤ (800000 : Nat) ∧ (1 : Nat) ≤ (2 : Nat) * (649 : Nat) + (2 : Nat) * (64 : Nat) + (3 : Nat))) (.br (decP (false = false ∧ (↑(0 : Int) : Rat) = (0 : Rat) ∧ (2 : Nat) * (649 : Nat) + (2 : Nat) * (64 : Nat) + (3 : Nat) ≤ (50000 : Nat))) (.br (ib (i + (1 : Int))) (.ok (.out .normal (LS.mk [PV.lst 3 (.rats 64 qs), PV.ptr 0 10 0 0 [], PV.ptr 1 6 0 0 [], PV.ptr 2 4 0 0 [], PV.sl 3 10 0 3, PV.lst 16 (.fn n fun (j : Nat) => PV.agg [PV.q (lk j).len 64, PV.q (lk j).low 64, PV.q (lk j).high 64, PV.q (lk j).spd 64, PV.q (lk j).brk 64, PV.lst 6 (.fn (lk j).np fun (a : Nat) => PV.agg [PV.q ((lk j).px a) 64, PV.q ((lk j).py a) 64])]), PV.i .i64 (↑n : Int), PV.i .i64 (i + (1 : Int))] [some (.mk 10 (.vals [PV.agg [PV.agg [PV.q (x + (lk i.toNat).len * cosR (thH h t false (qs.getD i.toNat 0)) (thT h t false (qs.getD i.toNat 0))) 18985, PV.q (y + (lk i.toNat).len * sinR (thH h t false (qs.getD i.toNat 0)) (thT h t false (qs.getD i.toNat 0))) 18985], PV.agg [PV.b (thH h t false (qs.getD i.toNat 0)), PV.q (ftT (thH h t false (qs.getD i.toNat 0)) (thT h t false (qs.getD i.toNat 0))) 1429]]])), some (.mk 6 (.vals [PV.agg [PV.q (↑(0 : Int) : Rat) 1, PV.q (↑(0 : Int) : Rat) 1]])), some (.mk 4 (.vals [PV.agg [PV.bl false, PV.q (↑(0 : Int) : Rat) 1]])), some (.mk 10 (.vals [frP f0 64 259, frP f1 2211 649, PV.agg [PV.agg [PV.q x 7478, PV.q y 7478], PV.agg [PV.b (thH h t false (qs.getD i.toNat 0)), PV.q (thT h t false (qs.getD i.toNat 0)) 1429]]]))]))) (.no 15002)) (.no 1)) (.no 1)) (.no 1)) (.no 13002)) (.no 1)) (.no 1)) (.no 1)) (.no 12007)) (.no 11005)) (.ok (.out (.exit 0) (LS.mk [PV.lst 3 (.rats 64 qs), PV.ptr 0 10 0 0 [], PV.ptr 1 6 0 0 [], PV.ptr 2 4 0 0 [], PV.sl 3 10 0 2, PV.lst 16 (.fn n fun (j : Nat) => PV.agg [PV.q (lk j).len 64, PV.q (lk j).low 64, PV.q (lk j).high 64, PV.q (lk j).spd 64, PV.q (lk j).brk 64, PV.lst 6 (.fn (lk j).np fun (a : Nat) => PV.agg [PV.q ((lk j).px a) 64, PV.q ((lk j).py a) 64])]), PV.i .i64 (↑n : Int), PV.i .i64 i] [some (.mk 10 (.vals [PV.agg [PV.agg [PV.q x 7478, PV.q y 7478], PV.agg [PV.b h, PV.q t 649]]])), some (.mk 6 (.vals [PV.agg [PV.q (↑(0 : Int) : Rat) 1, PV.q (↑(0 : Int) : Rat) 1]])), some (.mk 4 (.vals [PV.agg [PV.bl false, PV.q (↑(0 : Int) : Rat) 1]])), some (.mk 10 (.vals [frP f0 64 259, frP f1 2211 649]))]))) := by kernel_rfl
theorem t39c (qs : List Rat) (n : Nat) (lk : Nat → Lk) (f0 f1 f2 : Fr) (x y : Rat) (h : Bool) (t : Rat) (i : Int) : evRound Tryd.prog O39 [] pol39 Tryd.f79.ntmps 0 [1, 7, 8, 9, 10, 29, 30, 31] b39 (x39 qs n lk [frP f0 64 259, frP f1 2211 649, frP f2 7478 1429] 3 x y h t 18985 1429 i) =
  Tr.br (decide (i < (↑n : Int))) (.br (ix (i) ((↑n : Int))) (.br (ix (i) ((↑qs.length : Int))) (.br (Nat.ble 64 (400000 : Nat)) (.br (decP ((↑(0 : Int) : Rat) = (0 : Rat) ∧ (↑(0 : Int) : Rat) = (0 : Rat) ∧ (18985 : Nat) + (8 : Nat) * (1429 : Nat) + (20 : Nat) ≤ (800000 : Nat) ∧ (18985 : Nat) + (8 : Nat) * (1429 : Nat) + (20 : Nat) ≤ (800000 : Nat))) (.br (Nat.ble 1429 (50000 : Nat) && Nat.ble 1 (1429 : Nat) && Nat.ble 64 (50000 : Nat) && Nat.ble 1 (64 : Nat)) (.br (((3 : Nat) + [PE.PV.agg [PV.agg [PV.q x 18985, PV.q y 18985], PV.agg [PV.b (thH h t false (qs.getD i.toNat 0)), PV.q (thT h t false (qs.getD i.toNat 0)) 2989]]].length).ble 4294967296) (.br (decide ((-72057594037927936 : Int) < (0 : Int)) && decide ((0 : Int) ≤ 9223372036854775807)) (.br (decP ((↑(0 : Int) : Rat) = (0 : Rat) ∧ (18985 : Nat) + (64 : Nat) + (8 : Nat) * ((2 : Nat) * (1429 : Nat) + (2 : Nat) * (64 : Nat) + (3 : Nat)) + (20 : Nat) ≤ (800000 : Nat) ∧ (18985 : Nat) + (64 : Nat) + (8 : Nat) * ((2 : Nat) * (1429 : Nat) + (2 : Nat) * (64 : Nat) + (3 : Nat)) + (20 : Nat) ≤ (800000 : Nat) ∧ (1 : Nat) ≤ (2 : Nat) * (1429 : Nat) + (2 : Nat) * (64 : Nat) + (3 : Nat))) (.br (decP (false = false ∧ (↑(0 : Int) : Rat) = (0 : Rat) ∧ (2 : Nat) * (1429 : Nat) + (2 : Nat) * (64 : Nat) + (3 : Nat) ≤ (50000 : Nat))) (.br (ib (i + (1 : Int))) (.ok (.out .normal (LS.mk [PV.lst 3 (.rats 64 qs), PV.ptr 0 10 0 0 [], PV.ptr 1 6 0 0 [], PV.ptr 2 4 0 0 [], PV.sl 3 10 0 4, PV.lst 16 (.fn n fun (j : Nat) => PV.agg [PV.q (lk j).len 64, PV.q (lk j).low 64, PV.q (lk j).high 64, PV.q (lk j).spd 64, PV.q (lk j).brk 64, PV.lst 6 (.fn (lk j).np fun (a : Nat) => PV.agg [PV.q ((lk j).px a) 64, PV.q ((lk j).py a) 64])]), PV.i .i64 (↑n : Int), PV.i .i64 (i + (1 : Int))] [some (.mk 10 (.vals [PV.agg [PV.agg [PV.q (x + (lk i.toNat).len * cosR (thH h t false (qs.getD i.toNat 0)) (thT h t false (qs.getD i.toNat 0))) 42972, PV.q (y + (lk i.toNat).len * sinR (thH h t false (qs.getD i.toNat 0)) (thT h t false (qs.getD i.toNat 0))) 42972], PV.agg [PV.b (thH h t false (qs.getD i.toNat 0)), PV.q (ftT (thH h t false (qs.getD i.toNat 0)) (thT h t false (qs.getD i.toNat 0))) 2989]]])), some (.mk 6 (.vals [PV.agg [PV.q (↑(0 : Int) : Rat) 1, PV.q (↑(0 : Int) : Rat) 1]])), some (.mk 4 (.vals [PV.agg [PV.bl false, PV.q (↑(0 : Int) : Rat) 1]])), some (.mk 10 (.vals [frP f0 64 259, frP f1 2211 649, frP f2 7478 1429, PV.agg [PV.agg [PV.q x 18985, PV.q y 18985], PV.agg [PV.b (thH h t false (qs.getD i.toNat 0)), PV.q (thT h t false (qs.getD i.toNat 0)) 2989]]]))]))) (.no 15002)) (.no 1)) (.no 1)) (.no 1)) (.no 13002)) (.no 1)) (.no 1)) (.no 1)) (.no 12007)) (.no 11005)) (.ok (.out (.exit 0) (LS.mk [PV.lst 3 (.rats 64 qs), PV.ptr 0 10 0 0 [], PV.ptr 1 6 0 0 [], PV.ptr 2 4 0 0 [], PV.sl 3 10 0 3, PV.lst 16 (.fn n fun (j : Nat) => PV.agg [PV.q (lk j).len 64, PV.q (lk j).low 64, PV.q (lk j).high 64, PV.q (lk j).spd 64, PV.q (lk j).brk 64, PV.lst 6 (.fn (lk j).np fun (a : Nat) => PV.agg [PV.q ((lk j).px a) 64, PV.q ((lk j).py a) 64])]), PV.i .i64 (↑n : Int), PV.i .i64 i] [some (.mk 10 (.vals [PV.agg [PV.agg [PV.q x 18985, PV.q y 18985], PV.agg [PV.b h, PV.q t 1429]]])), some (.mk 6 (.vals [PV.agg [PV.q (↑(0 : Int) : Rat) 1, PV.q (↑(0 : Int) : Rat) 1]])), some (.mk 4 (.vals [PV.agg [PV.bl false, PV.q (↑(0 : Int) : Rat) 1]])), some (.mk 10 (.vals [frP f0 64 259, frP f1 2211 649, frP f2 7478 1429]))]))) := by kernel_rfl
theorem e39a (A : Am) (qs : List Rat) (f0 e : Fr) (i : Int) : evF Tryd.prog O39 [(9, lcst (n39 qs A.n A.lk A.bx A.by_ A.t 0) (.exit 0) (x39 qs A.n A.lk [frP f0 64 259] 1 e.x e.y e.h e.t 2211 259 i))] pol39 Tryd.f79 [armPV A, .lst 3 (.rats 64 qs)] [] retK =
  Tr.br (decP (P85 [armPV A, PV.i .i64 (↑qs.length : Int)])) (.br (!decide ((0 : Int) = (0 : Int))) (.ok (.ret (PV.tup [PV.nil, PV.i .i64 (0 : Int)]) [])) (.br (decide ((-72057594037927936 : Int) < (0 : Int)) && decide ((0 : Int) ≤ 9223372036854775807)) (.br (decide ((-72057594037927936 : Int) < (0 : Int)) && decide ((0 : Int) ≤ 9223372036854775807)) (.br (decide ((-72057594037927936 : Int) < (0 : Int)) && decide ((0 : Int) ≤ 9223372036854775807)) (.br (((Int.natAbs (0 : Int)).log2 + (1 : Nat)).ble 400000) (.br (decP (isLS (LS.mk [PV.lst 3 (.rats 64 qs), PV.ptr 0 10 0 0 [], PV.ptr 1 6 0 0 [], PV.ptr 2 4 0 0 [], PV.nil, PV.lst 16 (.fn A.n fun (j : Nat) => PV.agg [PV.q (A.lk j).len 64, PV.q (A.lk j).low 64, PV.q (A.lk j).high 64, PV.q (A.lk j).spd 64, PV.q (A.lk j).brk 64, PV.lst 6 (.fn (A.lk j).np fun (a : Nat) => PV.agg [PV.q ((A.lk j).px a) 64, PV.q ((A.lk j).py a) 64])]), PV.i .i64 (↑A.n : Int), PV.i .i64 (0 : Int)] [some (.mk 10 (.vals [PV.agg [PV.agg [PV.q A.bx 64, PV.q A.by_ 64], PV.agg [PV.bl false, PV.q A.t 64]]])), some (.mk 6 (.vals [PV.agg [PV.q (↑(0 : Int) : Rat) 1, PV.q (↑(0 : Int) : Rat) 1]])), some (.mk 4 (.vals [PV.agg [PV.bl false, PV.q (↑(0 : Int) : Rat) 1]]))]) (LS.mk [PV.lst 3 (.rats 64 qs), PV.ptr 0 10 0 0 [], PV.ptr 1 6 0 0 [], PV.ptr 2 4 0 0 [], PV.nil, PV.lst 16 (.fn A.n fun (j : Nat) => PV.agg [PV.q (A.lk j).len 64, PV.q (A.lk j).low 64, PV.q (A.lk j).high 64, PV.q (A.lk j).spd 64, PV.q (A.lk j).brk 64, PV.lst 6 (.fn (A.lk j).np fun (a : Nat) => PV.agg [PV.q ((A.lk j).px a) 64, PV.q ((A.lk j).py a) 64])]), PV.i .i64 (↑A.n : Int), PV.i .i64 (0 : Int)] [some (.mk 10 (.vals [PV.agg [PV.agg [PV.q A.bx 64, PV.q A.by_ 64], PV.agg [PV.bl false, PV.q A.t 64]]])), some (.mk 6 (.vals [PV.agg [PV.q (↑(0 : Int) : Rat) 1, PV.q (↑(0 : Int) : Rat) 1]])), some (.mk 4 (.vals [PV.agg [PV.bl false, PV.q (↑(0 : Int) : Rat) 1]]))]))) (.br (((1 : Nat) + [frP e 2211 259].length).ble 4294967296) (.ok (.ret (PV.tup [PV.fr 10 (.vals [frP f0 64 259, frP e 2211 259]), PV.i .i64 (0 : Int)]) [])) (.no 16003)) (.no 1)) (.no 1)) (.no 1)) (.no 1)) (.no 1))) (.no 1) := by kernel_rfl
theorem e39b (A : Am) (qs : List Rat) (f0 f1 e : Fr) (i : Int) : evF Tryd.prog O39 [(9, lcst (n39 qs A.n A.lk A.bx A.by_ A.t 0) (.exit 0) (x39 qs A.n A.lk [frP f0 64 259, frP f1 2211 649] 2 e.x e.y e.h e.t 7478 649 i))] pol39 Tryd.f79 [armPV A, .lst 3 (.rats 64 qs)] [] retK =
  Tr.br (decP (P85 [armPV A, PV.i .i64 (↑qs.length : Int)])) (.br (!decide ((0 : Int) = (0 : Int))) (.ok (.ret (PV.tup [PV.nil, PV.i .i64 (0 : Int)]) [])) (.br (decide ((-72057594037927936 : Int) < (0 : Int)) && decide ((0 : Int) ≤ 9223372036854775807)) (.br (decide ((-72057594037927936 : Int) < (0 : Int)) && decide ((0 : Int) ≤ 9223372036854775807)) (.br (decide ((-72057594037927936 : Int) < (0 : Int)) && decide ((0 : Int) ≤ 9223372036854775807)) (.br (((Int.natAbs (0 : Int)).log2 + (1 : Nat)).ble 400000) (.br (decP (isLS (LS.mk [PV.lst 3 (.rats 64 qs), PV.ptr 0 10 0 0 [], PV.ptr 1 6 0 0 [], PV.ptr 2 4 0 0 [], PV.nil, PV.lst 16 (.fn A.n fun (j : Nat) => PV.agg [PV.q (A.lk j).len 64, PV.q (A.lk j).low 64, PV.q (A.lk j).high 64, PV.q (A.lk j).spd 64, PV.q (A.lk j).brk 64, PV.lst 6 (.fn (A.lk j).np fun (a : Nat) => PV.agg [PV.q ((A.lk j).px a) 64, PV.q ((A.lk j).py a) 64])]), PV.i .i64 (↑A.n : Int), PV.i .i64 (0 : Int)] [some (.mk 10 (.vals [PV.agg [PV.agg [PV.q A.bx 64, PV.q A.by_ 64], PV.agg [PV.bl false, PV.q A.t 64]]])), some (.mk 6 (.vals [PV.agg [PV.q (↑(0 : Int) : Rat) 1, PV.q (↑(0 : Int) : Rat) 1]])), some (.mk 4 (.vals [PV.agg [PV.bl false, PV.q (↑(0 : Int) : Rat) 1]]))]) (LS.mk [PV.lst 3 (.rats 64 qs), PV.ptr 0 10 0 0 [], PV.ptr 1 6 0 0 [], PV.ptr 2 4 0 0 [], PV.nil, PV.lst 16 (.fn A.n fun (j : Nat) => PV.agg [PV.q (A.lk j).len 64, PV.q (A.lk j).low 64, PV.q (A.lk j).high 64, PV.q (A.lk j).spd 64, PV.q (A.lk j).brk 64, PV.lst 6 (.fn (A.lk j).np fun (a : Nat) => PV.agg [PV.q ((A.lk j).px a) 64, PV.q ((A.lk j).py a) 64])]), PV.i .i64 (↑A.n : Int), PV.i .i64 (0 : Int)] [some (.mk 10 (.vals [PV.agg [PV.agg [PV.q A.bx 64, PV.q A.by_ 64], PV.agg [PV.bl false, PV.q A.t 64]]])), some (.mk 6 (.vals [PV.agg [PV.q (↑(0 : Int) : Rat) 1, PV.q (↑(0 : Int) : Rat) 1]])), some (.mk 4 (.vals [PV.agg [PV.bl false, PV.q (↑(0 : Int) : Rat) 1]]))]))) (.br (((2 : Nat) + [frP e 7478 649].length).ble 4294967296) (.ok (.ret (PV.tup [PV.fr 10 (.vals [frP f0 64 259, frP f1 2211 649, frP e 7478 649]), PV.i .i64 (0 : Int)]) [])) (.no 16003)) (.no 1)) (.no 1)) (.no 1)) (.no 1)) (.no 1))) (.no 1) := by kernel_rfl
theorem e39c (A : Am) (qs : List Rat) (f0 f1 f2 e : Fr) (i : Int) : evF Tryd.prog O39 [(9, lcst (n39 qs A.n A.lk A.bx A.by_ A.t 0) (.exit 0) (x39 qs A.n A.lk [frP f0 64 259, frP f1 2211 649, frP f2 7478 1429] 3 e.x e.y e.h e.t 18985 1429 i))] pol39 Tryd.f79 [armPV A, .lst 3 (.rats 64 qs)] [] retK =
  Tr.br (decP (P85 [armPV A, PV.i .i64 (↑qs.length : Int)])) (.br (!decide ((0 : Int) = (0 : Int))) (.ok (.ret (PV.tup [PV.nil, PV.i .i64 (0 : Int)]) [])) (.br (decide ((-72057594037927936 : Int) < (0 : Int)) && decide ((0 : Int) ≤ 9223372036854775807)) (.br (decide ((-72057594037927936 : Int) < (0 : Int)) && decide ((0 : Int) ≤ 9223372036854775807)) (.br (decide ((-72057594037927936 : Int) < (0 : Int)) && decide ((0 : Int) ≤ 9223372036854775807)) (.br (((Int.natAbs (0 : Int)).log2 + (1 : Nat)).ble 400000) (.br (decP (isLS (LS.mk [PV.lst 3 (.rats 64 qs), PV.ptr 0 10 0 0 [], PV.ptr 1 6 0 0 [], PV.ptr 2 4 0 0 [], PV.nil, PV.lst 16 (.fn A.n fun (j : Nat) => PV.agg [PV.q (A.lk j).len 64, PV.q (A.lk j).low 64, PV.q (A.lk j).high 64, PV.q (A.lk j).spd 64, PV.q (A.lk j).brk 64, PV.lst 6 (.fn (A.lk j).np fun (a : Nat) => PV.agg [PV.q ((A.lk j).px a) 64, PV.q ((A.lk j).py a) 64])]), PV.i .i64 (↑A.n : Int), PV.i .i64 (0 : Int)] [some (.mk 10 (.vals [PV.agg [PV.agg [PV.q A.bx 64, PV.q A.by_ 64], PV.agg [PV.bl false, PV.q A.t 64]]])), some (.mk 6 (.vals [PV.agg [PV.q (↑(0 : Int) : Rat) 1, PV.q (↑(0 : Int) : Rat) 1]])), some (.mk 4 (.vals [PV.agg [PV.bl false, PV.q (↑(0 : Int) : Rat) 1]]))]) (LS.mk [PV.lst 3 (.rats 64 qs), PV.ptr 0 10 0 0 [], PV.ptr 1 6 0 0 [], PV.ptr 2 4 0 0 [], PV.nil, PV.lst 16 (.fn A.n fun (j : Nat) => PV.agg [PV.q (A.lk j).len 64, PV.q (A.lk j).low 64, PV.q (A.lk j).high 64, PV.q (A.lk j).spd 64, PV.q (A.lk j).brk 64, PV.lst 6 (.fn (A.lk j).np fun (a : Nat) => PV.agg [PV.q ((A.lk j).px a) 64, PV.q ((A.lk j).py a) 64])]), PV.i .i64 (↑A.n : Int), PV.i .i64 (0 : Int)] [some (.mk 10 (.vals [PV.agg [PV.agg [PV.q A.bx 64, PV.q A.by_ 64], PV.agg [PV.bl false, PV.q A.t 64]]])), some (.mk 6 (.vals [PV.agg [PV.q (↑(0 : Int) : Rat) 1, PV.q (↑(0 : Int) : Rat) 1]])), some (.mk 4 (.vals [PV.agg [PV.bl false, PV.q (↑(0 : Int) : Rat) 1]]))]))) (.br (((3 : Nat) + [frP e 18985 1429].length).ble 4294967296) (.ok (.ret (PV.tup [PV.fr 10 (.vals [frP f0 64 259, frP f1 2211 649, frP f2 7478 1429, frP e 18985 1429]), PV.i .i64 (0 : Int)]) [])) (.no 16003)) (.no 1)) (.no 1)) (.no 1)) (.no 1)) (.no 1))) (.no 1) := by kernel_rfl
noncomputable def fstep (q : Rat) (E : Fr) : Fr := ⟨E.x, E.y, thH E.h E.t false q, thT E.h E.t false q⟩
noncomputable def estep (L : Rat) (F : Fr) : Fr := ⟨F.x + L * cosR F.h F.t, F.y + L * sinR F.h F.t, F.h, ftT F.h F.t⟩
noncomputable def endR (b : Fr) (q L : Nat → Rat) : Nat → Fr
  | 0 => b
  | i + 1 => estep (L i) (fstep (q i) (endR b q L i))
noncomputable def frmF (b : Fr) (q L : Nat → Rat) (i : Nat) : Fr := fstep (q i) (endR b q L i)
noncomputable def allF (b : Fr) (q L : Nat → Rat) (n i : Nat) : Fr := if i < n then frmF b q L i else endR b q L n
include hG in
theorem orc39 (hT : TabG G) : OrcOK Tryd.prog G O39 := .cons (gk50 hG hT) (.cons (gk51 hG hT) (.cons (gk71 hG) (.cons (ok85 hG) .nil)))
noncomputable def qf (qs : List Rat) (i : Nat) : Rat := qs.getD i 0
def bsF (A : Am) : Fr := ⟨A.bx, A.by_, false, A.t⟩
noncomputable def Fq (qs : List Rat) (lk : Nat → Lk) (b : Fr) (i : Nat) : Fr := frmF b (qf qs) (fun j => (lk j).len) i
noncomputable def Eq' (qs : List Rat) (lk : Nat → Lk) (b : Fr) (i : Nat) : Fr := endR b (qf qs) (fun j => (lk j).len) i
section
variable (qs : List Rat) (n : Nat) (lk : Nat → Lk) (b : Fr)
include hG in
theorem r39_0 (hT : TabG G) (hb : b.h = false) (hn : 1 ≤ n) (hq : qs.length = n) : Rnd Tryd.prog G Tryd.f79.ntmps 0 [1, 7, 8, 9, 10, 29, 30, 31] b39 (n39 qs n lk b.x b.y b.t 0) .normal (x39 qs n lk [frP (Fq qs lk b 0) 64 259] 1 (Eq' qs lk b 1).x (Eq' qs lk b 1).y (Eq' qs lk b 1).h (Eq' qs lk b 1).t 2211 259 1) := by
  refine round_ok hG (orc39 hG hT) mix (L := []) (pol := pol39) (O := O39) (LpsOK.none (by kernel_rfl)) (Nat.zero_le _) ?_
  rw [t39n, Tr.run_t (decide_eq_true (by omega)), Tr.run_t (by simp only [Bool.and_eq_true, decide_eq_true_eq]; omega), Tr.run_t (by simp only [Bool.and_eq_true, decide_eq_true_eq]; omega), Tr.run_t (by decide), Tr.run_t (decP_iff.2 ⟨rfl, rfl, by decide, by decide⟩), Tr.run_t (by decide), Tr.run_t (by simp), Tr.run_t (by decide),
    Tr.run_t (decP_iff.2 ⟨rfl, by decide, by decide, by decide⟩), Tr.run_t (decP_iff.2 ⟨rfl, rfl, by decide⟩), Tr.run_t (by decide), Tr.run_ok]
  obtain ⟨bx, by_, bh, bt⟩ := b
  simp only at hb
  subst hb
  rfl
include hG in
theorem r39_1 (hT : TabG G) (hn : 2 ≤ n) (hq : qs.length = n) : Rnd Tryd.prog G Tryd.f79.ntmps 0 [1, 7, 8, 9, 10, 29, 30, 31] b39 (x39 qs n lk [frP (Fq qs lk b 0) 64 259] 1 (Eq' qs lk b 1).x (Eq' qs lk b 1).y (Eq' qs lk b 1).h (Eq' qs lk b 1).t 2211 259 1) .normal
    (x39 qs n lk [frP (Fq qs lk b 0) 64 259, frP (Fq qs lk b 1) 2211 649] 2 (Eq' qs lk b 2).x (Eq' qs lk b 2).y (Eq' qs lk b 2).h (Eq' qs lk b 2).t 7478 649 2) := by
  refine round_ok hG (orc39 hG hT) mix (L := []) (pol := pol39) (O := O39) (LpsOK.none (by kernel_rfl)) (Nat.zero_le _) ?_
  rw [t39a, Tr.run_t (decide_eq_true (by omega)), Tr.run_t (by simp only [Bool.and_eq_true, decide_eq_true_eq]; omega), Tr.run_t (by simp only [Bool.and_eq_true, decide_eq_true_eq]; omega), Tr.run_t (by decide), Tr.run_t (decP_iff.2 ⟨rfl, rfl, by decide, by decide⟩), Tr.run_t (by decide), Tr.run_t (by simp), Tr.run_t (by decide),
    Tr.run_t (decP_iff.2 ⟨rfl, by decide, by decide, by decide⟩), Tr.run_t (decP_iff.2 ⟨rfl, rfl, by decide⟩), Tr.run_t (by decide), Tr.run_ok]
  rfl
include hG in
theorem r39_2 (hT : TabG G) (hn : 3 ≤ n) (hq : qs.length = n) : Rnd Tryd.prog G Tryd.f79.ntmps 0 [1, 7, 8, 9, 10, 29, 30, 31] b39 (x39 qs n lk [frP (Fq qs lk b 0) 64 259, frP (Fq qs lk b 1) 2211 649] 2 (Eq' qs lk b 2).x (Eq' qs lk b 2).y (Eq' qs lk b 2).h (Eq' qs lk b 2).t 7478 649 2) .normal
    (x39 qs n lk [frP (Fq qs lk b 0) 64 259, frP (Fq qs lk b 1) 2211 649, frP (Fq qs lk b 2) 7478 1429] 3 (Eq' qs lk b 3).x (Eq' qs lk b 3).y (Eq' qs lk b 3).h (Eq' qs lk b 3).t 18985 1429 3) := by
  refine round_ok hG (orc39 hG hT) mix (L := []) (pol := pol39) (O := O39) (LpsOK.none (by kernel_rfl)) (Nat.zero_le _) ?_
  rw [t39b, Tr.run_t (decide_eq_true (by omega)), Tr.run_t (by simp only [Bool.and_eq_true, decide_eq_true_eq]; omega), Tr.run_t (by simp only [Bool.and_eq_true, decide_eq_true_eq]; omega), Tr.run_t (by decide), Tr.run_t (decP_iff.2 ⟨rfl, rfl, by decide, by decide⟩), Tr.run_t (by decide), Tr.run_t (by simp), Tr.run_t (by decide),
    Tr.run_t (decP_iff.2 ⟨rfl, by decide, by decide, by decide⟩), Tr.run_t (decP_iff.2 ⟨rfl, rfl, by decide⟩), Tr.run_t (by decide), Tr.run_ok]
  rfl
end
noncomputable def frs (A : Am) (qs : List Rat) : Cont := .fn (A.n + 1) (fun i => frP (allF (bsF A) (qf qs) (fun j => (A.lk j).len) A.n i) 20000 1500)
def P39 (arm : PV) (qs : List Rat) : Prop := okA arm ∧ qs.length = (dArm arm).n
noncomputable def g39 : Spec := fun args hs K => match args, hs with
  | [arm, .lst 3 (.rats w qs)], [] => .br (decP (P39 arm qs ∧ w = 64)) (K (.tup [.fr 10 (frs (dArm arm) qs), .i .i64 0]) []) (.no 1)
  | _, _ => .no 1
theorem frP_le {f g : Fr} (h : f = g) {a b c d : Nat} (h1 : a ≤ c) (h2 : b ≤ d) : VLe (frP f a b) (frP g c d) := by
  subst h
  exact VLe.agg (vllc (VLe.agg (vllc (vle_qm h1) (vllc (vle_qm h1) vll0))) (vllc (VLe.agg (vllc (.refl _) (vllc (vle_qm h2) vll0))) vll0))
theorem frs_le0 (e n : Nat) (f : Nat → PV) (vs : List PV) (hl : vs.length = n) (h : ∀ (i : Nat) (v : PV), vs[i]? = some v → noRef 8 v = true ∧ VLe v (f i)) :
    RLe (.tup [.fr e (.vals vs), .i .i64 0]) (.tup [.fr e (.fn n f), .i .i64 0]) := by
  subst hl
  exact ⟨fun m => .refl _, fun m => KsLe.one (KLe.fn rfl h)⟩
theorem frs_le (A : Am) (qs : List Rat) (vs : List PV) (hl : vs.length = A.n + 1) (h : ∀ (i : Nat) (v : PV), vs[i]? = some v → noRef 8 v = true ∧ VLe v (frP (allF (bsF A) (qf qs) (fun j => (A.lk j).len) A.n i) 20000 1500)) :
    RLe (.tup [.fr 10 (.vals vs), .i .i64 0]) (.tup [.fr 10 (frs A qs), .i .i64 0]) := frs_le0 _ _ _ vs hl h
section
variable (qs : List Rat) (n : Nat) (lk : Nat → Lk) (b : Fr)
include hG in
theorem goes39a (hT : TabG G) (hb : b.h = false) (hn : n = 1) (hq : qs.length = n) : Goes (Rnd Tryd.prog G Tryd.f79.ntmps 0 [1, 7, 8, 9, 10, 29, 30, 31] b39) (n39 qs n lk b.x b.y b.t 0) (.exit 0) (x39 qs n lk [frP (Fq qs lk b 0) 64 259] 1 (Eq' qs lk b 1).x (Eq' qs lk b 1).y (Eq' qs lk b 1).h (Eq' qs lk b 1).t 2211 259 1) := by
  refine .more _ _ _ _ (r39_0 hG qs n lk b hT hb (by omega) hq) (.last _ _ _ (round_ok hG (orc39 hG hT) mix (L := []) (pol := pol39) (O := O39) (LpsOK.none (by kernel_rfl)) (Nat.zero_le _) ?_) (by simp))
  rw [t39a, Tr.run_f (decide_eq_false (by omega)), Tr.run_ok]
  rfl
include hG in
theorem goes39b (hT : TabG G) (hb : b.h = false) (hn : n = 2) (hq : qs.length = n) : Goes (Rnd Tryd.prog G Tryd.f79.ntmps 0 [1, 7, 8, 9, 10, 29, 30, 31] b39) (n39 qs n lk b.x b.y b.t 0) (.exit 0) (x39 qs n lk [frP (Fq qs lk b 0) 64 259, frP (Fq qs lk b 1) 2211 649] 2 (Eq' qs lk b 2).x (Eq' qs lk b 2).y (Eq' qs lk b 2).h (Eq' qs lk b 2).t 7478 649 2) := by
  refine .more _ _ _ _ (r39_0 hG qs n lk b hT hb (by omega) hq) (.more _ _ _ _ (r39_1 hG qs n lk b hT (by omega) hq) (.last _ _ _ (round_ok hG (orc39 hG hT) mix (L := []) (pol := pol39) (O := O39) (LpsOK.none (by kernel_rfl)) (Nat.zero_le _) ?_) (by simp)))
  rw [t39b, Tr.run_f (decide_eq_false (by omega)), Tr.run_ok]
  rfl
include hG in
theorem goes39c (hT : TabG G) (hb : b.h = false) (hn : n = 3) (hq : qs.length = n) : Goes (Rnd Tryd.prog G Tryd.f79.ntmps 0 [1, 7, 8, 9, 10, 29, 30, 31] b39) (n39 qs n lk b.x b.y b.t 0) (.exit 0) (x39 qs n lk [frP (Fq qs lk b 0) 64 259, frP (Fq qs lk b 1) 2211 649, frP (Fq qs lk b 2) 7478 1429] 3 (Eq' qs lk b 3).x (Eq' qs lk b 3).y (Eq' qs lk b 3).h (Eq' qs lk b 3).t 18985 1429 3) := by
  refine .more _ _ _ _ (r39_0 hG qs n lk b hT hb (by omega) hq) (.more _ _ _ _ (r39_1 hG qs n lk b hT (by omega) hq) (.more _ _ _ _ (r39_2 hG qs n lk b hT (by omega) hq) (.last _ _ _ (round_ok hG (orc39 hG hT) mix (L := []) (pol := pol39) (O := O39) (LpsOK.none (by kernel_rfl)) (Nat.zero_le _) ?_) (by simp))))
  rw [t39c, Tr.run_f (decide_eq_false (by omega)), Tr.run_ok]
  rfl
end
theorem allF_lt {b : Fr} {q L : Nat → Rat} {n i : Nat} (h : i < n) : allF b q L n i = frmF b q L i := if_pos h
theorem allF_n {b : Fr} {q L : Nat → Rat} {n : Nat} : allF b q L n n = endR b q L n := if_neg (Nat.lt_irrefl n)
include hG in
theorem gk39 (hT : TabG G) : SpecOK Tryd.prog G 79 g39 := by
  intro args hs K x h
  unfold g39 at h
  split at h
  case h_2 => cases h
  rename_i arm w qs
  obtain ⟨hc, hr⟩ := Tr.of_br h
  obtain ⟨⟨⟨hv, hA⟩, hq⟩, rfl⟩ := decP_iff.1 hc
  generalize dArm arm = A at *
  obtain ⟨h1, h2, h3, h4, h5, h6, h7⟩ := armB_c hA
  have z0 : ((Int.natAbs (0 : Int)).log2 + 1).ble 400000 = true := by decide
  have hcs : A.n = 1 ∨ A.n = 2 ∨ A.n = 3 := by omega
  refine ⟨_, _, PC.args (.cons hv (.cons (.refl _) .nil)) ?_, hr⟩
  rcases hcs with hn | hn | hn
  · have g := goes39a hG qs A.n A.lk (bsF A) hT rfl hn hq
    refine (evF_pc hG (orc39 hG hT) mix enter39 (hs := []) (pol := pol39) (L := [(9, lcst (n39 qs A.n A.lk A.bx A.by_ A.t 0) (.exit 0) (x39 qs A.n A.lk [frP (Fq qs A.lk (bsF A) 0) 64 259] 1 (Eq' qs A.lk (bsF A) 1).x (Eq' qs A.lk (bsF A) 1).y (Eq' qs A.lk (bsF A) 1).h (Eq' qs A.lk (bsF A) 1).t 2211 259 1))]) (lps1 (b := b39) (live := [1, 7, 8, 9, 10, 29, 30, 31]) (m := 0) (by kernel_rfl) (by kernel_rfl) (by kernel_rfl) (lcst_ok g)) (r := .tup [.fr 10 (.vals [frP (Fq qs A.lk (bsF A) 0) 64 259, frP (Eq' qs A.lk (bsF A) 1) 2211 259]), .i .i64 0]) (hs' := []) ?_).le ?_ (.refl _)
    · refine (congrArg Tr.run (e39a A qs (Fq qs A.lk (bsF A) 0) (Eq' qs A.lk (bsF A) 1) 1)).trans ?_
      rw [Tr.run_t (decP_iff.2 ⟨armPV A, A, by first | (rw [hq]; done) | (rw [hq]; rfl), .refl _, hA⟩), Tr.run_f (by decide), Tr.run_t (by decide), Tr.run_t (by decide), Tr.run_t (by decide), Tr.run_t z0, Tr.run_t isLS_t, Tr.run_t (by simp), Tr.run_ok]
      all_goals rfl
    · refine frs_le A qs _ (by rw [hn]; rfl) fun i v hi => ?_
      match i, hi with
      | 0, hi => simp at hi; subst hi; exact ⟨rfl, frP_le (by rw [hn, allF_lt (by omega)]; rfl) (by omega) (by omega)⟩
      | 1, hi => simp at hi; subst hi; exact ⟨rfl, frP_le (by rw [hn, allF_n]; rfl) (by omega) (by omega)⟩
      | i + 2, hi => simp at hi
  · have g := goes39b hG qs A.n A.lk (bsF A) hT rfl hn hq
    refine (evF_pc hG (orc39 hG hT) mix enter39 (hs := []) (pol := pol39) (L := [(9, lcst (n39 qs A.n A.lk A.bx A.by_ A.t 0) (.exit 0) (x39 qs A.n A.lk [frP (Fq qs A.lk (bsF A) 0) 64 259, frP (Fq qs A.lk (bsF A) 1) 2211 649] 2 (Eq' qs A.lk (bsF A) 2).x (Eq' qs A.lk (bsF A) 2).y (Eq' qs A.lk (bsF A) 2).h (Eq' qs A.lk (bsF A) 2).t 7478 649 2))]) (lps1 (b := b39) (live := [1, 7, 8, 9, 10, 29, 30, 31]) (m := 0) (by kernel_rfl) (by kernel_rfl) (by kernel_rfl) (lcst_ok g)) (r := .tup [.fr 10 (.vals [frP (Fq qs A.lk (bsF A) 0) 64 259, frP (Fq qs A.lk (bsF A) 1) 2211 649, frP (Eq' qs A.lk (bsF A) 2) 7478 649]), .i .i64 0]) (hs' := []) ?_).le ?_ (.refl _)
    · refine (congrArg Tr.run (e39b A qs (Fq qs A.lk (bsF A) 0) (Fq qs A.lk (bsF A) 1) (Eq' qs A.lk (bsF A) 2) 2)).trans ?_
      rw [Tr.run_t (decP_iff.2 ⟨armPV A, A, by first | (rw [hq]; done) | (rw [hq]; rfl), .refl _, hA⟩), Tr.run_f (by decide), Tr.run_t (by decide), Tr.run_t (by decide), Tr.run_t (by decide), Tr.run_t z0, Tr.run_t isLS_t, Tr.run_t (by simp), Tr.run_ok]
      all_goals rfl
    · refine frs_le A qs _ (by rw [hn]; rfl) fun i v hi => ?_
      match i, hi with
      | 0, hi => simp at hi; subst hi; exact ⟨rfl, frP_le (by rw [hn, allF_lt (by omega)]; rfl) (by omega) (by omega)⟩
      | 1, hi => simp at hi; subst hi; exact ⟨rfl, frP_le (by rw [hn, allF_lt (by omega)]; rfl) (by omega) (by omega)⟩
      | 2, hi => simp at hi; subst hi; exact ⟨rfl, frP_le (by rw [hn, allF_n]; rfl) (by omega) (by omega)⟩
      | i + 3, hi => simp at hi
  · have g := goes39c hG qs A.n A.lk (bsF A) hT rfl hn hq
    refine (evF_pc hG (orc39 hG hT) mix enter39 (hs := []) (pol := pol39) (L := [(9, lcst (n39 qs A.n A.lk A.bx A.by_ A.t 0) (.exit 0) (x39 qs A.n A.lk [frP (Fq qs A.lk (bsF A) 0) 64 259, frP (Fq qs A.lk (bsF A) 1) 2211 649, frP (Fq qs A.lk (bsF A) 2) 7478 1429] 3 (Eq' qs A.lk (bsF A) 3).x (Eq' qs A.lk (bsF A) 3).y (Eq' qs A.lk (bsF A) 3).h (Eq' qs A.lk (bsF A) 3).t 18985 1429 3))]) (lps1 (b := b39) (live := [1, 7, 8, 9, 10, 29, 30, 31]) (m := 0) (by kernel_rfl) (by kernel_rfl) (by kernel_rfl) (lcst_ok g)) (r := .tup [.fr 10 (.vals [frP (Fq qs A.lk (bsF A) 0) 64 259, frP (Fq qs A.lk (bsF A) 1) 2211 649, frP (Fq qs A.lk (bsF A) 2) 7478 1429, frP (Eq' qs A.lk (bsF A) 3) 18985 1429]), .i .i64 0]) (hs' := []) ?_).le ?_ (.refl _)
    · refine (congrArg Tr.run (e39c A qs (Fq qs A.lk (bsF A) 0) (Fq qs A.lk (bsF A) 1) (Fq qs A.lk (bsF A) 2) (Eq' qs A.lk (bsF A) 3) 3)).trans ?_
      rw [Tr.run_t (decP_iff.2 ⟨armPV A, A, by first | (rw [hq]; done) | (rw [hq]; rfl), .refl _, hA⟩), Tr.run_f (by decide), Tr.run_t (by decide), Tr.run_t (by decide), Tr.run_t (by decide), Tr.run_t z0, Tr.run_t isLS_t, Tr.run_t (by simp), Tr.run_ok]
      all_goals rfl
    · refine frs_le A qs _ (by rw [hn]; rfl) fun i v hi => ?_
      match i, hi with
      | 0, hi => simp at hi; subst hi; exact ⟨rfl, frP_le (by rw [hn, allF_lt (by omega)]; rfl) (by omega) (by omega)⟩
      | 1, hi => simp at hi; subst hi; exact ⟨rfl, frP_le (by rw [hn, allF_lt (by omega)]; rfl) (by omega) (by omega)⟩
      | 2, hi => simp at hi; subst hi; exact ⟨rfl, frP_le (by rw [hn, allF_lt (by omega)]; rfl) (by omega) (by omega)⟩
      | 3, hi => simp at hi; subst hi; exact ⟨rfl, frP_le (by rw [hn, allF_n]; rfl) (by omega) (by omega)⟩
      | i + 4, hi => simp at hi
end Go.Proofs.YtnenjkgffapplaaDoor.PE
namespace Go.Proofs.YtnenjkgffapplaaDoor.PE
open Go
set_option maxRecDepth 100000
variable {G : World → (Nat → Prop) → Prop} (hG : GOk G)
theorem getD_map_range (f : Nat → Rat) {n j : Nat} (h : j < n) : ((List.range n).map f).getD j 0 = f j := by
  rw [List.getD_eq_getElem?_getD, List.getElem?_map, List.getElem?_range h]; rfl
theorem limX_V (v : PV) : limX (armD v) = true := by
  refine List.all_eq_true.2 fun j _ => ?_
  rw [Bool.and_eq_true]
  have small : ∀ (n : Int), n.natAbs < 1000 → smX (mkRat n (Int.toNat 3)) = true := fun n hn => smX_iff.2 ⟨Nat.lt_of_le_of_lt (mkRat_num_le n (by decide)) hn, Nat.lt_of_le_of_lt (mkRat_den_le n (by decide)) (by decide)⟩
  have g1 := nx_range (rs (itR6 j (rs (rs (rs v))))) (show (0 : Int) < 6 by omega)
  have g2 := nx_range (rs (rs (itR6 j (rs (rs (rs v)))))) (show (0 : Int) < 6 by omega)
  exact ⟨small _ (by omega), small _ (by omega)⟩
end Go.Proofs.YtnenjkgffapplaaDoor.PE
namespace Go.Proofs.YtnenjkgffapplaaDoor.PE
open Go
set_option maxRecDepth 100000
variable {G : World → (Nat → Prop) → Prop} (hG : GOk G)
noncomputable def R6 : Orc := [(36, g27), (38, g41), (39, g42), (65, g43)]
theorem cst_t {P : Program} {G : World → (Nat → Prop) → Prop} {g : Nat} {as' : List PV} {r : PV} (h : PC P G g as' [] r []) : SpecOK P G g (cst as' True r) := cst_ok fun _ => h
theorem all_at {b : Fr} {q L : Nat → Rat} {n i : Nat} (h : i ≤ n) : (allF b q L n i).x = (endR b q L i).x ∧ (allF b q L n i).y = (endR b q L i).y := by
  rcases Nat.lt_or_ge i n with h1 | h1
  · rw [allF_lt h1]; exact ⟨rfl, rfl⟩
  · obtain rfl : i = n := by omega
    rw [allF_n]; exact ⟨rfl, rfl⟩
include hG in
theorem pc39 (hT : TabG G) (A : Am) (hA : armB A = true) (qs : List Rat) (hq : qs.length = A.n) :
    PC Tryd.prog G 79 [armPV A, .lst 3 (.rats 64 qs)] [] (.tup [.fr 10 (.fn (A.n + 1) (fun i => frP (allF (bsF A) (qf qs) (fun j => (A.lk j).len) A.n i) 20000 1500)), .i .i64 0]) [] := by
  obtain ⟨r, hs', p, e⟩ := gk39 hG hT [armPV A, .lst 3 (.rats 64 qs)] [] (fun r hs' => .ok (.ret r hs')) (.ret (.tup [.fr 10 (frs A qs), .i .i64 0]) []) (by
    show (Tr.br _ _ _).run = _
    rw [Tr.run_t (decP_iff.2 ⟨⟨okA_arm hA, hq⟩, rfl⟩)]; rfl)
  cases e
  exact p
end Go.Proofs.YtnenjkgffapplaaDoor.PE
namespace Go.Proofs.YtnenjkgffapplaaDoor.PE
open Go
set_option maxRecDepth 100000
variable {G : World → (Nat → Prop) → Prop} (hG : GOk G)
noncomputable def q00 : List Rat := [mkRat (0 : Int) (Int.toNat (1 : Int)), mkRat (0 : Int) (Int.toNat (1 : Int))]
end Go.Proofs.YtnenjkgffapplaaDoor.PE
namespace Go.Proofs.YtnenjkgffapplaaDoor.PE
open Go
set_option maxRecDepth 100000
variable {G : World → (Nat → Prop) → Prop} (hG : GOk G)
theorem enter103 : Enters Tryd.prog 87 Tryd.f87 (bodyC Tryd.f87) := ⟨Tryd.func87, by kernel_rfl, rfl⟩
noncomputable def O103 : Orc := [(19, g21), (65, g43), (63, g71), (64, g72)]
theorem k103 (t v : Rat) (n m : Nat) : evF Tryd.prog O103 [] {} Tryd.f87 [.q t n, .q v m] [] retK =
  Tr.br (decide ((-72057594037927936 : Int) < (2 : Int)) && decide ((2 : Int) ≤ 9223372036854775807)) (.br (((Int.natAbs (2 : Int)).log2 + (1 : Nat) + m).ble 800000) (.br (decide ((-72057594037927936 : Int) < (1 : Int)) && decide ((1 : Int) ≤ 9223372036854775807)) (.br ((n + n).ble 800000) (.br (((Int.natAbs (1 : Int)).log2 + (1 : Nat) + (n + n) + (1 : Nat)).ble 800000) (.br (((Int.natAbs (2 : Int)).log2 + (1 : Nat) + m + ((Int.natAbs (1 : Int)).log2 + (1 : Nat) + (n + n) + (1 : Nat))).ble 800000) (.br (decide ((↑(1 : Int) : Rat) + t * t = (0 : Rat))) (.ok (.ret (PV.agg [PV.bl false, PV.s (ByteArray.mk #[]), PV.s (ByteArray.mk #[])]) [])) (.ok (.ret (PV.q ((↑(2 : Int) : Rat) * v / ((↑(1 : Int) : Rat) + t * t)) ((Int.natAbs (2 : Int)).log2 + (1 : Nat) + m + ((Int.natAbs (1 : Int)).log2 + (1 : Nat) + (n + n) + (1 : Nat)))) []))) (.no 1)) (.no 1)) (.no 1)) (.no 1)) (.no 1)) (.no 1) := by kernel_rfl
noncomputable def rtQ (t v : Rat) : Rat := hide (2 * v / (1 + t * t))
noncomputable def g103 : Spec := fun args hs K => match args, hs with
  | [.q t n, .q v m], [] => .br (Nat.ble (m + 2 * n + 4) 400000) (K (.q (rtQ t v) (m + 2 * n + 4)) []) (.no 1)
  | _, _ => .no 1
noncomputable def b102 : Code := (loopsOf (bodyC Tryd.f85)).getD 0 .skip
def pol102 : Pol := { live := [(7, [8, 9, 33, 34, 35])] }
theorem enter102 : Enters Tryd.prog 85 Tryd.f85 (bodyC Tryd.f85) := ⟨Tryd.func85, by kernel_rfl, rfl⟩
noncomputable def R102 : Orc := [(38, g41), (99, g83)]
noncomputable def O102 (A : Am) (qs : List Rat) (ff : Nat → Fr) (n : Nat) : Orc := [(79, cst [armPV A, .lst 3 (.rats 64 qs)] True (.tup [.fr 10 (.fn (n + 1) (fun i => frP (ff i) 20000 1500)), .i .i64 0])), (38, g41), (99, g83)]
noncomputable def l102 : LSpec := unr Tryd.prog R102 [] pol102 Tryd.f85.ntmps 0 [8, 9, 33, 34, 35] b102 4
theorem e102 (A : Am) (qs : List Rat) (ff : Nat → Fr) (n : Nat) : evF Tryd.prog (O102 A qs ff n) [(7, l102)] pol102 Tryd.f85 [armPV A, .lst 3 (.rats 64 qs)] [] retK =
  Tr.br (decP (isA [armPV A, PV.lst 3 (.rats 64 qs)] True [armPV A, PV.lst 3 (.rats 64 qs)])) (.br (((0 : Nat) + (n + (1 : Nat))).ble (n + (1 : Nat))) (.br (!decide ((0 : Int) = (0 : Int))) (.ok (.ret (PV.tup [PV.nil, PV.i .i64 (0 : Int)]) [])) (.br (ib ((↑(n + (1 : Nat)) : Int) - (1 : Int))) (.br (ix ((↑(n + (1 : Nat)) : Int) - (1 : Int)) ((↑(n + (1 : Nat)) : Int))) (.br (ib ((↑(n + (1 : Nat)) : Int) - (1 : Int))) (.br (decide ((0 : Int) ≤ (↑(n + (1 : Nat)) : Int) - (1 : Int)) && decide ((↑(n + (1 : Nat)) : Int) - (1 : Int) ≤ (↑(n + (1 : Nat)) : Int))) (.br (decide ((0 : Int) < (↑(((↑(n + (1 : Nat)) : Int) - (1 : Int)).toNat - (0 : Nat)) : Int))) (.br (ix ((0 : Int)) ((↑(((↑(n + (1 : Nat)) : Int) - (1 : Int)).toNat - (0 : Nat)) : Int))) (.br (((20000 : Nat) + (20000 : Nat) + (1 : Nat)).ble 800000) (.br (((20000 : Nat) + (20000 : Nat) + (1 : Nat)).ble 800000) (.br (((20000 : Nat) + (20000 : Nat) + (1 : Nat)).ble 800000) (.br (Nat.blt (0 : Nat) [PV.agg [PV.q (-((ff (((↑(n + (1 : Nat)) : Int) - (1 : Int)).toNat + (0 : Nat))).y - (ff (Int.toNat 0 + (0 : Nat) + (0 : Nat))).y)) 40001, PV.q ((ff (((↑(n + (1 : Nat)) : Int) - (1 : Int)).toNat + (0 : Nat))).x - (ff (Int.toNat 0 + (0 : Nat) + (0 : Nat))).x) 40001]].length && [PV.agg [PV.q (-((ff (((↑(n + (1 : Nat)) : Int) - (1 : Int)).toNat + (0 : Nat))).y - (ff (Int.toNat 0 + (0 : Nat) + (0 : Nat))).y)) 40001, PV.q ((ff (((↑(n + (1 : Nat)) : Int) - (1 : Int)).toNat + (0 : Nat))).x - (ff (Int.toNat 0 + (0 : Nat) + (0 : Nat))).x) 40001]].length.ble 4294967296) (.br (ib ((0 : Int) + (1 : Int))) (.br (decide ((0 : Int) + (1 : Int) < (↑(((↑(n + (1 : Nat)) : Int) - (1 : Int)).toNat - (0 : Nat)) : Int))) (.br (ix ((0 : Int) + (1 : Int)) ((↑(((↑(n + (1 : Nat)) : Int) - (1 : Int)).toNat - (0 : Nat)) : Int))) (.br (((20000 : Nat) + (20000 : Nat) + (1 : Nat)).ble 800000) (.br (((20000 : Nat) + (20000 : Nat) + (1 : Nat)).ble 800000) (.br (((20000 : Nat) + (20000 : Nat) + (1 : Nat)).ble 800000) (.br (([PV.agg [PV.q (-((ff (((↑(n + (1 : Nat)) : Int) - (1 : Int)).toNat + (0 : Nat))).y - (ff (Int.toNat 0 + (0 : Nat) + (0 : Nat))).y)) 40001, PV.q ((ff (((↑(n + (1 : Nat)) : Int) - (1 : Int)).toNat + (0 : Nat))).x - (ff (Int.toNat 0 + (0 : Nat) + (0 : Nat))).x) 40001]].length + [PV.agg [PV.q (-((ff (((↑(n + (1 : Nat)) : Int) - (1 : Int)).toNat + (0 : Nat))).y - (ff (((0 : Int) + (1 : Int)).toNat + (0 : Nat) + (0 : Nat))).y)) 40001, PV.q ((ff (((↑(n + (1 : Nat)) : Int) - (1 : Int)).toNat + (0 : Nat))).x - (ff (((0 : Int) + (1 : Int)).toNat + (0 : Nat) + (0 : Nat))).x) 40001]].length).ble 4294967296) (.br (ib ((0 : Int) + (1 : Int) + (1 : Int))) (.br (decide ((0 : Int) + (1 : Int) + (1 : Int) < (↑(((↑(n + (1 : Nat)) : Int) - (1 : Int)).toNat - (0 : Nat)) : Int))) (.br (ix ((0 : Int) + (1 : Int) + (1 : Int)) ((↑(((↑(n + (1 : Nat)) : Int) - (1 : Int)).toNat - (0 : Nat)) : Int))) (.br (((20000 : Nat) + (20000 : Nat) + (1 : Nat)).ble 800000) (.br (((20000 : Nat) + (20000 : Nat) + (1 : Nat)).ble 800000) (.br (((20000 : Nat) + (20000 : Nat) + (1 : Nat)).ble 800000) (.br (([PV.agg [PV.q (-((ff (((↑(n + (1 : Nat)) : Int) - (1 : Int)).toNat + (0 : Nat))).y - (ff (Int.toNat 0 + (0 : Nat) + (0 : Nat))).y)) 40001, PV.q ((ff (((↑(n + (1 : Nat)) : Int) - (1 : Int)).toNat + (0 : Nat))).x - (ff (Int.toNat 0 + (0 : Nat) + (0 : Nat))).x) 40001]].length + [PV.agg [PV.q (-((ff (((↑(n + (1 : Nat)) : Int) - (1 : Int)).toNat + (0 : Nat))).y - (ff (((0 : Int) + (1 : Int)).toNat + (0 : Nat) + (0 : Nat))).y)) 40001, PV.q ((ff (((↑(n + (1 : Nat)) : Int) - (1 : Int)).toNat + (0 : Nat))).x - (ff (((0 : Int) + (1 : Int)).toNat + (0 : Nat) + (0 : Nat))).x) 40001]].length + [PV.agg [PV.q (-((ff (((↑(n + (1 : Nat)) : Int) - (1 : Int)).toNat + (0 : Nat))).y - (ff (((0 : Int) + (1 : Int) + (1 : Int)).toNat + (0 : Nat) + (0 : Nat))).y)) 40001, PV.q ((ff (((↑(n + (1 : Nat)) : Int) - (1 : Int)).toNat + (0 : Nat))).x - (ff (((0 : Int) + (1 : Int) + (1 : Int)).toNat + (0 : Nat) + (0 : Nat))).x) 40001]].length).ble 4294967296) (.br (ib ((0 : Int) + (1 : Int) + (1 : Int) + (1 : Int))) (.br (decide ((0 : Int) + (1 : Int) + (1 : Int) + (1 : Int) < (↑(((↑(n + (1 : Nat)) : Int) - (1 : Int)).toNat - (0 : Nat)) : Int))) (.br (ix ((0 : Int) + (1 : Int) + (1 : Int) + (1 : Int)) ((↑(((↑(n + (1 : Nat)) : Int) - (1 : Int)).toNat - (0 : Nat)) : Int))) (.br (((20000 : Nat) + (20000 : Nat) + (1 : Nat)).ble 800000) (.br (((20000 : Nat) + (20000 : Nat) + (1 : Nat)).ble 800000) (.br (((20000 : Nat) + (20000 : Nat) + (1 : Nat)).ble 800000) (.br (([PV.agg [PV.q (-((ff (((↑(n + (1 : Nat)) : Int) - (1 : Int)).toNat + (0 : Nat))).y - (ff (Int.toNat 0 + (0 : Nat) + (0 : Nat))).y)) 40001, PV.q ((ff (((↑(n + (1 : Nat)) : Int) - (1 : Int)).toNat + (0 : Nat))).x - (ff (Int.toNat 0 + (0 : Nat) + (0 : Nat))).x) 40001]].length + [PV.agg [PV.q (-((ff (((↑(n + (1 : Nat)) : Int) - (1 : Int)).toNat + (0 : Nat))).y - (ff (((0 : Int) + (1 : Int)).toNat + (0 : Nat) + (0 : Nat))).y)) 40001, PV.q ((ff (((↑(n + (1 : Nat)) : Int) - (1 : Int)).toNat + (0 : Nat))).x - (ff (((0 : Int) + (1 : Int)).toNat + (0 : Nat) + (0 : Nat))).x) 40001]].length + [PV.agg [PV.q (-((ff (((↑(n + (1 : Nat)) : Int) - (1 : Int)).toNat + (0 : Nat))).y - (ff (((0 : Int) + (1 : Int) + (1 : Int)).toNat + (0 : Nat) + (0 : Nat))).y)) 40001, PV.q ((ff (((↑(n + (1 : Nat)) : Int) - (1 : Int)).toNat + (0 : Nat))).x - (ff (((0 : Int) + (1 : Int) + (1 : Int)).toNat + (0 : Nat) + (0 : Nat))).x) 40001]].length + [PV.agg [PV.q (-((ff (((↑(n + (1 : Nat)) : Int) - (1 : Int)).toNat + (0 : Nat))).y - (ff (((0 : Int) + (1 : Int) + (1 : Int) + (1 : Int)).toNat + (0 : Nat) + (0 : Nat))).y)) 40001, PV.q ((ff (((↑(n + (1 : Nat)) : Int) - (1 : Int)).toNat + (0 : Nat))).x - (ff (((0 : Int) + (1 : Int) + (1 : Int) + (1 : Int)).toNat + (0 : Nat) + (0 : Nat))).x) 40001]].length).ble 4294967296) (.br (ib ((0 : Int) + (1 : Int) + (1 : Int) + (1 : Int) + (1 : Int))) (.no 16) (.no 12002)) (.no 11002)) (.no 1)) (.no 1)) (.no 1)) (.no 9004)) (.ok (.ret (PV.tup [PV.fr 6 (.vals [PV.agg [PV.q (-((ff (((↑(n + (1 : Nat)) : Int) - (1 : Int)).toNat + (0 : Nat))).y - (ff (Int.toNat 0 + (0 : Nat) + (0 : Nat))).y)) 40001, PV.q ((ff (((↑(n + (1 : Nat)) : Int) - (1 : Int)).toNat + (0 : Nat))).x - (ff (Int.toNat 0 + (0 : Nat) + (0 : Nat))).x) 40001], PV.agg [PV.q (-((ff (((↑(n + (1 : Nat)) : Int) - (1 : Int)).toNat + (0 : Nat))).y - (ff (((0 : Int) + (1 : Int)).toNat + (0 : Nat) + (0 : Nat))).y)) 40001, PV.q ((ff (((↑(n + (1 : Nat)) : Int) - (1 : Int)).toNat + (0 : Nat))).x - (ff (((0 : Int) + (1 : Int)).toNat + (0 : Nat) + (0 : Nat))).x) 40001], PV.agg [PV.q (-((ff (((↑(n + (1 : Nat)) : Int) - (1 : Int)).toNat + (0 : Nat))).y - (ff (((0 : Int) + (1 : Int) + (1 : Int)).toNat + (0 : Nat) + (0 : Nat))).y)) 40001, PV.q ((ff (((↑(n + (1 : Nat)) : Int) - (1 : Int)).toNat + (0 : Nat))).x - (ff (((0 : Int) + (1 : Int) + (1 : Int)).toNat + (0 : Nat) + (0 : Nat))).x) 40001]]), PV.i .i64 (0 : Int)]) []))) (.no 12002)) (.no 11002)) (.no 1)) (.no 1)) (.no 1)) (.no 9004)) (.ok (.ret (PV.tup [PV.fr 6 (.vals [PV.agg [PV.q (-((ff (((↑(n + (1 : Nat)) : Int) - (1 : Int)).toNat + (0 : Nat))).y - (ff (Int.toNat 0 + (0 : Nat) + (0 : Nat))).y)) 40001, PV.q ((ff (((↑(n + (1 : Nat)) : Int) - (1 : Int)).toNat + (0 : Nat))).x - (ff (Int.toNat 0 + (0 : Nat) + (0 : Nat))).x) 40001], PV.agg [PV.q (-((ff (((↑(n + (1 : Nat)) : Int) - (1 : Int)).toNat + (0 : Nat))).y - (ff (((0 : Int) + (1 : Int)).toNat + (0 : Nat) + (0 : Nat))).y)) 40001, PV.q ((ff (((↑(n + (1 : Nat)) : Int) - (1 : Int)).toNat + (0 : Nat))).x - (ff (((0 : Int) + (1 : Int)).toNat + (0 : Nat) + (0 : Nat))).x) 40001]]), PV.i .i64 (0 : Int)]) []))) (.no 12002)) (.no 11002)) (.no 1)) (.no 1)) (.no 1)) (.no 9004)) (.ok (.ret (PV.tup [PV.fr 6 (.vals [PV.agg [PV.q (-((ff (((↑(n + (1 : Nat)) : Int) - (1 : Int)).toNat + (0 : Nat))).y - (ff (Int.toNat 0 + (0 : Nat) + (0 : Nat))).y)) 40001, PV.q ((ff (((↑(n + (1 : Nat)) : Int) - (1 : Int)).toNat + (0 : Nat))).x - (ff (Int.toNat 0 + (0 : Nat) + (0 : Nat))).x) 40001]]), PV.i .i64 (0 : Int)]) []))) (.no 12002)) (.no 11002)) (.no 1)) (.no 1)) (.no 1)) (.no 9004)) (.ok (.ret (PV.tup [PV.nil, PV.i .i64 (0 : Int)]) []))) (.no 7003)) (.no 7004)) (.no 5005)) (.no 5006))) (.no 2006)) (.no 1) := by kernel_rfl
include hG in
theorem orcg103 (hT : TabG G) : OrcOK Tryd.prog G O103 := .cons (gk21 hG hT) (.cons (gk43 hG hT) (.cons (gk71 hG) (.cons (gk72 hG hT) .nil)))
theorem lg2 : (Int.natAbs (2 : Int)).log2 = 1 := by decide
include hG in
theorem gk103 (hT : TabG G) : SpecOK Tryd.prog G 87 g103 := by
  refine spec_of hG (orcg103 hG hT) mix enter103 (L := []) (pol := {}) fun args hs K x h => ?_
  unfold g103 at h
  split at h
  case h_2 => cases h
  rename_i t n v m
  obtain ⟨hc, hr⟩ := Tr.of_br h
  rw [Nat.ble_eq] at hc
  refine ⟨LpsOK.none (by kernel_rfl), ?_⟩
  rw [k103]
  simp only [lg1, lg2, int1]
  rw [Tr.run_t (by decide), Tr.run_t (by rw [Nat.ble_eq]; omega), Tr.run_t (by decide), Tr.run_t (by rw [Nat.ble_eq]; omega), Tr.run_t (by rw [Nat.ble_eq]; omega), Tr.run_t (by rw [Nat.ble_eq]; omega), Tr.run_f (decide_eq_false (sq_pos1 t))]
  refine ⟨_, _, _, rfl, q_rle ?_ (by omega), hr⟩
  rw [rtQ, hide_eq]
  rfl
noncomputable def colX (ff : Nat → Fr) (n i : Nat) : Rat := -((ff n).y - (ff i).y)
noncomputable def colY (ff : Nat → Fr) (n i : Nat) : Rat := (ff n).x - (ff i).x
include hG in
theorem pc102 (hT : TabG G) (A : Am) (hA : armB A = true) (qs : List Rat) (hq : qs.length = A.n) :
    PC Tryd.prog G 85 [armPV A, .lst 3 (.rats 64 qs)] [] (.tup [.fr 6 (.fn A.n (fun i => .agg [.q (colX (allF (bsF A) (qf qs) (fun j => (A.lk j).len) A.n) A.n i) 40001, .q (colY (allF (bsF A) (qf qs) (fun j => (A.lk j).len) A.n) A.n i) 40001])), .i .i64 0]) [] := by
  have h5 := (armB_c hA).2.2.2.2.1
  have h6 := (armB_c hA).2.2.2.2.2.1
  have p39 := pc39 hG hT A hA qs hq
  generalize allF (bsF A) (qf qs) (fun j => (A.lk j).len) A.n = ff at *
  have key : ∃ vs : List PV, (evF Tryd.prog (O102 A qs ff A.n) [(7, l102)] pol102 Tryd.f85 [armPV A, .lst 3 (.rats 64 qs)] [] retK).run = some (.ret (.tup [.fr 6 (.vals vs), .i .i64 0]) []) ∧ vs.length = A.n ∧ ∀ (i : Nat) (v : PV), vs[i]? = some v → noRef 8 v = true ∧ VLe v (.agg [.q (colX ff A.n i) 40001, .q (colY ff A.n i) 40001]) := by
    have e1 : (((A.n + 1 : Nat) : Int) - 1).toNat + 0 = A.n := by omega
    have hcs : A.n = 1 ∨ A.n = 2 ∨ A.n = 3 := by omega
    rw [e102]
    rcases hcs with hn | hn | hn
    · simp only [hn]
      rw [Tr.run_t (decP_iff.2 ⟨rfl, trivial⟩), Tr.run_t (by decide), Tr.run_f (by decide)]
      repeat rw [Tr.run_t (by first | decide | rfl)]
      rw [Tr.run_f (by decide)]
      refine ⟨_, rfl, rfl, fun i v hi => ?_⟩
      match i, hi with
      | 0, hi => simp at hi; subst hi; exact ⟨rfl, .refl _⟩
      | i + 1, hi => simp at hi
    · simp only [hn]
      rw [Tr.run_t (decP_iff.2 ⟨rfl, trivial⟩), Tr.run_t (by decide), Tr.run_f (by decide)]
      repeat rw [Tr.run_t (by first | decide | rfl)]
      rw [Tr.run_f (by decide)]
      refine ⟨_, rfl, rfl, fun i v hi => ?_⟩
      match i, hi with
      | 0, hi => simp at hi; subst hi; exact ⟨rfl, .refl _⟩
      | 1, hi => simp at hi; subst hi; exact ⟨rfl, .refl _⟩
      | i + 2, hi => simp at hi
    · simp only [hn]
      rw [Tr.run_t (decP_iff.2 ⟨rfl, trivial⟩), Tr.run_t (by decide), Tr.run_f (by decide)]
      repeat rw [Tr.run_t (by first | decide | rfl)]
      rw [Tr.run_f (by decide)]
      refine ⟨_, rfl, rfl, fun i v hi => ?_⟩
      match i, hi with
      | 0, hi => simp at hi; subst hi; exact ⟨rfl, .refl _⟩
      | 1, hi => simp at hi; subst hi; exact ⟨rfl, .refl _⟩
      | 2, hi => simp at hi; subst hi; exact ⟨rfl, .refl _⟩
      | i + 3, hi => simp at hi
  obtain ⟨vs, k1, k2, k3⟩ := key
  exact (evF_pc hG (.cons (cst_t p39) (.cons (gk41 hG hT) (.cons (gk83 hG hT) .nil))) mix enter102 (pol := pol102) (L := [(7, l102)]) (lps1 (b := b102) (live := [8, 9, 33, 34, 35]) (sp := l102) (m := 0) (by kernel_rfl) (by kernel_rfl) (by kernel_rfl) (unr_ok hG (.cons (gk41 hG hT) (.cons (gk83 hG hT) .nil)) mix (LpsOK.none (by kernel_rfl)) 4)) k1).le (frs_le0 _ _ _ vs k2 k3) (.refl _)
theorem vle_tup {u v c : PV} (h : VLe u v) : VLe (.tup [u, c]) (.tup [v, c]) := by
  refine ⟨rfl, fun w S μ => ⟨fun cs hc => (by cases hc), fun x hx => ?_⟩⟩
  cases hx with
  | cell _ _ _ _ hc => cases hc
  | agg _ _ _ hv _ => cases hv
  | tup _ _ xs hl =>
    cases hl with
    | cons _ _ _ a l h1 h2 => exact .tup _ _ _ (.cons _ _ _ _ _ ((h.2 w S μ).2 _ h1) h2)
def sumR (f : Nat → Rat) : Nat → Rat
  | 0 => 0
  | n + 1 => sumR f n + f n
noncomputable def velX (cx : Nat → Rat) (qs vs : List Rat) (i : Nat) : Rat := cx i * rtQ (qs.getD i 0) (vs.getD i 0)
end Go.Proofs.YtnenjkgffapplaaDoor.PE
namespace Go.Proofs.YtnenjkgffapplaaDoor.PE
open Go
set_option maxRecDepth 100000
variable {G : World → (Nat → Prop) → Prop} (hG : GOk G)
noncomputable def q10 : List Rat := [mkRat (1 : Int) (Int.toNat (1 : Int)), mkRat (0 : Int) (Int.toNat (1 : Int))]
theorem move_x : sumR (velX (colX (allF (bsF A32) (qf q00) (fun j => (A32.lk j).len) 2) 2) q00 q10) 2 = mkRat (0 : Int) (Int.toNat (1 : Int)) := by
  have h0 := (all_at (b := bsF A32) (q := qf q00) (L := fun j => (A32.lk j).len) (n := 2) (i := 0) (by omega))
  have h1 := (all_at (b := bsF A32) (q := qf q00) (L := fun j => (A32.lk j).len) (n := 2) (i := 1) (by omega))
  have h2 := (all_at (b := bsF A32) (q := qf q00) (L := fun j => (A32.lk j).len) (n := 2) (i := 2) (by omega))
  show (0 : Rat) + velX _ _ _ 0 + velX _ _ _ 1 = _
  unfold velX colX
  rw [h0.2, h1.2, h2.2]
  simp only [endR, estep, fstep, thH, thT, cosR, sinR, ftT, rtQ, hide_eq]
  kernel_rfl
theorem move_y : sumR (velX (colY (allF (bsF A32) (qf q00) (fun j => (A32.lk j).len) 2) 2) q00 q10) 2 = mkRat (10 : Int) (Int.toNat (1 : Int)) := by
  have h0 := (all_at (b := bsF A32) (q := qf q00) (L := fun j => (A32.lk j).len) (n := 2) (i := 0) (by omega))
  have h1 := (all_at (b := bsF A32) (q := qf q00) (L := fun j => (A32.lk j).len) (n := 2) (i := 1) (by omega))
  have h2 := (all_at (b := bsF A32) (q := qf q00) (L := fun j => (A32.lk j).len) (n := 2) (i := 2) (by omega))
  show (0 : Rat) + velX _ _ _ 0 + velX _ _ _ 1 = _
  unfold velX colY
  rw [h0.1, h1.1, h2.1]
  simp only [endR, estep, fstep, thH, thT, cosR, sinR, ftT, rtQ, hide_eq]
  kernel_rfl
end Go.Proofs.YtnenjkgffapplaaDoor.PE
namespace Go.Proofs.YtnenjkgffapplaaDoor.PE
open Go
set_option maxRecDepth 100000
end Go.Proofs.YtnenjkgffapplaaDoor.PE
namespace Go.Proofs.YtnenjkgffapplaaDoor.PE
open Go
set_option maxRecDepth 100000
end Go.Proofs.YtnenjkgffapplaaDoor.PE
namespace Go.Proofs.YtnenjkgffapplaaDoor.PE
open Go
set_option maxRecDepth 100000
variable {G : World → (Nat → Prop) → Prop} (hG : GOk G)
theorem enterRank : Enters Tryd.prog 42 Tryd.f42 (bodyC Tryd.f42) := ⟨Tryd.func42, by kernel_rfl, rfl⟩
noncomputable def bRank : Code := (loopsOf (bodyC Tryd.f42)).getD 0 .skip
noncomputable def bRankI : Code := (loopsOf bRank).getD 0 .skip
def polRank : Pol := { live := [(4, [6, 7, 8, 19, 20, 21]), (9, [6, 7, 8, 10, 19, 20, 21, 40, 41, 42])] }
noncomputable def RRank : Orc := [(31, g26), (84, g97)]
def colC (n : Nat) (cx cy : Nat → Rat) : Cont := .fn n (fun i => .agg [.q (cx i) 40001, .q (cy i) 40001])
def oRank (n : Nat) (cx cy : Nat → Rat) (r i : Int) : LS := ⟨[.lst 6 (colC n cx cy), .i .i64 0, .i .i64 r, .lst 6 (colC n cx cy), .i .i64 n, .i .i64 i], []⟩
def iRank (n : Nat) (cx cy : Nat → Rat) (ux uy : Rat) (r i j : Int) : LS := ⟨[.lst 6 (colC n cx cy), .i .i64 0, .i .i64 r, .ptr 0 6 0 0 [], .lst 6 (colC n cx cy), .i .i64 n, .i .i64 i, .lst 6 (colC i.toNat cx cy), .i .i64 i, .i .i64 j], [some ⟨6, .vals [.agg [.q ux 40001, .q uy 40001]]⟩]⟩
theorem tRankI (n : Nat) (cx cy : Nat → Rat) (ux uy : Rat) (r i j : Int) : (evRound Tryd.prog RRank [] polRank Tryd.f42.ntmps 0 [6, 7, 8, 10, 19, 20, 21, 40, 41, 42] bRankI (iRank n cx cy ux uy r i j)).run =
  (Tr.br (decide (j < i)) (.br (ix (j) ((↑i.toNat : Int))) (.br (!decide (rcmp (ux * cy j.toNat - uy * cx j.toNat) (0 : Rat) = (0 : Int))) (.br (ib (j + (1 : Int))) (.ok (.out .normal (LS.mk [.lst 6 (.fn n fun (i : Nat) => .agg [.q (cx i) 40001, .q (cy i) 40001]), .i .i64 (0 : Int), .i .i64 (2 : Int), .ptr 0 6 0 0 [], .lst 6 (.fn n fun (i : Nat) => .agg [.q (cx i) 40001, .q (cy i) 40001]), .i .i64 (↑n : Int), .i .i64 i, .lst 6 (.fn i.toNat fun (i : Nat) => .agg [.q (cx i) 40001, .q (cy i) 40001]), .i .i64 i, .i .i64 (j + (1 : Int))] [some (.mk 6 (.vals [.agg [.q ux 40001, .q uy 40001]]))]))) (.no 14002)) (.br (ib (j + (1 : Int))) (.ok (.out .normal (LS.mk [.lst 6 (.fn n fun (i : Nat) => .agg [.q (cx i) 40001, .q (cy i) 40001]), .i .i64 (0 : Int), .i .i64 r, .ptr 0 6 0 0 [], .lst 6 (.fn n fun (i : Nat) => .agg [.q (cx i) 40001, .q (cy i) 40001]), .i .i64 (↑n : Int), .i .i64 i, .lst 6 (.fn i.toNat fun (i : Nat) => .agg [.q (cx i) 40001, .q (cy i) 40001]), .i .i64 i, .i .i64 (j + (1 : Int))] [some (.mk 6 (.vals [.agg [.q ux 40001, .q uy 40001]]))]))) (.no 14002))) (.no 11004)) (.ok (.out (.exit 2) (LS.mk [.lst 6 (.fn n fun (i : Nat) => .agg [.q (cx i) 40001, .q (cy i) 40001]), .i .i64 (0 : Int), .i .i64 r, .ptr 0 6 0 0 [], .lst 6 (.fn n fun (i : Nat) => .agg [.q (cx i) 40001, .q (cy i) 40001]), .i .i64 (↑n : Int), .i .i64 i, .lst 6 (.fn i.toNat fun (i : Nat) => .agg [.q (cx i) 40001, .q (cy i) 40001]), .i .i64 i, .i .i64 j] [some (.mk 6 (.vals [.agg [.q ux 40001, .q uy 40001]]))])))).run := by kernel_rfl
noncomputable def lRankI (n : Nat) (cx cy : Nat → Rat) (F : Int → Int) (i : Int) : LSpec := fun ls K => match ls with
  | ⟨[_, _, .i .i64 r, _, _, _, _, _, _, _], _⟩ => .br (decP (isLS (iRank n cx cy (cx i.toNat) (cy i.toNat) r i 0) ls)) (K (.exit 2) (iRank n cx cy (cx i.toNat) (cy i.toNat) (F r) i i)) (.no 1)
  | _ => .no 1
theorem tRank (n : Nat) (cx cy : Nat → Rat) (r i : Int) (F : Int → Int) : (evRound Tryd.prog RRank [(9, lRankI n cx cy F i)] polRank Tryd.f42.ntmps 0 [6, 7, 8, 19, 20, 21] bRank (oRank n cx cy r i)).run =
  (Tr.br (decide (i < (↑n : Int))) (.br (ix (i) ((↑n : Int))) (.br (!decide (rcmp (cx i.toNat) (0 : Rat) = (0 : Int))) (.br (decide ((0 : Int) ≤ i) && decide (i ≤ (↑n : Int))) (.br (decP (isLS (LS.mk [.lst 6 (.fn n fun (i : Nat) => .agg [.q (cx i) 40001, .q (cy i) 40001]), .i .i64 (0 : Int), .i .i64 (if (1 : Int) > r then (1 : Int) else r), .ptr 0 6 0 0 [], .lst 6 (.fn n fun (i : Nat) => .agg [.q (cx i) 40001, .q (cy i) 40001]), .i .i64 (↑n : Int), .i .i64 i, .lst 6 (.fn i.toNat fun (i : Nat) => .agg [.q (cx i) 40001, .q (cy i) 40001]), .i .i64 i, .i .i64 (0 : Int)] [some (.mk 6 (.vals [.agg [.q (cx i.toNat) 40001, .q (cy i.toNat) 40001]]))]) (LS.mk [.lst 6 (.fn n fun (i : Nat) => .agg [.q (cx i) 40001, .q (cy i) 40001]), .i .i64 (0 : Int), .i .i64 (if (1 : Int) > r then (1 : Int) else r), .ptr 0 6 0 0 [], .lst 6 (.fn n fun (i : Nat) => .agg [.q (cx i) 40001, .q (cy i) 40001]), .i .i64 (↑n : Int), .i .i64 i, .lst 6 (.fn (i.toNat - (0 : Nat)) fun (j : Nat) => .agg [.q (cx (j + (0 : Nat))) 40001, .q (cy (j + (0 : Nat))) 40001]), .i .i64 (↑(i.toNat - (0 : Nat)) : Int), .i .i64 (0 : Int)] [some (.mk 6 (.vals [.agg [.q (cx i.toNat) 40001, .q (cy i.toNat) 40001]]))]))) (.br (ib (i + (1 : Int))) (.ok (.out .normal (LS.mk [.lst 6 (.fn n fun (i : Nat) => .agg [.q (cx i) 40001, .q (cy i) 40001]), .i .i64 (0 : Int), .i .i64 (F (if (1 : Int) > r then (1 : Int) else r)), .lst 6 (.fn n fun (i : Nat) => .agg [.q (cx i) 40001, .q (cy i) 40001]), .i .i64 (↑n : Int), .i .i64 (i + (1 : Int))] []))) (.no 15002)) (.no 1)) (.no 9003)) (.br (!decide (rcmp (cy i.toNat) (0 : Rat) = (0 : Int))) (.br (decide ((0 : Int) ≤ i) && decide (i ≤ (↑n : Int))) (.br (decP (isLS (LS.mk [.lst 6 (.fn n fun (i : Nat) => .agg [.q (cx i) 40001, .q (cy i) 40001]), .i .i64 (0 : Int), .i .i64 (if (1 : Int) > r then (1 : Int) else r), .ptr 0 6 0 0 [], .lst 6 (.fn n fun (i : Nat) => .agg [.q (cx i) 40001, .q (cy i) 40001]), .i .i64 (↑n : Int), .i .i64 i, .lst 6 (.fn i.toNat fun (i : Nat) => .agg [.q (cx i) 40001, .q (cy i) 40001]), .i .i64 i, .i .i64 (0 : Int)] [some (.mk 6 (.vals [.agg [.q (cx i.toNat) 40001, .q (cy i.toNat) 40001]]))]) (LS.mk [.lst 6 (.fn n fun (i : Nat) => .agg [.q (cx i) 40001, .q (cy i) 40001]), .i .i64 (0 : Int), .i .i64 (if (1 : Int) > r then (1 : Int) else r), .ptr 0 6 0 0 [], .lst 6 (.fn n fun (i : Nat) => .agg [.q (cx i) 40001, .q (cy i) 40001]), .i .i64 (↑n : Int), .i .i64 i, .lst 6 (.fn (i.toNat - (0 : Nat)) fun (j : Nat) => .agg [.q (cx (j + (0 : Nat))) 40001, .q (cy (j + (0 : Nat))) 40001]), .i .i64 (↑(i.toNat - (0 : Nat)) : Int), .i .i64 (0 : Int)] [some (.mk 6 (.vals [.agg [.q (cx i.toNat) 40001, .q (cy i.toNat) 40001]]))]))) (.br (ib (i + (1 : Int))) (.ok (.out .normal (LS.mk [.lst 6 (.fn n fun (i : Nat) => .agg [.q (cx i) 40001, .q (cy i) 40001]), .i .i64 (0 : Int), .i .i64 (F (if (1 : Int) > r then (1 : Int) else r)), .lst 6 (.fn n fun (i : Nat) => .agg [.q (cx i) 40001, .q (cy i) 40001]), .i .i64 (↑n : Int), .i .i64 (i + (1 : Int))] []))) (.no 15002)) (.no 1)) (.no 9003)) (.br (decide ((0 : Int) ≤ i) && decide (i ≤ (↑n : Int))) (.br (decP (isLS (LS.mk [.lst 6 (.fn n fun (i : Nat) => .agg [.q (cx i) 40001, .q (cy i) 40001]), .i .i64 (0 : Int), .i .i64 r, .ptr 0 6 0 0 [], .lst 6 (.fn n fun (i : Nat) => .agg [.q (cx i) 40001, .q (cy i) 40001]), .i .i64 (↑n : Int), .i .i64 i, .lst 6 (.fn i.toNat fun (i : Nat) => .agg [.q (cx i) 40001, .q (cy i) 40001]), .i .i64 i, .i .i64 (0 : Int)] [some (.mk 6 (.vals [.agg [.q (cx i.toNat) 40001, .q (cy i.toNat) 40001]]))]) (LS.mk [.lst 6 (.fn n fun (i : Nat) => .agg [.q (cx i) 40001, .q (cy i) 40001]), .i .i64 (0 : Int), .i .i64 r, .ptr 0 6 0 0 [], .lst 6 (.fn n fun (i : Nat) => .agg [.q (cx i) 40001, .q (cy i) 40001]), .i .i64 (↑n : Int), .i .i64 i, .lst 6 (.fn (i.toNat - (0 : Nat)) fun (j : Nat) => .agg [.q (cx (j + (0 : Nat))) 40001, .q (cy (j + (0 : Nat))) 40001]), .i .i64 (↑(i.toNat - (0 : Nat)) : Int), .i .i64 (0 : Int)] [some (.mk 6 (.vals [.agg [.q (cx i.toNat) 40001, .q (cy i.toNat) 40001]]))]))) (.br (ib (i + (1 : Int))) (.ok (.out .normal (LS.mk [.lst 6 (.fn n fun (i : Nat) => .agg [.q (cx i) 40001, .q (cy i) 40001]), .i .i64 (0 : Int), .i .i64 (F r), .lst 6 (.fn n fun (i : Nat) => .agg [.q (cx i) 40001, .q (cy i) 40001]), .i .i64 (↑n : Int), .i .i64 (i + (1 : Int))] []))) (.no 15002)) (.no 1)) (.no 9003)))) (.no 6005)) (.ok (.out (.exit 0) (LS.mk [.lst 6 (.fn n fun (i : Nat) => .agg [.q (cx i) 40001, .q (cy i) 40001]), .i .i64 (0 : Int), .i .i64 r, .lst 6 (.fn n fun (i : Nat) => .agg [.q (cx i) 40001, .q (cy i) 40001]), .i .i64 (↑n : Int), .i .i64 i] [])))).run := by kernel_rfl
noncomputable def ORank (A : Am) (qs : List Rat) (n : Nat) (cx cy : Nat → Rat) : Orc := [(31, g26), (84, g97), (85, cst [armPV A, .lst 3 (.rats 64 qs)] True (.tup [.fr 6 (colC n cx cy), .i .i64 0]))]
theorem eRank (A : Am) (qs : List Rat) (n : Nat) (cx cy : Nat → Rat) (r : Int) : (evF Tryd.prog (ORank A qs n cx cy) [(4, lcst (oRank n cx cy 0 0) (.exit 0) (oRank n cx cy r n))] polRank Tryd.f42 [armPV A, .lst 3 (.rats 64 qs)] [] retK).run =
  (Tr.br (decP (isA [armPV A, .lst 3 (.rats 64 qs)] True [armPV A, .lst 3 (.rats 64 qs)])) (.br (((0 : Nat) + n).ble n) (.br (decP (isLS (LS.mk [.lst 6 (.fn n fun (i : Nat) => .agg [.q (cx i) 40001, .q (cy i) 40001]), .i .i64 (0 : Int), .i .i64 (0 : Int), .lst 6 (.fn n fun (i : Nat) => .agg [.q (cx i) 40001, .q (cy i) 40001]), .i .i64 (↑n : Int), .i .i64 (0 : Int)] []) (LS.mk [.lst 6 (.fn n fun (j : Nat) => .agg [.q (cx (j + (0 : Nat))) 40001, .q (cy (j + (0 : Nat))) 40001]), .i .i64 (0 : Int), .i .i64 (0 : Int), .lst 6 (.fn n fun (j : Nat) => .agg [.q (cx (j + (0 : Nat))) 40001, .q (cy (j + (0 : Nat))) 40001]), .i .i64 (↑n : Int), .i .i64 (0 : Int)] []))) (.ok (.ret (.tup [.i .i64 r, .i .i64 (0 : Int)]) [])) (.no 1)) (.no 2006)) (.no 1)).run := by kernel_rfl
def crR (cx cy : Nat → Rat) (i j : Nat) : Rat := cx i * cy j - cy i * cx j
def rkJ (cx cy : Nat → Rat) (i : Nat) (r : Int) : Nat → Int
  | 0 => r
  | j + 1 => if crR cx cy i j = 0 then rkJ cx cy i r j else 2
def rk1 (cx cy : Nat → Rat) (i : Nat) (r : Int) : Int := if cx i = 0 ∧ cy i = 0 then r else if (1 : Int) > r then (1 : Int) else r
def rkI (cx cy : Nat → Rat) : Nat → Int
  | 0 => 0
  | i + 1 => rkJ cx cy i (rk1 cx cy i (rkI cx cy i)) i
include hG in
theorem orcRank (hT : TabG G) : OrcOK Tryd.prog G RRank := .cons (gk26 hG hT) (.cons (gk97 hG hT) .nil)
include hG in
theorem goesRankI (hT : TabG G) (n : Nat) (cx cy : Nat → Rat) (r : Int) (i : Nat) (hi : i ≤ 3) :
    Goes (Rnd Tryd.prog G Tryd.f42.ntmps 0 [6, 7, 8, 10, 19, 20, 21, 40, 41, 42] bRankI) (iRank n cx cy (cx i) (cy i) r (i : Nat) 0) (.exit 2) (iRank n cx cy (cx i) (cy i) (rkJ cx cy i r i) (i : Nat) (i : Nat)) := by
  have w := Goes.count (R := Rnd Tryd.prog G Tryd.f42.ntmps 0 [6, 7, 8, 10, 19, 20, 21, 40, 41, 42] bRankI) (fun j => iRank n cx cy (cx i) (cy i) (rkJ cx cy i r j) (i : Nat) ((j : Nat) : Int)) (e := .exit 2) (ls' := iRank n cx cy (cx i) (cy i) (rkJ cx cy i r i) (i : Nat) (i : Nat)) (by simp) i 0
    (fun j _ hj => by
      refine round_ok hG (orcRank hG hT) mix (L := []) (pol := polRank) (O := RRank) (LpsOK.none (by kernel_rfl)) (by simp [iRank]) ?_
      rw [tRankI, Int.toNat_natCast, Int.toNat_natCast]
      by_cases hc : crR cx cy i j = 0
      · have hk : rkJ cx cy i r (j + 1) = rkJ cx cy i r j := by
          show (if crR cx cy i j = 0 then _ else _) = _
          rw [if_pos hc]
        have h0 : (!decide (rcmp (cx i * cy j - cy i * cx j) (0 : Rat) = (0 : Int))) = false := by
          rw [Bool.not_eq_false', decide_eq_true_eq]; exact rcmp_eq.2 hc
        rw [hk]
        repeat first | rw [Tr.run_t (by first | (simp only [Bool.and_eq_true, Bool.or_eq_true, decide_eq_true_eq, Nat.ble_eq, Nat.blt_eq, List.length_cons, List.length_nil, Bool.not_eq_true', decide_eq_false_iff_not]; omega) | exact h0 | exact decP_iff.2 ⟨rfl, trivial⟩ | exact decP_iff.2 rfl | exact decide_eq_true rfl | decide)] | rw [Tr.run_f (by first | (simp only [Bool.and_eq_false_iff, Bool.not_eq_false', decide_eq_true_eq, decide_eq_false_iff_not]; omega) | exact h0 | exact congrArg (!·) (decide_eq_true rfl) | decide)]
        rw [Tr.run_ok]
        rfl
      · have hk : rkJ cx cy i r (j + 1) = 2 := by
          show (if crR cx cy i j = 0 then _ else _) = _
          rw [if_neg hc]
        have h0 : (!decide (rcmp (cx i * cy j - cy i * cx j) (0 : Rat) = (0 : Int))) = true := by
          rw [Bool.not_eq_true', decide_eq_false_iff_not]; exact fun h => hc (rcmp_eq.1 h)
        rw [hk]
        repeat first | rw [Tr.run_t (by first | (simp only [Bool.and_eq_true, Bool.or_eq_true, decide_eq_true_eq, Nat.ble_eq, Nat.blt_eq, List.length_cons, List.length_nil, Bool.not_eq_true', decide_eq_false_iff_not]; omega) | exact h0 | exact decP_iff.2 ⟨rfl, trivial⟩ | exact decP_iff.2 rfl | exact decide_eq_true rfl | decide)] | rw [Tr.run_f (by first | (simp only [Bool.and_eq_false_iff, Bool.not_eq_false', decide_eq_true_eq, decide_eq_false_iff_not]; omega) | exact h0 | exact congrArg (!·) (decide_eq_true rfl) | decide)]
        rw [Tr.run_ok]
        rfl)
    (by
      refine round_ok hG (orcRank hG hT) mix (L := []) (pol := polRank) (O := RRank) (LpsOK.none (by kernel_rfl)) (by simp [iRank]) ?_
      rw [tRankI, Nat.zero_add, Int.toNat_natCast, Tr.run_f (decide_eq_false (by omega)), Tr.run_ok]
      rfl)
  exact w
include hG in
theorem lRankI_ok (hT : TabG G) (n : Nat) (cx cy : Nat → Rat) (i : Nat) (hi : i ≤ 3) : LoopOK Tryd.prog G Tryd.f42.ntmps 0 [6, 7, 8, 10, 19, 20, 21, 40, 41, 42] bRankI (lRankI n cx cy (fun r => rkJ cx cy i r i) (i : Nat)) := by
  intro ls K x hm h
  unfold lRankI at h
  split at h
  case h_2 => cases h
  obtain ⟨hc, hr⟩ := Tr.of_br h
  have hl := decP_iff.1 hc
  unfold isLS at hl
  rw [Int.toNat_natCast] at hl hr
  rw [hl]
  exact ⟨_, _, goes_ok (goesRankI hG hT n cx cy _ i hi), hr⟩
include hG in
theorem goesRank (hT : TabG G) (n : Nat) (hn : n ≤ 3) (cx cy : Nat → Rat) :
    Goes (Rnd Tryd.prog G Tryd.f42.ntmps 0 [6, 7, 8, 19, 20, 21] bRank) (oRank n cx cy 0 0) (.exit 0) (oRank n cx cy (rkI cx cy n) n) := by
  have w := Goes.count (R := Rnd Tryd.prog G Tryd.f42.ntmps 0 [6, 7, 8, 19, 20, 21] bRank) (fun i => oRank n cx cy (rkI cx cy i) ((i : Nat) : Int)) (e := .exit 0) (ls' := oRank n cx cy (rkI cx cy n) n) (by simp) n 0
    (fun i _ hi => by
      refine round_ok hG (orcRank hG hT) mix (L := [(9, lRankI n cx cy (fun r => rkJ cx cy i r i) (i : Nat))]) (pol := polRank) (O := RRank) (lps1 (b := bRankI) (live := [6, 7, 8, 10, 19, 20, 21, 40, 41, 42]) (by kernel_rfl) (by kernel_rfl) (by kernel_rfl) (lRankI_ok hG hT n cx cy i (by omega))) (by simp [oRank]) ?_
      rw [tRank, Int.toNat_natCast]
      show _ = some (Res.out .normal (oRank n cx cy (rkJ cx cy i (rk1 cx cy i (rkI cx cy i)) i) ((i + 1 : Nat) : Int)))
      by_cases hx : cx i = 0
      · have h0 : (!decide (rcmp (cx i) (0 : Rat) = (0 : Int))) = false := by
          rw [Bool.not_eq_false', decide_eq_true_eq]; exact rcmp_eq.2 hx
        by_cases hy : cy i = 0
        · have h1 : (!decide (rcmp (cy i) (0 : Rat) = (0 : Int))) = false := by
            rw [Bool.not_eq_false', decide_eq_true_eq]; exact rcmp_eq.2 hy
          rw [show rk1 cx cy i (rkI cx cy i) = rkI cx cy i by unfold rk1; rw [if_pos ⟨hx, hy⟩]]
          repeat first | rw [Tr.run_t (by first | (simp only [Bool.and_eq_true, Bool.or_eq_true, decide_eq_true_eq, Nat.ble_eq, Nat.blt_eq, List.length_cons, List.length_nil, Bool.not_eq_true', decide_eq_false_iff_not]; omega) | exact h0 | exact h1 | exact decP_iff.2 ⟨rfl, trivial⟩ | exact decP_iff.2 rfl | exact decide_eq_true rfl | decide)] | rw [Tr.run_f (by first | (simp only [Bool.and_eq_false_iff, Bool.not_eq_false', decide_eq_true_eq, decide_eq_false_iff_not]; omega) | exact h0 | exact h1 | exact congrArg (!·) (decide_eq_true rfl) | decide)]
          rw [Tr.run_ok]
          rfl
        · have h1 : (!decide (rcmp (cy i) (0 : Rat) = (0 : Int))) = true := by
            rw [Bool.not_eq_true', decide_eq_false_iff_not]; exact fun h => hy (rcmp_eq.1 h)
          rw [show rk1 cx cy i (rkI cx cy i) = (if (1 : Int) > rkI cx cy i then (1 : Int) else rkI cx cy i) by unfold rk1; rw [if_neg (fun h => hy h.2)]]
          repeat first | rw [Tr.run_t (by first | (simp only [Bool.and_eq_true, Bool.or_eq_true, decide_eq_true_eq, Nat.ble_eq, Nat.blt_eq, List.length_cons, List.length_nil, Bool.not_eq_true', decide_eq_false_iff_not]; omega) | exact h0 | exact h1 | exact decP_iff.2 ⟨rfl, trivial⟩ | exact decP_iff.2 rfl | exact decide_eq_true rfl | decide)] | rw [Tr.run_f (by first | (simp only [Bool.and_eq_false_iff, Bool.not_eq_false', decide_eq_true_eq, decide_eq_false_iff_not]; omega) | exact h0 | exact h1 | exact congrArg (!·) (decide_eq_true rfl) | decide)]
          rw [Tr.run_ok]
          rfl
      · have h0 : (!decide (rcmp (cx i) (0 : Rat) = (0 : Int))) = true := by
          rw [Bool.not_eq_true', decide_eq_false_iff_not]; exact fun h => hx (rcmp_eq.1 h)
        rw [show rk1 cx cy i (rkI cx cy i) = (if (1 : Int) > rkI cx cy i then (1 : Int) else rkI cx cy i) by unfold rk1; rw [if_neg (fun h => hx h.1)]]
        repeat first | rw [Tr.run_t (by first | (simp only [Bool.and_eq_true, Bool.or_eq_true, decide_eq_true_eq, Nat.ble_eq, Nat.blt_eq, List.length_cons, List.length_nil, Bool.not_eq_true', decide_eq_false_iff_not]; omega) | exact h0 | exact decP_iff.2 ⟨rfl, trivial⟩ | exact decP_iff.2 rfl | exact decide_eq_true rfl | decide)] | rw [Tr.run_f (by first | (simp only [Bool.and_eq_false_iff, Bool.not_eq_false', decide_eq_true_eq, decide_eq_false_iff_not]; omega) | exact h0 | exact congrArg (!·) (decide_eq_true rfl) | decide)]
        rw [Tr.run_ok]
        rfl)
    (by
      refine round_ok hG (orcRank hG hT) mix (L := [(9, lRankI n cx cy (fun r => rkJ cx cy n r n) (n : Nat))]) (pol := polRank) (O := RRank) (lps1 (b := bRankI) (live := [6, 7, 8, 10, 19, 20, 21, 40, 41, 42]) (by kernel_rfl) (by kernel_rfl) (by kernel_rfl) (lRankI_ok hG hT n cx cy n hn)) (by simp [oRank]) ?_
      rw [Nat.zero_add, tRank, Tr.run_f (decide_eq_false (by omega)), Tr.run_ok]
      rfl)
  exact w
include hG in
theorem pcRank (hT : TabG G) (A : Am) (hA : armB A = true) (qs : List Rat) (hq : qs.length = A.n) :
    PC Tryd.prog G 42 [armPV A, .lst 3 (.rats 64 qs)] [] (.tup [.i .i64 (rkI (colX (allF (bsF A) (qf qs) (fun j => (A.lk j).len) A.n) A.n) (colY (allF (bsF A) (qf qs) (fun j => (A.lk j).len) A.n) A.n) A.n), .i .i64 0]) [] := by
  have p := pc102 hG hT A hA qs hq
  have h6 := (armB_c hA).2.2.2.2.2.1
  generalize colX (allF (bsF A) (qf qs) (fun j => (A.lk j).len) A.n) A.n = cx at *
  generalize colY (allF (bsF A) (qf qs) (fun j => (A.lk j).len) A.n) A.n = cy at *
  refine evF_pc hG (.cons (gk26 hG hT) (.cons (gk97 hG hT) (.cons (cst_t p) .nil))) mix enterRank (L := [(4, lcst (oRank A.n cx cy 0 0) (.exit 0) (oRank A.n cx cy (rkI cx cy A.n) A.n))]) (pol := polRank) (lps1n (b := bRank) (b' := bRankI) (live := [6, 7, 8, 19, 20, 21]) (m := 0) (by kernel_rfl) (by kernel_rfl) (by kernel_rfl) (by kernel_rfl) (lcst_ok (goesRank hG hT A.n h6 cx cy))) ?_
  refine (eRank A qs A.n cx cy _).trans ?_
  repeat first | rw [Tr.run_t (by first | (simp only [Bool.and_eq_true, Bool.or_eq_true, decide_eq_true_eq, Nat.ble_eq, Nat.blt_eq, List.length_cons, List.length_nil, Bool.not_eq_true', decide_eq_false_iff_not]; omega) | exact decP_iff.2 ⟨rfl, trivial⟩ | exact decP_iff.2 rfl | exact decide_eq_true rfl | decide)] | rw [Tr.run_f (by first | (simp only [Bool.and_eq_false_iff, Bool.not_eq_false', decide_eq_true_eq, decide_eq_false_iff_not]; omega) | exact congrArg (!·) (decide_eq_true rfl) | decide)]
  rw [Tr.run_ok]
end Go.Proofs.YtnenjkgffapplaaDoor.PE
namespace Go.Proofs.YtnenjkgffapplaaDoor.PE
open Go
set_option maxRecDepth 100000
theorem rk1_le (cx cy : Nat → Rat) (i : Nat) (r : Int) (h : r ≤ 2) : rk1 cx cy i r ≤ 2 := by
  unfold rk1; split
  · exact h
  · split <;> omega
theorem rkJ_le (cx cy : Nat → Rat) (i : Nat) (r : Int) (h : r ≤ 2) : ∀ j, rkJ cx cy i r j ≤ 2
  | 0 => h
  | j + 1 => by
    show (if crR cx cy i j = 0 then rkJ cx cy i r j else 2) ≤ 2
    split
    · exact rkJ_le cx cy i r h j
    · omega
theorem rkI_le (cx cy : Nat → Rat) : ∀ n, rkI cx cy n ≤ 2
  | 0 => by show (0 : Int) ≤ 2; omega
  | n + 1 => rkJ_le _ _ _ _ (rk1_le _ _ _ _ (rkI_le cx cy n)) _
structure NulP (cx cy : Nat → Rat) (n : Nat) (ws : List Rat) : Prop where
  len : ws.length = n
  sx : sumR (fun i => cx i * ws.getD i 0) n = 0
  sy : sumR (fun i => cy i * ws.getD i 0) n = 0
  nz : ∃ i, i < n ∧ ws.getD i 0 ≠ 0
  rk : rkI cx cy n < n
theorem sum1 (f : Nat → Rat) : sumR f 1 = f 0 := by show 0 + f 0 = f 0; grind
theorem sum2 (f : Nat → Rat) : sumR f 2 = f 0 + f 1 := by show 0 + f 0 + f 1 = _; grind
theorem sum3 (f : Nat → Rat) : sumR f 3 = f 0 + f 1 + f 2 := by show 0 + f 0 + f 1 + f 2 = _; grind
theorem one_ne : (1 : Rat) ≠ 0 := by decide
theorem rk_z1 {cx cy : Nat → Rat} (hx : cx 0 = 0) (hy : cy 0 = 0) : rkI cx cy 1 < 1 := by
  show rk1 cx cy 0 0 < 1
  unfold rk1; rw [if_pos ⟨hx, hy⟩]; omega
theorem rk_2lt {cx cy : Nat → Rat} (h : crR cx cy 1 0 = 0) : rkI cx cy 2 < 2 := by
  show rkJ cx cy 1 (rk1 cx cy 1 (rkI cx cy 1)) 1 < 2
  show (if crR cx cy 1 0 = 0 then rk1 cx cy 1 (rkI cx cy 1) else 2) < 2
  rw [if_pos h]
  have h1 : rkI cx cy 1 ≤ 1 := by
    show rk1 cx cy 0 0 ≤ 1
    unfold rk1; split
    · omega
    · split <;> omega
  unfold rk1; split
  · omega
  · split <;> omega
theorem rk_3lt (cx cy : Nat → Rat) : rkI cx cy 3 < 3 := by have := rkI_le cx cy 3; omega
theorem nul_z {cx cy : Nat → Rat} {n i : Nat} (h1 : 1 ≤ n) (h3 : n ≤ 3) (hi : i < n) (hx : cx i = 0) (hy : cy i = 0) : NulP cx cy n ((List.replicate n 0).set i 1) := by
  have hn : n = 1 ∨ n = 2 ∨ n = 3 := by omega
  rcases hn with rfl | rfl | rfl
  · obtain rfl : i = 0 := by omega
    refine ⟨rfl, ?_, ?_, ⟨0, by omega, one_ne⟩, rk_z1 hx hy⟩
    · rw [sum1]; show cx 0 * 1 = 0; grind
    · rw [sum1]; show cy 0 * 1 = 0; grind
  · have hi2 : i = 0 ∨ i = 1 := by omega
    have hc : crR cx cy 1 0 = 0 := by unfold crR; rcases hi2 with rfl | rfl <;> grind
    rcases hi2 with rfl | rfl
    · refine ⟨rfl, ?_, ?_, ⟨0, by omega, one_ne⟩, rk_2lt hc⟩
      · rw [sum2]; show cx 0 * 1 + cx 1 * 0 = 0; grind
      · rw [sum2]; show cy 0 * 1 + cy 1 * 0 = 0; grind
    · refine ⟨rfl, ?_, ?_, ⟨1, by omega, one_ne⟩, rk_2lt hc⟩
      · rw [sum2]; show cx 0 * 0 + cx 1 * 1 = 0; grind
      · rw [sum2]; show cy 0 * 0 + cy 1 * 1 = 0; grind
  · have hi2 : i = 0 ∨ i = 1 ∨ i = 2 := by omega
    rcases hi2 with rfl | rfl | rfl
    · refine ⟨rfl, ?_, ?_, ⟨0, by omega, one_ne⟩, rk_3lt _ _⟩
      · rw [sum3]; show cx 0 * 1 + cx 1 * 0 + cx 2 * 0 = 0; grind
      · rw [sum3]; show cy 0 * 1 + cy 1 * 0 + cy 2 * 0 = 0; grind
    · refine ⟨rfl, ?_, ?_, ⟨1, by omega, one_ne⟩, rk_3lt _ _⟩
      · rw [sum3]; show cx 0 * 0 + cx 1 * 1 + cx 2 * 0 = 0; grind
      · rw [sum3]; show cy 0 * 0 + cy 1 * 1 + cy 2 * 0 = 0; grind
    · refine ⟨rfl, ?_, ?_, ⟨2, by omega, one_ne⟩, rk_3lt _ _⟩
      · rw [sum3]; show cx 0 * 0 + cx 1 * 0 + cx 2 * 1 = 0; grind
      · rw [sum3]; show cy 0 * 0 + cy 1 * 0 + cy 2 * 1 = 0; grind
theorem nul_p {cx cy : Nat → Rat} {r : Rat} (hc : crR cx cy 0 1 = 0) (h : (¬ cx 1 = 0 ∧ r = cx 0 / cx 1) ∨ (cx 1 = 0 ∧ ¬ cy 1 = 0 ∧ r = cy 0 / cy 1)) :
    cx 0 * 1 + cx 1 * (-r) = 0 ∧ cy 0 * 1 + cy 1 * (-r) = 0 := by
  unfold crR at hc
  rcases h with ⟨h1, rfl⟩ | ⟨h1, h2, rfl⟩
  · constructor
    · grind
    · have e : cy 0 * 1 + cy 1 * -(cx 0 / cx 1) = -(cx 0 * cy 1 - cy 0 * cx 1) / cx 1 := by grind
      rw [e, hc]; grind
  · have e0 : cx 0 = 0 := by
      rw [h1] at hc
      have : cx 0 * cy 1 = 0 := by grind
      exact (Rat.mul_eq_zero.1 this).resolve_right h2
    rw [h1, e0]
    constructor
    · grind
    · grind
theorem nul_p2 {cx cy : Nat → Rat} {r : Rat} (hc : crR cx cy 0 1 = 0) (h : (¬ cx 1 = 0 ∧ r = cx 0 / cx 1) ∨ (cx 1 = 0 ∧ ¬ cy 1 = 0 ∧ r = cy 0 / cy 1)) : NulP cx cy 2 [1, -r] := by
  obtain ⟨a, b⟩ := nul_p hc h
  refine ⟨rfl, ?_, ?_, ⟨0, by omega, one_ne⟩, rk_2lt (by unfold crR at *; grind)⟩
  · rw [sum2]; exact a
  · rw [sum2]; exact b
theorem nul_p3 {cx cy : Nat → Rat} {r : Rat} (hc : crR cx cy 0 1 = 0) (h : (¬ cx 1 = 0 ∧ r = cx 0 / cx 1) ∨ (cx 1 = 0 ∧ ¬ cy 1 = 0 ∧ r = cy 0 / cy 1)) : NulP cx cy 3 [1, -r, 0] := by
  obtain ⟨a, b⟩ := nul_p hc h
  refine ⟨rfl, ?_, ?_, ⟨0, by omega, one_ne⟩, rk_3lt _ _⟩
  · rw [sum3]; show cx 0 * 1 + cx 1 * (-r) + cx 2 * 0 = 0; rw [a]; grind
  · rw [sum3]; show cy 0 * 1 + cy 1 * (-r) + cy 2 * 0 = 0; rw [b]; grind
theorem nul_3 {cx cy : Nat → Rat} (hc : ¬ crR cx cy 0 1 = 0) : NulP cx cy 3 [crR cx cy 1 2, crR cx cy 2 0, crR cx cy 0 1] := by
  refine ⟨rfl, ?_, ?_, ⟨2, by omega, hc⟩, rk_3lt _ _⟩
  · rw [sum3]; show cx 0 * crR cx cy 1 2 + cx 1 * crR cx cy 2 0 + cx 2 * crR cx cy 0 1 = 0; unfold crR; grind
  · rw [sum3]; show cy 0 * crR cx cy 1 2 + cy 1 * crR cx cy 2 0 + cy 2 * crR cx cy 0 1 = 0; unfold crR; grind
theorem full_1 {cx cy : Nat → Rat} (h : ¬ (cx 0 = 0 ∧ cy 0 = 0)) : rkI cx cy 1 = 1 := by
  show rk1 cx cy 0 0 = 1
  unfold rk1; rw [if_neg h]; rfl
theorem full_2 {cx cy : Nat → Rat} (hc : ¬ crR cx cy 0 1 = 0) : rkI cx cy 2 = 2 := by
  show (if crR cx cy 1 0 = 0 then rk1 cx cy 1 (rkI cx cy 1) else 2) = 2
  rw [if_neg (fun h => hc (by unfold crR at *; grind))]
theorem rt_inv (t w : Rat) : rtQ t (w / rtQ t 1) = w := by
  rw [rtQ, rtQ, hide_eq, hide_eq]
  have h := sq_pos1 t
  generalize 1 + t * t = d at *
  grind
theorem rt_ne (t : Rat) : ¬ rtQ t 1 = 0 := by
  rw [rtQ, hide_eq]
  have h := sq_pos1 t
  generalize 1 + t * t = d at *
  intro e
  have : (2 : Rat) * 1 / d * d = 2 := by grind
  rw [e, Rat.zero_mul] at this
  exact absurd this (by decide)
noncomputable def stV (qs ws : List Rat) (i : Nat) : Rat := hide (ws.getD i 0 / rtQ (qs.getD i 0) 1)
theorem st_vel {c : Nat → Rat} {qs ws vs : List Rat} {n : Nat} (h : ∀ i, i < n → vs.getD i 0 = stV qs ws i) : ∀ k, k ≤ n → sumR (velX c qs vs) k = sumR (fun i => c i * ws.getD i 0) k
  | 0, _ => rfl
  | k + 1, hk => by
    show sumR (velX c qs vs) k + velX c qs vs k = sumR (fun i => c i * ws.getD i 0) k + c k * ws.getD k 0
    rw [st_vel h k (by omega)]
    unfold velX
    rw [h k (by omega), stV, hide_eq, rt_inv]
theorem st_nz {qs ws : List Rat} {i : Nat} (h : ws.getD i 0 ≠ 0) : stV qs ws i ≠ 0 := by
  intro e
  have := rt_inv (qs.getD i 0) (ws.getD i 0)
  rw [stV, hide_eq] at e
  rw [e] at this
  apply h
  rw [← this, rtQ, hide_eq]
  grind
end Go.Proofs.YtnenjkgffapplaaDoor.PE
namespace Go.Proofs.YtnenjkgffapplaaDoor.PE
open Go
set_option maxRecDepth 100000
variable {G : World → (Nat → Prop) → Prop} (hG : GOk G)
theorem ArgsLe.ofL : ∀ {us vs : List PV}, VLeL us vs → ArgsLe us vs
  | [], [], _ => .nil
  | [], v :: vs, h => by have := h.1; simp at this
  | u :: us, [], h => by have := h.1; simp at this
  | u :: us, v :: vs, h => .cons (h.2 0 u v rfl rfl) (ArgsLe.ofL ⟨by have := h.1; simpa using this, fun j a b e1 e2 => h.2 (j + 1) a b e1 e2⟩)
theorem VLe.tup {us vs : List PV} (h : VLeL us vs) : VLe (.tup us) (.tup vs) := by
  refine ⟨rfl, fun w S μ => ⟨fun cs hc => (by cases hc), fun x hx => ?_⟩⟩
  cases hx with
  | cell _ _ _ _ hc => cases hc
  | agg _ _ _ hv _ => cases hv
  | tup _ _ xs hl => exact .tup _ _ _ (ArgsLe.ofL h w S μ xs hl)
end Go.Proofs.YtnenjkgffapplaaDoor.PE
namespace Go.Proofs.YtnenjkgffapplaaDoor.PE
open Go
set_option maxRecDepth 100000
variable {G : World → (Nat → Prop) → Prop} (hG : GOk G)
theorem rats_le (e : Nat) {n m : Nat} (xs : List Rat) (h : n ≤ m) : VLe (.lst e (.rats n xs)) (.lst e (.rats m xs)) := VLe.lst rfl fun i _ => (q_rle (x := xs.getD i 0) rfl h).v 0
theorem ratsK_le (e : Nat) {n m : Nat} (xs : List Rat) (h : n ≤ m) : KLe ⟨e, .rats n xs⟩ ⟨e, .rats m xs⟩ := by
  intro w S μ a z hb
  obtain ⟨c, T, cs, h1, h2, h3, h4, h5, h6⟩ := hb
  exact ⟨c, T, cs, h1, h2, h3, fun i hi => (((q_rle (x := xs.getD i 0) rfl h).v 0).2 w S _).1 _ (h4 i hi), h5, h6⟩
theorem frrats_le (e : Nat) {n m : Nat} (xs : List Rat) (h : n ≤ m) : RLe (.fr e (.rats n xs)) (.fr e (.rats m xs)) := ⟨fun _ => .refl _, fun _ => KsLe.one (ratsK_le e xs h)⟩
def c71 : Spec := fun args hs K => match args, hs with
  | [.i .i64 n], [] => .br (decide (-1000000000 < n) && decide (n < 1000000000)) (K (.q (n : Rat) 64) []) (.no 1)
  | _, _ => .no 1
include hG in
theorem ck71 : SpecOK Tryd.prog G 63 c71 := by
  intro args hs K x h
  unfold c71 at h
  split at h
  case h_2 => cases h
  rename_i n
  obtain ⟨hc, hr⟩ := Tr.of_br h
  simp only [Bool.and_eq_true, decide_eq_true_eq] at hc
  refine ⟨_, _, (pc_spec (gk71 hG) (args := [.i .i64 n]) (r := .q (n : Rat) (Nat.log2 n.natAbs + 1)) (hs' := []) ?_).le (q_rle rfl ?_) (.refl _), hr⟩
  · show (Tr.br _ _ _).run = _
    rw [Tr.run_t (by simp only [Bool.and_eq_true, decide_eq_true_eq]; omega)]
    rfl
  · have h1 : n.natAbs < 2 ^ 63 := by omega
    by_cases h0 : n.natAbs = 0
    · rw [h0]; decide
    · have := (Nat.log2_lt h0).2 h1
      omega
end Go.Proofs.YtnenjkgffapplaaDoor.PE
namespace Go.Proofs.YtnenjkgffapplaaDoor.PE
open Go
set_option maxRecDepth 100000
variable {G : World → (Nat → Prop) → Prop} (hG : GOk G)
def nz72 (y : Rat) : Prop := ¬ y = 0
noncomputable def c72 : Spec := fun args hs K => match args, hs with
  | [.q x n, .q y m], [] => .br (decP (nz72 y)) (.br (Nat.ble (n + m) 800000) (K (.tup [.q (x / y) (n + m), .i .i64 0]) []) (.no 1)) (.no 1)
  | _, _ => .no 1
include hG in
theorem ck72 (hT : TabG G) : SpecOK Tryd.prog G 64 c72 := by
  intro args hs K x h
  unfold c72 at h
  split at h
  case h_2 => cases h
  rename_i x n y m
  obtain ⟨hc, hr⟩ := Tr.of_br h
  obtain ⟨hb, hr⟩ := Tr.of_br hr
  exact ⟨_, _, pc_spec (gk72 hG hT) ((Tr.run_t hb).trans ((Tr.run_f (decide_eq_false (decP_iff.1 hc))).trans rfl)), hr⟩
end Go.Proofs.YtnenjkgffapplaaDoor.PE
