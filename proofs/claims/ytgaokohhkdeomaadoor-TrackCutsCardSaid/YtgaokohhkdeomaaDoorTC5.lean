/-
  Part 5 of the proof: contracts of the program's functions. Conditions: those of the theorems below.
-/
import Derived.Test.YtgaokohhkdeomaaDoorTC4
import Derived.Test.YtgaokohhkdeomaaDoorTC2
set_option linter.all false
namespace Go.Proofs.YtgaokohhkdeomaaDoor.PE
open Go
set_option maxRecDepth 100000
variable {G : World → (Nat → Prop) → Prop} (hG : GOk G)
structure Lk where
  len : Rat
  low : Rat
  high : Rat
  spd : Rat
  brk : Rat
  np : Nat
  px : Nat → Rat
  py : Nat → Rat
def lkPV (d : Lk) : PV := .agg [.q d.len 64, .q d.low 64, .q d.high 64, .q d.spd 64, .q d.brk 64, .lst 6 (.fn d.np (pv d.px d.py))]
def lkB (d : Lk) : Bool := smQ d.len && smQ d.low && smQ d.high && smQ d.spd && smQ d.brk && decide (0 < d.len) && decide (d.low < d.high) && decide (0 < d.spd) && decide (0 < d.brk) && polyB d.np d.px d.py
noncomputable def b96 : Code := (loopsOf (bodyC Tryd.f96)).getD 0 .skip
def pol96 : Pol := { live := [(9, [2, 50, 51, 52])] }
noncomputable def O96 : Orc := [(55, s26), (38, s27), (95, s95), (59, s126)]
theorem enter96 : Enters Tryd.prog 96 Tryd.f96 (bodyC Tryd.f96) := ⟨Tryd.func96, by kernel_rfl, rfl⟩
def st96 (n : Nat) (px py : Nat → Rat) (i : Int) : LS := ⟨[.i .i64 0, .lst 6 (.fn n (pv px py)), .i .i64 n, .i .i64 i], []⟩
theorem r96 (n : Nat) (px py : Nat → Rat) (i : Int) : evRound Tryd.prog O96 [] pol96 Tryd.f96.ntmps 0 [2, 50, 51, 52] b96 (st96 n px py i) =
  Tr.br (decide (i < (↑n : Int))) (.br (ix (i) ((↑n : Int))) (.br (decide ([px i.toNat, py i.toNat].length ≤ (1073741824 : Nat)) && [px i.toNat, py i.toNat].all smQ) (.br (ib (i + (1 : Int))) (.ok (.out .normal (LS.mk [.i .i64 (0 : Int), .lst 6 (.fn n fun (a : Nat) => .agg [.q (px a) 64, .q (py a) 64]), .i .i64 (↑n : Int), .i .i64 (i + (1 : Int))] []))) (.no 14002)) (.no 1)) (.no 11004)) (.ok (.out (.exit 0) (LS.mk [.i .i64 (0 : Int), .lst 6 (.fn n fun (a : Nat) => .agg [.q (px a) 64, .q (py a) 64]), .i .i64 (↑n : Int), .i .i64 i] []))) := by kernel_rfl
def Pl96 (ls : LS) : Prop := ∃ n px py, ls = st96 n px py 0 ∧ polyB n px py = true
noncomputable def l96 : LSpec := fun ls K => .br (decP (Pl96 ls)) (K (.exit 0) ⟨ls.t.set 3 (ls.t.getD 2 .any), ls.h⟩) (.no 1)
theorem e96 (d : Lk) : evF Tryd.prog O96 [(9, l96)] pol96 Tryd.f96 [lkPV d] [] retK =
  Tr.br (decide ([d.len, d.low, d.high, d.spd, d.brk].length ≤ (1073741824 : Nat)) && [d.len, d.low, d.high, d.spd, d.brk].all smQ) (.br (s64 d.len) (.br (decide (rcmp d.len (0 : Rat) ≤ (0 : Int))) (.ok (.ret (.i .i64 (1 : Int)) [])) (.br (s32 d.low && s32 d.high) (.br (decide ((0 : Int) ≤ rcmp d.low d.high)) (.ok (.ret (.i .i64 (1 : Int)) [])) (.br (s64 d.spd) (.br (decide (rcmp d.spd (0 : Rat) ≤ (0 : Int))) (.ok (.ret (.i .i64 (1 : Int)) [])) (.br (s64 d.brk) (.br (decide (rcmp d.brk (0 : Rat) ≤ (0 : Int))) (.ok (.ret (.i .i64 (1 : Int)) [])) (.br (decP (P135 [.lst 6 (.fn d.np fun (a : Nat) => .agg [.q (d.px a) 64, .q (d.py a) 64]), .i .i64 (8 : Int)])) (.br (!decide ((0 : Int) = (0 : Int))) (.ok (.ret (.i .i64 (0 : Int)) [])) (.br (decP (Pl96 (LS.mk [.i .i64 (0 : Int), .lst 6 (.fn d.np fun (a : Nat) => .agg [.q (d.px a) 64, .q (d.py a) 64]), .i .i64 (↑d.np : Int), .i .i64 (0 : Int)] []))) (.ok (.ret (.i .i64 (0 : Int)) [])) (.no 1))) (.no 1))) (.no 1))) (.no 1))) (.no 1))) (.no 1)) (.no 1) := by kernel_rfl
def P96 (args : List PV) : Prop := ∃ v d, args = [v] ∧ VLe v (lkPV d) ∧ lkB d = true
noncomputable def s96 : Spec := fun args hs K => match hs with
  | [] => .br (decP (P96 args)) (K (.i .i64 0) []) (.no 1)
  | _ => .no 1
theorem cB_smQ {x : Rat} (h : cB x = true) : smQ x = true := by
  simp only [cB, Bool.and_eq_true, decide_eq_true_eq] at h
  exact smQ_iff.2 ⟨by omega, by omega⟩
theorem smQ_s32 {x : Rat} (h : smQ x = true) : s32 x = true := by
  have := smQ_iff.1 h
  exact s32_iff.2 ⟨by omega, by omega⟩
theorem lkB_c {d : Lk} (h : lkB d = true) : smQ d.len = true ∧ smQ d.low = true ∧ smQ d.high = true ∧ smQ d.spd = true ∧ smQ d.brk = true ∧ 0 < d.len ∧ d.low < d.high ∧ 0 < d.spd ∧ 0 < d.brk ∧ polyB d.np d.px d.py = true := by
  simp only [lkB, Bool.and_eq_true, decide_eq_true_eq] at h
  obtain ⟨⟨⟨⟨⟨⟨⟨⟨⟨h1, h2⟩, h3⟩, h4⟩, h5⟩, h6⟩, h7⟩, h8⟩, h9⟩, h10⟩ := h
  exact ⟨h1, h2, h3, h4, h5, h6, h7, h8, h9, h10⟩
include hG in
theorem orc96 : OrcOK Tryd.prog G O96 := .cons (ok26 hG) (.cons (ok27 hG) (.cons (ok95 hG) (.cons (ok126 hG) .nil)))
include hG in
theorem loop96 : LoopOK Tryd.prog G Tryd.f96.ntmps 0 [2, 50, 51, 52] b96 l96 := by
  intro ls K y hm h
  obtain ⟨hc, hr⟩ := Tr.of_br h
  obtain ⟨n, px, py, rfl, hp⟩ := decP_iff.1 hc
  obtain ⟨p1, p2, p3, p4⟩ := polyB_c hp
  refine ⟨_, _, goes_ok (Goes.count (R := Rnd Tryd.prog G Tryd.f96.ntmps 0 [2, 50, 51, 52] b96) (fun i => st96 n px py ((i : Nat) : Int)) (e := .exit 0) (ls' := st96 n px py n) (by simp) n 0 (fun i _ hi => ?_) ?_), hr⟩
  · refine round_ok hG (orc96 hG) mix (L := []) (pol := pol96) (O := O96) (LpsOK.none (by kernel_rfl)) (Nat.zero_le _) ?_
    have c := p3 i (by omega)
    rw [r96, Int.toNat_natCast, Tr.run_t (decide_eq_true (by omega)), Tr.run_t (by simp only [Bool.and_eq_true, decide_eq_true_eq]; omega), Tr.run_t (by
      simp only [List.all_cons, List.all_nil, cB_smQ c.1, cB_smQ c.2, List.length_cons, List.length_nil]; rfl), Tr.run_t (by simp only [Bool.and_eq_true, decide_eq_true_eq]; omega), Tr.run_ok]
    rfl
  · refine round_ok hG (orc96 hG) mix (L := []) (pol := pol96) (O := O96) (LpsOK.none (by kernel_rfl)) (Nat.zero_le _) ?_
    rw [r96, Tr.run_f (decide_eq_false (by omega)), Tr.run_ok, Nat.zero_add]
    rfl
include hG in
theorem ok96 : SpecOK Tryd.prog G 96 s96 := by
  intro args hs K x h
  unfold s96 at h
  split at h
  case h_2 => cases h
  obtain ⟨hc, hr⟩ := Tr.of_br h
  obtain ⟨v, d, rfl, hv, hd⟩ := decP_iff.1 hc
  obtain ⟨h1, h2, h3, h4, h5, h6, h7, h8, h9, h10⟩ := lkB_c hd
  refine ⟨_, _, PC.args (.cons hv (.refl _)) (evF_pc hG (orc96 hG) mix enter96 (hs := []) (L := [(9, l96)]) (pol := pol96) (O := O96) (lps1 (b := b96) (live := [2, 50, 51, 52]) (sp := l96) (m := 0) (by kernel_rfl) (by kernel_rfl) (by kernel_rfl) (loop96 hG)) ?_), hr⟩
  rw [e96, Tr.run_t (by simp only [List.all_cons, List.all_nil, h1, h2, h3, h4, h5, List.length_cons, List.length_nil]; rfl),
    Tr.run_t (s32_s64 (smQ_s32 h1)), Tr.run_f (decide_eq_false (by rw [rcmp_le]; exact Rat.not_le.2 h6)), Tr.run_t (by rw [smQ_s32 h2, smQ_s32 h3]; rfl), Tr.run_f (decide_eq_false (by rw [rcmp_ge]; exact Rat.not_le.2 h7)),
    Tr.run_t (s32_s64 (smQ_s32 h4)), Tr.run_f (decide_eq_false (by rw [rcmp_le]; exact Rat.not_le.2 h8)), Tr.run_t (s32_s64 (smQ_s32 h5)), Tr.run_f (decide_eq_false (by rw [rcmp_le]; exact Rat.not_le.2 h9)),
    Tr.run_t (decP_iff.2 ⟨_, d.np, d.px, d.py, rfl, .refl _, h10⟩), Tr.run_f (by decide), Tr.run_t (decP_iff.2 ⟨d.np, d.px, d.py, rfl, h10⟩), Tr.run_ok]

structure Am where
  name : ByteArray
  bx : Rat
  by_ : Rat
  t : Rat
  n : Nat
  lk : Nat → Lk
def armPV (A : Am) : PV := .agg [.s A.name, .agg [.agg [.q A.bx 64, .q A.by_ 64], .agg [.bl false, .q A.t 64]], .lst 16 (.fn A.n (fun j => lkPV (A.lk j)))]
def armB (A : Am) : Bool := isNm A.name && smQ A.bx && smQ A.by_ && smQ A.t && decide (1 ≤ A.n) && decide (A.n ≤ 3) && (List.range A.n).all (fun j => lkB (A.lk j))
theorem armB_c {A : Am} (h : armB A = true) : isNm A.name = true ∧ smQ A.bx = true ∧ smQ A.by_ = true ∧ smQ A.t = true ∧ 1 ≤ A.n ∧ A.n ≤ 3 ∧ ∀ j, j < A.n → lkB (A.lk j) = true := by
  simp only [armB, Bool.and_eq_true, decide_eq_true_eq, List.all_eq_true, List.mem_range] at h
  obtain ⟨⟨⟨⟨⟨⟨h1, h2⟩, h3⟩, h4⟩, h5⟩, h6⟩, h7⟩ := h
  exact ⟨h1, h2, h3, h4, h5, h6, h7⟩
noncomputable def b52 : Code := (loopsOf (bodyC Tryd.f32)).getD 0 .skip
def pol52 : Pol := { live := [(9, [2, 48, 49, 50])] }
noncomputable def O52 : Orc := [(55, s26), (94, s94), (95, s95), (96, s96)]
theorem enter52 : Enters Tryd.prog 32 Tryd.f32 (bodyC Tryd.f32) := ⟨Tryd.func32, by kernel_rfl, rfl⟩
def st52 (n : Nat) (lk : Nat → Lk) (i : Int) : LS := ⟨[.i .i64 0, .lst 16 (.fn n (fun j => lkPV (lk j))), .i .i64 n, .i .i64 i], []⟩
theorem r52 (n : Nat) (lk : Nat → Lk) (i : Int) : evRound Tryd.prog O52 [] pol52 Tryd.f32.ntmps 0 [2, 48, 49, 50] b52 (st52 n lk i) =
  Tr.br (decide (i < (↑n : Int))) (.br (ix (i) ((↑n : Int))) (.br (decP (P96 [.agg [.q (lk i.toNat).len 64, .q (lk i.toNat).low 64, .q (lk i.toNat).high 64, .q (lk i.toNat).spd 64, .q (lk i.toNat).brk 64, .lst 6 (.fn (lk i.toNat).np fun (a : Nat) => .agg [.q ((lk i.toNat).px a) 64, .q ((lk i.toNat).py a) 64])]])) (.br (!decide ((0 : Int) = (0 : Int))) (.ok (.out .ret (LS.mk [.i .i64 (0 : Int), .lst 16 (.fn n fun (j : Nat) => .agg [.q (lk j).len 64, .q (lk j).low 64, .q (lk j).high 64, .q (lk j).spd 64, .q (lk j).brk 64, .lst 6 (.fn (lk j).np fun (a : Nat) => .agg [.q ((lk j).px a) 64, .q ((lk j).py a) 64])]), .i .i64 (↑n : Int), .i .i64 i] []))) (.br (ib (i + (1 : Int))) (.ok (.out .normal (LS.mk [.i .i64 (0 : Int), .lst 16 (.fn n fun (j : Nat) => .agg [.q (lk j).len 64, .q (lk j).low 64, .q (lk j).high 64, .q (lk j).spd 64, .q (lk j).brk 64, .lst 6 (.fn (lk j).np fun (a : Nat) => .agg [.q ((lk j).px a) 64, .q ((lk j).py a) 64])]), .i .i64 (↑n : Int), .i .i64 (i + (1 : Int))] []))) (.no 15002))) (.no 1)) (.no 11004)) (.ok (.out (.exit 0) (LS.mk [.i .i64 (0 : Int), .lst 16 (.fn n fun (j : Nat) => .agg [.q (lk j).len 64, .q (lk j).low 64, .q (lk j).high 64, .q (lk j).spd 64, .q (lk j).brk 64, .lst 6 (.fn (lk j).np fun (a : Nat) => .agg [.q ((lk j).px a) 64, .q ((lk j).py a) 64])]), .i .i64 (↑n : Int), .i .i64 i] []))) := by kernel_rfl
def Pl52 (ls : LS) : Prop := ∃ n lk, ls = st52 n lk 0 ∧ n ≤ 3 ∧ ∀ j, j < n → lkB (lk j) = true
noncomputable def l52 : LSpec := fun ls K => .br (decP (Pl52 ls)) (K (.exit 0) ⟨ls.t.set 3 (ls.t.getD 2 .any), ls.h⟩) (.no 1)
theorem e52 (A : Am) : evF Tryd.prog O52 [(9, l52)] pol52 Tryd.f32 [armPV A] [] retK =
  Tr.br (isNm A.name) (.br (decide ((3 : Int) < (↑A.n : Int))) (.ok (.ret (.i .i64 (2 : Int)) [])) (.br (decide ((↑A.n : Int) = (0 : Int))) (.ok (.ret (.i .i64 (1 : Int)) [])) (.br (decide ([A.bx, A.by_, A.t].length ≤ (1073741824 : Nat)) && [A.bx, A.by_, A.t].all smQ) (.br (decP (Pl52 (LS.mk [.i .i64 (0 : Int), .lst 16 (.fn A.n fun (j : Nat) => .agg [.q (A.lk j).len 64, .q (A.lk j).low 64, .q (A.lk j).high 64, .q (A.lk j).spd 64, .q (A.lk j).brk 64, .lst 6 (.fn (A.lk j).np fun (a : Nat) => .agg [.q ((A.lk j).px a) 64, .q ((A.lk j).py a) 64])]), .i .i64 (↑A.n : Int), .i .i64 (0 : Int)] []))) (.ok (.ret (.i .i64 (0 : Int)) [])) (.no 1)) (.no 1)))) (.no 1) := by kernel_rfl
def P52 (args : List PV) : Prop := ∃ v A, args = [v] ∧ VLe v (armPV A) ∧ armB A = true
noncomputable def s52 : Spec := fun args hs K => match hs with
  | [] => .br (decP (P52 args)) (K (.i .i64 0) []) (.no 1)
  | _ => .no 1
include hG in
theorem orc52 : OrcOK Tryd.prog G O52 := .cons (ok26 hG) (.cons (ok94 hG) (.cons (ok95 hG) (.cons (ok96 hG) .nil)))
include hG in
theorem loop52 : LoopOK Tryd.prog G Tryd.f32.ntmps 0 [2, 48, 49, 50] b52 l52 := by
  intro ls K y hm h
  obtain ⟨hc, hr⟩ := Tr.of_br h
  obtain ⟨n, lk, rfl, hn, hp⟩ := decP_iff.1 hc
  refine ⟨_, _, goes_ok (Goes.count (R := Rnd Tryd.prog G Tryd.f32.ntmps 0 [2, 48, 49, 50] b52) (fun i => st52 n lk ((i : Nat) : Int)) (e := .exit 0) (ls' := st52 n lk n) (by simp) n 0 (fun i _ hi => ?_) ?_), hr⟩
  · refine round_ok hG (orc52 hG) mix (L := []) (pol := pol52) (O := O52) (LpsOK.none (by kernel_rfl)) (Nat.zero_le _) ?_
    rw [r52, Int.toNat_natCast, Tr.run_t (decide_eq_true (by omega)), Tr.run_t (by simp only [Bool.and_eq_true, decide_eq_true_eq]; omega), Tr.run_t (decP_iff.2 ⟨_, lk i, rfl, .refl _, hp i (by omega)⟩), Tr.run_f (by decide), Tr.run_t (by simp only [Bool.and_eq_true, decide_eq_true_eq]; omega), Tr.run_ok]
    rfl
  · refine round_ok hG (orc52 hG) mix (L := []) (pol := pol52) (O := O52) (LpsOK.none (by kernel_rfl)) (Nat.zero_le _) ?_
    rw [r52, Tr.run_f (decide_eq_false (by omega)), Tr.run_ok, Nat.zero_add]
    rfl
include hG in
theorem ok52 : SpecOK Tryd.prog G 32 s52 := by
  intro args hs K x h
  unfold s52 at h
  split at h
  case h_2 => cases h
  obtain ⟨hc, hr⟩ := Tr.of_br h
  obtain ⟨v, A, rfl, hv, hA⟩ := decP_iff.1 hc
  obtain ⟨h1, h2, h3, h4, h5, h6, h7⟩ := armB_c hA
  refine ⟨_, _, PC.args (.cons hv (.refl _)) (evF_pc hG (orc52 hG) mix enter52 (hs := []) (L := [(9, l52)]) (pol := pol52) (O := O52) (lps1 (b := b52) (live := [2, 48, 49, 50]) (sp := l52) (m := 0) (by kernel_rfl) (by kernel_rfl) (by kernel_rfl) (loop52 hG)) ?_), hr⟩
  rw [e52, Tr.run_t h1, Tr.run_f (decide_eq_false (by omega)), Tr.run_f (decide_eq_false (by omega)), Tr.run_t (by simp only [List.all_cons, List.all_nil, h2, h3, h4, List.length_cons, List.length_nil]; rfl)]
  first
    | rw [Tr.run_t (decP_iff.2 ⟨A.n, A.lk, rfl, h6, h7⟩), Tr.run_ok]
    | rw [Tr.run_f (by decide), Tr.run_t (decP_iff.2 ⟨A.n, A.lk, rfl, h6, h7⟩), Tr.run_ok]
theorem enter85 : Enters Tryd.prog 97 Tryd.f97 (bodyC Tryd.f97) := ⟨Tryd.func97, by kernel_rfl, rfl⟩
theorem e85 (A : Am) (k : Int) : evF Tryd.prog [(32, s52)] [] {} Tryd.f97 [armPV A, .i .i64 k] [] retK =
  Tr.br (decP (P52 [.agg [.s A.name, .agg [.agg [.q A.bx 64, .q A.by_ 64], .agg [.bl false, .q A.t 64]], .lst 16 (.fn A.n fun (j : Nat) => .agg [.q (A.lk j).len 64, .q (A.lk j).low 64, .q (A.lk j).high 64, .q (A.lk j).spd 64, .q (A.lk j).brk 64, .lst 6 (.fn (A.lk j).np fun (a : Nat) => .agg [.q ((A.lk j).px a) 64, .q ((A.lk j).py a) 64])])]])) (.br (!decide ((0 : Int) = (0 : Int))) (.ok (.ret (.i .i64 (0 : Int)) [])) (.br (!decide (k = (↑A.n : Int))) (.ok (.ret (.i .i64 (1 : Int)) [])) (.ok (.ret (.i .i64 (0 : Int)) [])))) (.no 1) := by kernel_rfl
def P85 (args : List PV) : Prop := ∃ v A, args = [v, .i .i64 ((A.n : Nat) : Int)] ∧ VLe v (armPV A) ∧ armB A = true
noncomputable def s85 : Spec := fun args hs K => match hs with
  | [] => .br (decP (P85 args)) (K (.i .i64 0) []) (.no 1)
  | _ => .no 1
include hG in
theorem ok85 : SpecOK Tryd.prog G 97 s85 := by
  intro args hs K x h
  unfold s85 at h
  split at h
  case h_2 => cases h
  obtain ⟨hc, hr⟩ := Tr.of_br h
  obtain ⟨v, A, rfl, hv, hA⟩ := decP_iff.1 hc
  refine ⟨_, _, PC.args (.cons hv (.refl _)) (evF_pc hG (.cons (ok52 hG) .nil) mix enter85 (hs := []) (L := []) (pol := {}) (LpsOK.none (by kernel_rfl)) ?_), hr⟩
  rw [e85, Tr.run_t (decP_iff.2 ⟨_, A, rfl, .refl _, hA⟩), Tr.run_f (by decide), Tr.run_f (by simp), Tr.run_ok]
end Go.Proofs.YtgaokohhkdeomaaDoor.PE
namespace Go.Proofs.YtgaokohhkdeomaaDoor.PE
open Go
set_option maxRecDepth 100000
variable {G : World → (Nat → Prop) → Prop} (hG : GOk G)
def fldV (v : PV) (k : Nat) : PV := match v with
  | .agg vs => vs.getD k .any
  | _ => .any
def dq (v : PV) : Rat := match v with
  | .q x _ => x
  | _ => 0
def ds (v : PV) : ByteArray := match v with
  | .s x => x
  | _ => ⟨#[]⟩
def dn (v : PV) : Nat := match v with
  | .lst _ c => c.len
  | _ => 0
def dg' (v : PV) (i : Nat) : PV := match v with
  | .lst _ c => c.get i
  | _ => .any
def dLk (v : PV) : Lk := ⟨dq (fldV v 0), dq (fldV v 1), dq (fldV v 2), dq (fldV v 3), dq (fldV v 4), dn (fldV v 5), fun i => dq (fldV (dg' (fldV v 5) i) 0), fun i => dq (fldV (dg' (fldV v 5) i) 1)⟩
def dArm (v : PV) : Am := ⟨ds (fldV v 0), dq (fldV (fldV (fldV v 1) 0) 0), dq (fldV (fldV (fldV v 1) 0) 1), dq (fldV (fldV (fldV v 1) 1) 1), dn (fldV v 2), fun j => dLk (dg' (fldV v 2) j)⟩
def okA (v : PV) : Prop := VLe v (armPV (dArm v)) ∧ armB (dArm v) = true
theorem okA_arm {A : Am} (h : armB A = true) : okA (armPV A) := ⟨.refl _, h⟩
def pol35 : Pol := { live := [(5, [1, 4, 16, 17, 18])] }
theorem enter35 : Enters Tryd.prog 37 Tryd.f37 (bodyC Tryd.f37) := ⟨Tryd.func37, by kernel_rfl, rfl⟩
def fit1 (lk : Nat → Lk) (qs : List Rat) (j : Nat) : Bool := decide ((lk j).low ≤ qs.getD j 0) && decide (qs.getD j 0 ≤ (lk j).high)
def fitB (A : Am) (qs : List Rat) : Bool := (List.range A.n).all (fit1 A.lk qs)
end Go.Proofs.YtgaokohhkdeomaaDoor.PE
namespace Go.Proofs.YtgaokohhkdeomaaDoor.PE
open Go
set_option maxRecDepth 100000
variable {G : World → (Nat → Prop) → Prop} (hG : GOk G)
theorem enter45 : Enters Tryd.prog 78 Tryd.f78 (bodyC Tryd.f78) := ⟨Tryd.func78, by kernel_rfl, rfl⟩
theorem e45 (l : List Int) (n : Int) : evF Tryd.prog [(30, s24)] [] {} Tryd.f78 [.ptr 0 1 0 0 [], .i .i64 n] [⟨1, .vals [.agg [.lst 1 (.ints .i64 l)]]⟩] retK =
  Tr.br (decide ((↑l.length : Int) = (0 : Int))) (.ok (.ret (PV.i .i64 (0 : Int)) [{ e := 1, c := Cont.vals [PV.agg [PV.lst 1 (.ints .i64 l)]] }])) (.br (decide (n < (1 : Int))) (.ok (.ret (PV.i .i64 (0 : Int)) [{ e := 1, c := Cont.vals [PV.agg [PV.lst 1 (.ints .i64 l)]] }])) (.br (ix ((0 : Int)) ((↑l.length : Int))) (.br (decide ((0 : Int) ≤ (1 : Int)) && decide ((1 : Int) ≤ (↑l.length : Int))) (.br (decide ((0 : Int) < n) && decide (n ≤ (4294967296 : Int))) (.ok (.ret (PV.i .i64 (l.getD (Int.toNat 0) (0 : Int) % n)) [{ e := 1, c := Cont.vals [PV.agg [PV.lst 1 (.ints .i64 (List.take ((Cont.ints .i64 l).len - Int.toNat (1 : Int)) (List.drop (Int.toNat (1 : Int)) l)))]] }])) (.no 1)) (.no 5004)) (.no 4003))) := by kernel_rfl
theorem e45n (n : Int) : evF Tryd.prog [(30, s24)] [] {} Tryd.f78 [.ptr 0 1 0 0 [], .i .i64 n] [⟨1, .vals [.agg [.nil]]⟩] retK =
  Tr.br (decide ((0 : Int) = (0 : Int))) (.ok (.ret (PV.i .i64 (0 : Int)) [{ e := 1, c := Cont.vals [PV.agg [PV.nil]] }])) (.br (decide (n < (1 : Int))) (.ok (.ret (PV.i .i64 (0 : Int)) [{ e := 1, c := Cont.vals [PV.agg [PV.nil]] }])) (.no 4003)) := by kernel_rfl
def nx (v : PV) (n : Int) : Int := (intsW v).headD 0 % n
def rs (v : PV) : PV := match v with
  | .lst 1 (.ints .i64 xs) => .lst 1 (.ints .i64 xs.tail)
  | v => v
theorem okW_rs {v : PV} (h : okW v = true) : okW (rs v) = true := by
  rcases okW_cases h with rfl | ⟨xs, rfl⟩ <;> rfl
theorem nx_range (v : PV) {n : Int} (h : 0 < n) : 0 ≤ nx v n ∧ nx v n < n := ⟨Int.emod_nonneg _ (by omega), Int.emod_lt_of_pos _ h⟩
def s45 : Spec := fun args hs K => match args, hs with
  | [.ptr 0 1 0 0 [], .i .i64 n], [⟨1, .vals [.agg [.w v]]⟩] => .br (okW v && decide (0 < n) && decide (n ≤ 4294967296)) (K (.i .i64 (nx v n)) [⟨1, .vals [.agg [.w (rs v)]]⟩]) (.no 1)
  | _, _ => .no 1
include hG in
theorem ok45 : SpecOK Tryd.prog G 78 s45 := by
  intro args hs K x h
  unfold s45 at h
  split at h
  case h_2 => cases h
  rename_i n v
  obtain ⟨hc, hr⟩ := Tr.of_br h
  simp only [Bool.and_eq_true, decide_eq_true_eq] at hc
  obtain ⟨⟨hw, h0⟩, h1⟩ := hc
  have ho := KsLe.one (KLe.vals (e := 1) (VLeL.cons (VLe.agg (VLeL.cons (vle_w_out hw) .nil)) .nil))
  have hi := KsLe.one (KLe.vals (e := 1) (VLeL.cons (VLe.agg (VLeL.cons (vle_w_in (okW_rs hw)) .nil)) .nil))
  refine ⟨_, _, PC.blocks ho (PC.le (r := .i .i64 (nx v n)) (hs' := [⟨1, .vals [.agg [rs v]]⟩]) ?_ (.refl _) hi), hr⟩
  rcases okW_cases hw with rfl | ⟨l, rfl⟩
  · refine evF_pc hG (.cons (ok24 hG) .nil) mix enter45 (L := []) (pol := {}) (LpsOK.none (by kernel_rfl)) ?_
    rw [e45n, Tr.run_t (by decide), Tr.run_ok]
    show some (Res.ret (.i .i64 0) _) = some (Res.ret (.i .i64 (0 % n)) _)
    rw [Int.zero_emod]; rfl
  · refine evF_pc hG (.cons (ok24 hG) .nil) mix enter45 (L := []) (pol := {}) (LpsOK.none (by kernel_rfl)) ?_
    rw [e45]
    cases l with
    | nil =>
      rw [Tr.run_t (by decide), Tr.run_ok]
      show some (Res.ret (.i .i64 0) _) = some (Res.ret (.i .i64 (0 % n)) _)
      rw [Int.zero_emod]; rfl
    | cons y ys =>
      have hl : (y :: ys).length = ys.length + 1 := rfl
      rw [Tr.run_f (decide_eq_false (by omega)), Tr.run_f (decide_eq_false (by omega)), Tr.run_t (by simp only [Bool.and_eq_true, decide_eq_true_eq]; omega), Tr.run_t (by simp only [Bool.and_eq_true, decide_eq_true_eq]; omega), Tr.run_t (by simp only [Bool.and_eq_true, decide_eq_true_eq]; omega), Tr.run_ok]
      have ht : List.take ((Cont.ints .i64 (y :: ys)).len - Int.toNat 1) (List.drop (Int.toNat 1) (y :: ys)) = ys := by
        show List.take (ys.length + 1 - 1) ys = ys
        rw [Nat.add_sub_cancel, List.take_length]
      rw [ht]
      rfl
theorem enter104 : Enters Tryd.prog 120 Tryd.f120 (bodyC Tryd.f120) := ⟨Tryd.func120, by kernel_rfl, rfl⟩
theorem e104 (a b : Int) : evF Tryd.prog [(91, s81)] [] {} Tryd.f120 [.i .i64 a, .i .i64 b] [] retK =
  Tr.br (decide ((0 : Int) < (4 : Int)) && decide ((4 : Int) < (4611686018427387904 : Int)) && decide ((-4611686018427387904 : Int) < a) && decide (a < (4611686018427387904 : Int))) (.br (decide ((0 : Int) < (4 : Int)) && decide ((4 : Int) < (4611686018427387904 : Int)) && decide ((-4611686018427387904 : Int) < b) && decide (b < (4611686018427387904 : Int))) (.ok (.ret (PV.agg [PV.q (mkRat a (Int.toNat (4 : Int))) 64, PV.q (mkRat b (Int.toNat (4 : Int))) 64]) [])) (.no 1)) (.no 1) := by kernel_rfl
def smI (a : Int) : Bool := decide (-1000000 < a) && decide (a < 1000000)
theorem smI_iff {a : Int} : smI a = true ↔ -1000000 < a ∧ a < 1000000 := by simp [smI]
def s104 : Spec := fun args hs K => match args, hs with
  | [.i .i64 a, .i .i64 b], [] => .br (smI a && smI b) (K (.agg [.q (mkRat a 4) 64, .q (mkRat b 4) 64]) []) (.no 1)
  | _, _ => .no 1
include hG in
theorem ok104 : SpecOK Tryd.prog G 120 s104 := by
  refine spec_of hG (.cons (ok81 hG) .nil) mix enter104 (L := []) (pol := {}) fun args hs K x h => ?_
  unfold s104 at h
  split at h
  case h_2 => cases h
  rename_i a b
  obtain ⟨hc, hr⟩ := Tr.of_br h
  simp only [Bool.and_eq_true, smI_iff] at hc
  refine ⟨LpsOK.none (by kernel_rfl), _, _, _, ?_, .refl _, hr⟩
  rw [e104]
  repeat rw [Tr.run_t (by simp only [Bool.and_eq_true, decide_eq_true_eq]; omega)]
  rw [Tr.run_ok]
  rfl
theorem enter105 : Enters Tryd.prog 121 Tryd.f121 (bodyC Tryd.f121) := ⟨Tryd.func121, by kernel_rfl, rfl⟩
theorem e105 (a b c d : Int) : evF Tryd.prog [(120, s104)] [] {} Tryd.f121 [.i .i64 a, .i .i64 b, .i .i64 c, .i .i64 d] [] retK =
  Tr.br (smI a && smI b) (.br (smI c && smI b) (.br (smI c && smI d) (.br (smI a && smI d) (.ok (.ret (PV.lst 6 (.vals [PV.agg [PV.q (mkRat a (4 : Nat)) 64, PV.q (mkRat b (4 : Nat)) 64], PV.agg [PV.q (mkRat c (4 : Nat)) 64, PV.q (mkRat b (4 : Nat)) 64], PV.agg [PV.q (mkRat c (4 : Nat)) 64, PV.q (mkRat d (4 : Nat)) 64], PV.agg [PV.q (mkRat a (4 : Nat)) 64, PV.q (mkRat d (4 : Nat)) 64]])) [])) (.no 1)) (.no 1)) (.no 1)) (.no 1) := by kernel_rfl
def s105 : Spec := fun args hs K => match args, hs with
  | [.i .i64 a, .i .i64 b, .i .i64 c, .i .i64 d], [] => .br (smI a && smI b && smI c && smI d) (K (.lst 6 (.vals [.agg [.q (mkRat a 4) 64, .q (mkRat b 4) 64], .agg [.q (mkRat c 4) 64, .q (mkRat b 4) 64], .agg [.q (mkRat c 4) 64, .q (mkRat d 4) 64], .agg [.q (mkRat a 4) 64, .q (mkRat d 4) 64]])) []) (.no 1)
  | _, _ => .no 1
include hG in
theorem ok105 : SpecOK Tryd.prog G 121 s105 := by
  refine spec_of hG (.cons (ok104 hG) .nil) mix enter105 (L := []) (pol := {}) fun args hs K x h => ?_
  unfold s105 at h
  split at h
  case h_2 => cases h
  rename_i a b c d
  obtain ⟨hc, hr⟩ := Tr.of_br h
  simp only [Bool.and_eq_true] at hc
  obtain ⟨⟨⟨ha, hb⟩, hc⟩, hd⟩ := hc
  refine ⟨LpsOK.none (by kernel_rfl), _, _, _, ?_, .refl _, hr⟩
  rw [e105, Tr.run_t (by rw [ha, hb]; rfl), Tr.run_t (by rw [hc, hb]; rfl), Tr.run_t (by rw [hc, hd]; rfl), Tr.run_t (by rw [ha, hd]; rfl), Tr.run_ok]
noncomputable def b68 : Code := (loopsOf (bodyC Tryd.f77)).getD 0 .skip
def pol68 : Pol := { live := [(4, [0, 4, 5, 30, 31])], wr := [(78, [0])] }
noncomputable def O68 : Orc := [(78, s45), (91, s81), (120, s104), (121, s105)]
theorem enter68 : Enters Tryd.prog 77 Tryd.f77 (bodyC Tryd.f77) := ⟨Tryd.func77, by kernel_rfl, rfl⟩
def lkC (a b c d e : Rat) (s : Cont) : PV := .agg [.q a 64, .q b 64, .q c 64, .q d 64, .q e 64, .lst 6 s]
def zArm (z1 z2 z3 z4 z5 z6 z7 : ByteArray) : PV := .agg [.s z1, .agg [.agg [.agg [.bl false, .s z2, .s z3], .agg [.bl false, .s z4, .s z5]], .agg [.bl false, .agg [.bl false, .s z6, .s z7]]], .nil]
def frA (nm : ByteArray) (bx by_ t : Rat) (l : PV) : PV := .agg [.s nm, .agg [.agg [.q bx 64, .q by_ 64], .agg [.bl false, .q t 64]], l]
def E : ByteArray := ⟨#[]⟩
def st68 (v : PV) (nm : ByteArray) (bx by_ t : Rat) (l : PV) (bs : List (Option Blk)) (c i : Int) : LS := ⟨[.ptr 0 1 0 0 [], .ptr 1 12 0 0 [], .ptr 2 12 0 0 [], .i .i64 c, .i .i64 i], [some ⟨1, .vals [.agg [.w v]]⟩, some ⟨12, .vals [zArm E E E E E E E]⟩, some ⟨12, .vals [frA nm bx by_ t l]⟩] ++ bs⟩
theorem r68a (v : PV) (nm : ByteArray) (bx by_ t : Rat) (c i : Int) : evRound Tryd.prog O68 [] pol68 Tryd.f77.ntmps 1 [0, 4, 5, 30, 31] b68 (st68 v nm bx by_ t .nil [] c i) =
  Tr.br (decide (i < c)) (.br (okW v && decide ((0 : Int) < (4 : Int)) && decide ((4 : Int) ≤ (4294967296 : Int))) (.br (ib ((2 : Int) * nx v (4 : Int))) (.br (ib ((4 : Int) + (2 : Int) * nx v (4 : Int))) (.br (decide ((0 : Int) < (4 : Int)) && decide ((4 : Int) < (4611686018427387904 : Int)) && decide ((-4611686018427387904 : Int) < (4 : Int) + (2 : Int) * nx v (4 : Int)) && decide ((4 : Int) + (2 : Int) * nx v (4 : Int) < (4611686018427387904 : Int))) (.br (okW (rs v) && decide ((0 : Int) < (6 : Int)) && decide ((6 : Int) ≤ (4294967296 : Int))) (.br (ib ((-1 : Int) - nx (rs v) (6 : Int))) (.br (decide ((0 : Int) < (3 : Int)) && decide ((3 : Int) < (4611686018427387904 : Int)) && decide ((-4611686018427387904 : Int) < (-1 : Int) - nx (rs v) (6 : Int)) && decide ((-1 : Int) - nx (rs v) (6 : Int) < (4611686018427387904 : Int))) (.br (okW (rs (rs v)) && decide ((0 : Int) < (6 : Int)) && decide ((6 : Int) ≤ (4294967296 : Int))) (.br (ib ((1 : Int) + nx (rs (rs v)) (6 : Int))) (.br (decide ((0 : Int) < (3 : Int)) && decide ((3 : Int) < (4611686018427387904 : Int)) && decide ((-4611686018427387904 : Int) < (1 : Int) + nx (rs (rs v)) (6 : Int)) && decide ((1 : Int) + nx (rs (rs v)) (6 : Int) < (4611686018427387904 : Int))) (.br (okW (rs (rs (rs v))) && decide ((0 : Int) < (8 : Int)) && decide ((8 : Int) ≤ (4294967296 : Int))) (.br (ib ((4 : Int) + nx (rs (rs (rs v))) (8 : Int))) (.br (decide ((0 : Int) < (4 : Int) + nx (rs (rs (rs v))) (8 : Int)) && decide ((4 : Int) + nx (rs (rs (rs v))) (8 : Int) < (4611686018427387904 : Int)) && decide ((-4611686018427387904 : Int) < (1 : Int)) && decide ((1 : Int) < (4611686018427387904 : Int))) (.br (okW (rs (rs (rs (rs v)))) && decide ((0 : Int) < (20 : Int)) && decide ((20 : Int) ≤ (4294967296 : Int))) (.br (ib ((10 : Int) + nx (rs (rs (rs (rs v)))) (20 : Int))) (.br (decide ((0 : Int) < (10 : Int) + nx (rs (rs (rs (rs v)))) (20 : Int)) && decide ((10 : Int) + nx (rs (rs (rs (rs v)))) (20 : Int) < (4611686018427387904 : Int)) && decide ((-4611686018427387904 : Int) < (1 : Int)) && decide ((1 : Int) < (4611686018427387904 : Int))) (.br (ib ((4 : Int) + (2 : Int) * nx v (4 : Int) + (1 : Int))) (.br (smI (-1 : Int) && smI (-1 : Int) && smI ((4 : Int) + (2 : Int) * nx v (4 : Int) + (1 : Int)) && smI (1 : Int)) (.br (okW (rs (rs (rs (rs (rs v))))) && decide ((0 : Int) < (3 : Int)) && decide ((3 : Int) ≤ (4294967296 : Int))) (.br (decide (nx (rs (rs (rs (rs (rs v))))) (3 : Int) = (2 : Int))) (.br (smI (-1 : Int) && smI (-1 : Int)) (.br (ib ((4 : Int) + (2 : Int) * nx v (4 : Int) + (1 : Int))) (.br (smI ((4 : Int) + (2 : Int) * nx v (4 : Int) + (1 : Int)) && smI (0 : Int)) (.br (smI (-1 : Int) && smI (1 : Int)) (.br (Nat.blt (0 : Nat) [PV.agg [PV.q (mkRat ((4 : Int) + (2 : Int) * nx v (4 : Int)) (Int.toNat (4 : Int))) 64, PV.q (mkRat ((-1 : Int) - nx (rs v) (6 : Int)) (Int.toNat (3 : Int))) 64, PV.q (mkRat ((1 : Int) + nx (rs (rs v)) (6 : Int)) (Int.toNat (3 : Int))) 64, PV.q (mkRat (1 : Int) ((4 : Int) + nx (rs (rs (rs v))) (8 : Int)).toNat) 64, PV.q (mkRat (1 : Int) ((10 : Int) + nx (rs (rs (rs (rs v)))) (20 : Int)).toNat) 64, PV.lst 6 (.vals [PV.agg [PV.q (mkRat (-1 : Int) (4 : Nat)) 64, PV.q (mkRat (-1 : Int) (4 : Nat)) 64], PV.agg [PV.q (mkRat ((4 : Int) + (2 : Int) * nx v (4 : Int) + (1 : Int)) (4 : Nat)) 64, PV.q (mkRat (0 : Int) (4 : Nat)) 64], PV.agg [PV.q (mkRat (-1 : Int) (4 : Nat)) 64, PV.q (mkRat (1 : Int) (4 : Nat)) 64]])]].length && [PV.agg [PV.q (mkRat ((4 : Int) + (2 : Int) * nx v (4 : Int)) (Int.toNat (4 : Int))) 64, PV.q (mkRat ((-1 : Int) - nx (rs v) (6 : Int)) (Int.toNat (3 : Int))) 64, PV.q (mkRat ((1 : Int) + nx (rs (rs v)) (6 : Int)) (Int.toNat (3 : Int))) 64, PV.q (mkRat (1 : Int) ((4 : Int) + nx (rs (rs (rs v))) (8 : Int)).toNat) 64, PV.q (mkRat (1 : Int) ((10 : Int) + nx (rs (rs (rs (rs v)))) (20 : Int)).toNat) 64, PV.lst 6 (.vals [PV.agg [PV.q (mkRat (-1 : Int) (4 : Nat)) 64, PV.q (mkRat (-1 : Int) (4 : Nat)) 64], PV.agg [PV.q (mkRat ((4 : Int) + (2 : Int) * nx v (4 : Int) + (1 : Int)) (4 : Nat)) 64, PV.q (mkRat (0 : Int) (4 : Nat)) 64], PV.agg [PV.q (mkRat (-1 : Int) (4 : Nat)) 64, PV.q (mkRat (1 : Int) (4 : Nat)) 64]])]].length.ble 4294967296) (.br (ib (i + (1 : Int))) (.ok (.out .normal { t := [PV.ptr 0 1 0 0 [], PV.ptr 1 12 0 0 [], PV.ptr 2 12 0 0 [], PV.i .i64 c, PV.i .i64 (i + (1 : Int))], h := [some { e := 1, c := Cont.vals [PV.agg [(rs (rs (rs (rs (rs (rs v)))))).w]] }, some { e := 12, c := Cont.vals [PV.agg [PV.s E, PV.agg [PV.agg [PV.agg [PV.bl false, PV.s E, PV.s E], PV.agg [PV.bl false, PV.s E, PV.s E]], PV.agg [PV.bl false, PV.agg [PV.bl false, PV.s E, PV.s E]]], PV.nil]] }, some { e := 12, c := Cont.vals [PV.agg [PV.s nm, PV.agg [PV.agg [PV.q bx 64, PV.q by_ 64], PV.agg [PV.bl false, PV.q t 64]], PV.sl 3 16 0 1]] }, some { e := 16, c := Cont.vals [PV.agg [PV.q (mkRat ((4 : Int) + (2 : Int) * nx v (4 : Int)) (Int.toNat (4 : Int))) 64, PV.q (mkRat ((-1 : Int) - nx (rs v) (6 : Int)) (Int.toNat (3 : Int))) 64, PV.q (mkRat ((1 : Int) + nx (rs (rs v)) (6 : Int)) (Int.toNat (3 : Int))) 64, PV.q (mkRat (1 : Int) ((4 : Int) + nx (rs (rs (rs v))) (8 : Int)).toNat) 64, PV.q (mkRat (1 : Int) ((10 : Int) + nx (rs (rs (rs (rs v)))) (20 : Int)).toNat) 64, PV.lst 6 (.vals [PV.agg [PV.q (mkRat (-1 : Int) (4 : Nat)) 64, PV.q (mkRat (-1 : Int) (4 : Nat)) 64], PV.agg [PV.q (mkRat ((4 : Int) + (2 : Int) * nx v (4 : Int) + (1 : Int)) (4 : Nat)) 64, PV.q (mkRat (0 : Int) (4 : Nat)) 64], PV.agg [PV.q (mkRat (-1 : Int) (4 : Nat)) 64, PV.q (mkRat (1 : Int) (4 : Nat)) 64]])]] }] })) (.no 11002)) (.no 10003)) (.no 1)) (.no 1)) (.no 9006)) (.no 1)) (.br (Nat.blt (0 : Nat) [PV.agg [PV.q (mkRat ((4 : Int) + (2 : Int) * nx v (4 : Int)) (Int.toNat (4 : Int))) 64, PV.q (mkRat ((-1 : Int) - nx (rs v) (6 : Int)) (Int.toNat (3 : Int))) 64, PV.q (mkRat ((1 : Int) + nx (rs (rs v)) (6 : Int)) (Int.toNat (3 : Int))) 64, PV.q (mkRat (1 : Int) ((4 : Int) + nx (rs (rs (rs v))) (8 : Int)).toNat) 64, PV.q (mkRat (1 : Int) ((10 : Int) + nx (rs (rs (rs (rs v)))) (20 : Int)).toNat) 64, PV.lst 6 (.vals [PV.agg [PV.q (mkRat (-1 : Int) (4 : Nat)) 64, PV.q (mkRat (-1 : Int) (4 : Nat)) 64], PV.agg [PV.q (mkRat ((4 : Int) + (2 : Int) * nx v (4 : Int) + (1 : Int)) (4 : Nat)) 64, PV.q (mkRat (-1 : Int) (4 : Nat)) 64], PV.agg [PV.q (mkRat ((4 : Int) + (2 : Int) * nx v (4 : Int) + (1 : Int)) (4 : Nat)) 64, PV.q (mkRat (1 : Int) (4 : Nat)) 64], PV.agg [PV.q (mkRat (-1 : Int) (4 : Nat)) 64, PV.q (mkRat (1 : Int) (4 : Nat)) 64]])]].length && [PV.agg [PV.q (mkRat ((4 : Int) + (2 : Int) * nx v (4 : Int)) (Int.toNat (4 : Int))) 64, PV.q (mkRat ((-1 : Int) - nx (rs v) (6 : Int)) (Int.toNat (3 : Int))) 64, PV.q (mkRat ((1 : Int) + nx (rs (rs v)) (6 : Int)) (Int.toNat (3 : Int))) 64, PV.q (mkRat (1 : Int) ((4 : Int) + nx (rs (rs (rs v))) (8 : Int)).toNat) 64, PV.q (mkRat (1 : Int) ((10 : Int) + nx (rs (rs (rs (rs v)))) (20 : Int)).toNat) 64, PV.lst 6 (.vals [PV.agg [PV.q (mkRat (-1 : Int) (4 : Nat)) 64, PV.q (mkRat (-1 : Int) (4 : Nat)) 64], PV.agg [PV.q (mkRat ((4 : Int) + (2 : Int) * nx v (4 : Int) + (1 : Int)) (4 : Nat)) 64, PV.q (mkRat (-1 : Int) (4 : Nat)) 64], PV.agg [PV.q (mkRat ((4 : Int) + (2 : Int) * nx v (4 : Int) + (1 : Int)) (4 : Nat)) 64, PV.q (mkRat (1 : Int) (4 : Nat)) 64], PV.agg [PV.q (mkRat (-1 : Int) (4 : Nat)) 64, PV.q (mkRat (1 : Int) (4 : Nat)) 64]])]].length.ble 4294967296) (.br (ib (i + (1 : Int))) (.ok (.out .normal { t := [PV.ptr 0 1 0 0 [], PV.ptr 1 12 0 0 [], PV.ptr 2 12 0 0 [], PV.i .i64 c, PV.i .i64 (i + (1 : Int))], h := [some { e := 1, c := Cont.vals [PV.agg [(rs (rs (rs (rs (rs (rs v)))))).w]] }, some { e := 12, c := Cont.vals [PV.agg [PV.s E, PV.agg [PV.agg [PV.agg [PV.bl false, PV.s E, PV.s E], PV.agg [PV.bl false, PV.s E, PV.s E]], PV.agg [PV.bl false, PV.agg [PV.bl false, PV.s E, PV.s E]]], PV.nil]] }, some { e := 12, c := Cont.vals [PV.agg [PV.s nm, PV.agg [PV.agg [PV.q bx 64, PV.q by_ 64], PV.agg [PV.bl false, PV.q t 64]], PV.sl 3 16 0 1]] }, some { e := 16, c := Cont.vals [PV.agg [PV.q (mkRat ((4 : Int) + (2 : Int) * nx v (4 : Int)) (Int.toNat (4 : Int))) 64, PV.q (mkRat ((-1 : Int) - nx (rs v) (6 : Int)) (Int.toNat (3 : Int))) 64, PV.q (mkRat ((1 : Int) + nx (rs (rs v)) (6 : Int)) (Int.toNat (3 : Int))) 64, PV.q (mkRat (1 : Int) ((4 : Int) + nx (rs (rs (rs v))) (8 : Int)).toNat) 64, PV.q (mkRat (1 : Int) ((10 : Int) + nx (rs (rs (rs (rs v)))) (20 : Int)).toNat) 64, PV.lst 6 (.vals [PV.agg [PV.q (mkRat (-1 : Int) (4 : Nat)) 64, PV.q (mkRat (-1 : Int) (4 : Nat)) 64], PV.agg [PV.q (mkRat ((4 : Int) + (2 : Int) * nx v (4 : Int) + (1 : Int)) (4 : Nat)) 64, PV.q (mkRat (-1 : Int) (4 : Nat)) 64], PV.agg [PV.q (mkRat ((4 : Int) + (2 : Int) * nx v (4 : Int) + (1 : Int)) (4 : Nat)) 64, PV.q (mkRat (1 : Int) (4 : Nat)) 64], PV.agg [PV.q (mkRat (-1 : Int) (4 : Nat)) 64, PV.q (mkRat (1 : Int) (4 : Nat)) 64]])]] }] })) (.no 11002)) (.no 10003))) (.no 1)) (.no 1)) (.no 7005)) (.no 1)) (.no 7008)) (.no 1)) (.no 1)) (.no 7012)) (.no 1)) (.no 1)) (.no 7016)) (.no 1)) (.no 1)) (.no 7020)) (.no 1)) (.no 1)) (.no 6002)) (.no 6003)) (.no 1)) (.ok (.out (.exit 0) { t := [PV.ptr 0 1 0 0 [], PV.ptr 1 12 0 0 [], PV.ptr 2 12 0 0 [], PV.i .i64 c, PV.i .i64 i], h := [some { e := 1, c := Cont.vals [PV.agg [v.w]] }, some { e := 12, c := Cont.vals [PV.agg [PV.s E, PV.agg [PV.agg [PV.agg [PV.bl false, PV.s E, PV.s E], PV.agg [PV.bl false, PV.s E, PV.s E]], PV.agg [PV.bl false, PV.agg [PV.bl false, PV.s E, PV.s E]]], PV.nil]] }, some { e := 12, c := Cont.vals [PV.agg [PV.s nm, PV.agg [PV.agg [PV.q bx 64, PV.q by_ 64], PV.agg [PV.bl false, PV.q t 64]], PV.nil]] }] })) := by kernel_rfl
theorem r68b (v : PV) (nm : ByteArray) (bx by_ t : Rat) (c i : Int) (a1 b1 c1 d1 e1 : Rat) (s1 : Cont) : evRound Tryd.prog O68 [] pol68 Tryd.f77.ntmps 1 [0, 4, 5, 30, 31] b68 (st68 v nm bx by_ t (.sl 3 16 0 1) [some ⟨16, .vals [lkC a1 b1 c1 d1 e1 s1]⟩] c i) =
  Tr.br (decide (i < c)) (.br (okW v && decide ((0 : Int) < (4 : Int)) && decide ((4 : Int) ≤ (4294967296 : Int))) (.br (ib ((2 : Int) * nx v (4 : Int))) (.br (ib ((4 : Int) + (2 : Int) * nx v (4 : Int))) (.br (decide ((0 : Int) < (4 : Int)) && decide ((4 : Int) < (4611686018427387904 : Int)) && decide ((-4611686018427387904 : Int) < (4 : Int) + (2 : Int) * nx v (4 : Int)) && decide ((4 : Int) + (2 : Int) * nx v (4 : Int) < (4611686018427387904 : Int))) (.br (okW (rs v) && decide ((0 : Int) < (6 : Int)) && decide ((6 : Int) ≤ (4294967296 : Int))) (.br (ib ((-1 : Int) - nx (rs v) (6 : Int))) (.br (decide ((0 : Int) < (3 : Int)) && decide ((3 : Int) < (4611686018427387904 : Int)) && decide ((-4611686018427387904 : Int) < (-1 : Int) - nx (rs v) (6 : Int)) && decide ((-1 : Int) - nx (rs v) (6 : Int) < (4611686018427387904 : Int))) (.br (okW (rs (rs v)) && decide ((0 : Int) < (6 : Int)) && decide ((6 : Int) ≤ (4294967296 : Int))) (.br (ib ((1 : Int) + nx (rs (rs v)) (6 : Int))) (.br (decide ((0 : Int) < (3 : Int)) && decide ((3 : Int) < (4611686018427387904 : Int)) && decide ((-4611686018427387904 : Int) < (1 : Int) + nx (rs (rs v)) (6 : Int)) && decide ((1 : Int) + nx (rs (rs v)) (6 : Int) < (4611686018427387904 : Int))) (.br (okW (rs (rs (rs v))) && decide ((0 : Int) < (8 : Int)) && decide ((8 : Int) ≤ (4294967296 : Int))) (.br (ib ((4 : Int) + nx (rs (rs (rs v))) (8 : Int))) (.br (decide ((0 : Int) < (4 : Int) + nx (rs (rs (rs v))) (8 : Int)) && decide ((4 : Int) + nx (rs (rs (rs v))) (8 : Int) < (4611686018427387904 : Int)) && decide ((-4611686018427387904 : Int) < (1 : Int)) && decide ((1 : Int) < (4611686018427387904 : Int))) (.br (okW (rs (rs (rs (rs v)))) && decide ((0 : Int) < (20 : Int)) && decide ((20 : Int) ≤ (4294967296 : Int))) (.br (ib ((10 : Int) + nx (rs (rs (rs (rs v)))) (20 : Int))) (.br (decide ((0 : Int) < (10 : Int) + nx (rs (rs (rs (rs v)))) (20 : Int)) && decide ((10 : Int) + nx (rs (rs (rs (rs v)))) (20 : Int) < (4611686018427387904 : Int)) && decide ((-4611686018427387904 : Int) < (1 : Int)) && decide ((1 : Int) < (4611686018427387904 : Int))) (.br (ib ((4 : Int) + (2 : Int) * nx v (4 : Int) + (1 : Int))) (.br (smI (-1 : Int) && smI (-1 : Int) && smI ((4 : Int) + (2 : Int) * nx v (4 : Int) + (1 : Int)) && smI (1 : Int)) (.br (okW (rs (rs (rs (rs (rs v))))) && decide ((0 : Int) < (3 : Int)) && decide ((3 : Int) ≤ (4294967296 : Int))) (.br (decide (nx (rs (rs (rs (rs (rs v))))) (3 : Int) = (2 : Int))) (.br (smI (-1 : Int) && smI (-1 : Int)) (.br (ib ((4 : Int) + (2 : Int) * nx v (4 : Int) + (1 : Int))) (.br (smI ((4 : Int) + (2 : Int) * nx v (4 : Int) + (1 : Int)) && smI (0 : Int)) (.br (smI (-1 : Int) && smI (1 : Int)) (.br (((1 : Nat) + [PE.PV.agg [PV.q (mkRat ((4 : Int) + (2 : Int) * nx v (4 : Int)) (Int.toNat (4 : Int))) 64, PV.q (mkRat ((-1 : Int) - nx (rs v) (6 : Int)) (Int.toNat (3 : Int))) 64, PV.q (mkRat ((1 : Int) + nx (rs (rs v)) (6 : Int)) (Int.toNat (3 : Int))) 64, PV.q (mkRat (1 : Int) ((4 : Int) + nx (rs (rs (rs v))) (8 : Int)).toNat) 64, PV.q (mkRat (1 : Int) ((10 : Int) + nx (rs (rs (rs (rs v)))) (20 : Int)).toNat) 64, PV.lst 6 (.vals [PV.agg [PV.q (mkRat (-1 : Int) (4 : Nat)) 64, PV.q (mkRat (-1 : Int) (4 : Nat)) 64], PV.agg [PV.q (mkRat ((4 : Int) + (2 : Int) * nx v (4 : Int) + (1 : Int)) (4 : Nat)) 64, PV.q (mkRat (0 : Int) (4 : Nat)) 64], PV.agg [PV.q (mkRat (-1 : Int) (4 : Nat)) 64, PV.q (mkRat (1 : Int) (4 : Nat)) 64]])]].length).ble 4294967296) (.br (ib (i + (1 : Int))) (.ok (.out .normal { t := [PV.ptr 0 1 0 0 [], PV.ptr 1 12 0 0 [], PV.ptr 2 12 0 0 [], PV.i .i64 c, PV.i .i64 (i + (1 : Int))], h := [some { e := 1, c := Cont.vals [PV.agg [(rs (rs (rs (rs (rs (rs v)))))).w]] }, some { e := 12, c := Cont.vals [PV.agg [PV.s E, PV.agg [PV.agg [PV.agg [PV.bl false, PV.s E, PV.s E], PV.agg [PV.bl false, PV.s E, PV.s E]], PV.agg [PV.bl false, PV.agg [PV.bl false, PV.s E, PV.s E]]], PV.nil]] }, some { e := 12, c := Cont.vals [PV.agg [PV.s nm, PV.agg [PV.agg [PV.q bx 64, PV.q by_ 64], PV.agg [PV.bl false, PV.q t 64]], PV.sl 3 16 0 2]] }, some { e := 16, c := Cont.vals [PV.agg [PV.q a1 64, PV.q b1 64, PV.q c1 64, PV.q d1 64, PV.q e1 64, PV.lst 6 s1], PV.agg [PV.q (mkRat ((4 : Int) + (2 : Int) * nx v (4 : Int)) (Int.toNat (4 : Int))) 64, PV.q (mkRat ((-1 : Int) - nx (rs v) (6 : Int)) (Int.toNat (3 : Int))) 64, PV.q (mkRat ((1 : Int) + nx (rs (rs v)) (6 : Int)) (Int.toNat (3 : Int))) 64, PV.q (mkRat (1 : Int) ((4 : Int) + nx (rs (rs (rs v))) (8 : Int)).toNat) 64, PV.q (mkRat (1 : Int) ((10 : Int) + nx (rs (rs (rs (rs v)))) (20 : Int)).toNat) 64, PV.lst 6 (.vals [PV.agg [PV.q (mkRat (-1 : Int) (4 : Nat)) 64, PV.q (mkRat (-1 : Int) (4 : Nat)) 64], PV.agg [PV.q (mkRat ((4 : Int) + (2 : Int) * nx v (4 : Int) + (1 : Int)) (4 : Nat)) 64, PV.q (mkRat (0 : Int) (4 : Nat)) 64], PV.agg [PV.q (mkRat (-1 : Int) (4 : Nat)) 64, PV.q (mkRat (1 : Int) (4 : Nat)) 64]])]] }] })) (.no 11002)) (.no 10003)) (.no 1)) (.no 1)) (.no 9006)) (.no 1)) (.br (((1 : Nat) + [PE.PV.agg [PV.q (mkRat ((4 : Int) + (2 : Int) * nx v (4 : Int)) (Int.toNat (4 : Int))) 64, PV.q (mkRat ((-1 : Int) - nx (rs v) (6 : Int)) (Int.toNat (3 : Int))) 64, PV.q (mkRat ((1 : Int) + nx (rs (rs v)) (6 : Int)) (Int.toNat (3 : Int))) 64, PV.q (mkRat (1 : Int) ((4 : Int) + nx (rs (rs (rs v))) (8 : Int)).toNat) 64, PV.q (mkRat (1 : Int) ((10 : Int) + nx (rs (rs (rs (rs v)))) (20 : Int)).toNat) 64, PV.lst 6 (.vals [PV.agg [PV.q (mkRat (-1 : Int) (4 : Nat)) 64, PV.q (mkRat (-1 : Int) (4 : Nat)) 64], PV.agg [PV.q (mkRat ((4 : Int) + (2 : Int) * nx v (4 : Int) + (1 : Int)) (4 : Nat)) 64, PV.q (mkRat (-1 : Int) (4 : Nat)) 64], PV.agg [PV.q (mkRat ((4 : Int) + (2 : Int) * nx v (4 : Int) + (1 : Int)) (4 : Nat)) 64, PV.q (mkRat (1 : Int) (4 : Nat)) 64], PV.agg [PV.q (mkRat (-1 : Int) (4 : Nat)) 64, PV.q (mkRat (1 : Int) (4 : Nat)) 64]])]].length).ble 4294967296) (.br (ib (i + (1 : Int))) (.ok (.out .normal { t := [PV.ptr 0 1 0 0 [], PV.ptr 1 12 0 0 [], PV.ptr 2 12 0 0 [], PV.i .i64 c, PV.i .i64 (i + (1 : Int))], h := [some { e := 1, c := Cont.vals [PV.agg [(rs (rs (rs (rs (rs (rs v)))))).w]] }, some { e := 12, c := Cont.vals [PV.agg [PV.s E, PV.agg [PV.agg [PV.agg [PV.bl false, PV.s E, PV.s E], PV.agg [PV.bl false, PV.s E, PV.s E]], PV.agg [PV.bl false, PV.agg [PV.bl false, PV.s E, PV.s E]]], PV.nil]] }, some { e := 12, c := Cont.vals [PV.agg [PV.s nm, PV.agg [PV.agg [PV.q bx 64, PV.q by_ 64], PV.agg [PV.bl false, PV.q t 64]], PV.sl 3 16 0 2]] }, some { e := 16, c := Cont.vals [PV.agg [PV.q a1 64, PV.q b1 64, PV.q c1 64, PV.q d1 64, PV.q e1 64, PV.lst 6 s1], PV.agg [PV.q (mkRat ((4 : Int) + (2 : Int) * nx v (4 : Int)) (Int.toNat (4 : Int))) 64, PV.q (mkRat ((-1 : Int) - nx (rs v) (6 : Int)) (Int.toNat (3 : Int))) 64, PV.q (mkRat ((1 : Int) + nx (rs (rs v)) (6 : Int)) (Int.toNat (3 : Int))) 64, PV.q (mkRat (1 : Int) ((4 : Int) + nx (rs (rs (rs v))) (8 : Int)).toNat) 64, PV.q (mkRat (1 : Int) ((10 : Int) + nx (rs (rs (rs (rs v)))) (20 : Int)).toNat) 64, PV.lst 6 (.vals [PV.agg [PV.q (mkRat (-1 : Int) (4 : Nat)) 64, PV.q (mkRat (-1 : Int) (4 : Nat)) 64], PV.agg [PV.q (mkRat ((4 : Int) + (2 : Int) * nx v (4 : Int) + (1 : Int)) (4 : Nat)) 64, PV.q (mkRat (-1 : Int) (4 : Nat)) 64], PV.agg [PV.q (mkRat ((4 : Int) + (2 : Int) * nx v (4 : Int) + (1 : Int)) (4 : Nat)) 64, PV.q (mkRat (1 : Int) (4 : Nat)) 64], PV.agg [PV.q (mkRat (-1 : Int) (4 : Nat)) 64, PV.q (mkRat (1 : Int) (4 : Nat)) 64]])]] }] })) (.no 11002)) (.no 10003))) (.no 1)) (.no 1)) (.no 7005)) (.no 1)) (.no 7008)) (.no 1)) (.no 1)) (.no 7012)) (.no 1)) (.no 1)) (.no 7016)) (.no 1)) (.no 1)) (.no 7020)) (.no 1)) (.no 1)) (.no 6002)) (.no 6003)) (.no 1)) (.ok (.out (.exit 0) { t := [PV.ptr 0 1 0 0 [], PV.ptr 1 12 0 0 [], PV.ptr 2 12 0 0 [], PV.i .i64 c, PV.i .i64 i], h := [some { e := 1, c := Cont.vals [PV.agg [v.w]] }, some { e := 12, c := Cont.vals [PV.agg [PV.s E, PV.agg [PV.agg [PV.agg [PV.bl false, PV.s E, PV.s E], PV.agg [PV.bl false, PV.s E, PV.s E]], PV.agg [PV.bl false, PV.agg [PV.bl false, PV.s E, PV.s E]]], PV.nil]] }, some { e := 12, c := Cont.vals [PV.agg [PV.s nm, PV.agg [PV.agg [PV.q bx 64, PV.q by_ 64], PV.agg [PV.bl false, PV.q t 64]], PV.sl 3 16 0 1]] }, some { e := 16, c := Cont.vals [PV.agg [PV.q a1 64, PV.q b1 64, PV.q c1 64, PV.q d1 64, PV.q e1 64, PV.lst 6 s1]] }] })) := by kernel_rfl
theorem r68c (v : PV) (nm : ByteArray) (bx by_ t : Rat) (c i : Int) (a1 b1 c1 d1 e1 a2 b2 c2 d2 e2 : Rat) (s1 s2 : Cont) : evRound Tryd.prog O68 [] pol68 Tryd.f77.ntmps 1 [0, 4, 5, 30, 31] b68 (st68 v nm bx by_ t (.sl 3 16 0 2) [some ⟨16, .vals [lkC a1 b1 c1 d1 e1 s1, lkC a2 b2 c2 d2 e2 s2]⟩] c i) =
  Tr.br (decide (i < c)) (.br (okW v && decide ((0 : Int) < (4 : Int)) && decide ((4 : Int) ≤ (4294967296 : Int))) (.br (ib ((2 : Int) * nx v (4 : Int))) (.br (ib ((4 : Int) + (2 : Int) * nx v (4 : Int))) (.br (decide ((0 : Int) < (4 : Int)) && decide ((4 : Int) < (4611686018427387904 : Int)) && decide ((-4611686018427387904 : Int) < (4 : Int) + (2 : Int) * nx v (4 : Int)) && decide ((4 : Int) + (2 : Int) * nx v (4 : Int) < (4611686018427387904 : Int))) (.br (okW (rs v) && decide ((0 : Int) < (6 : Int)) && decide ((6 : Int) ≤ (4294967296 : Int))) (.br (ib ((-1 : Int) - nx (rs v) (6 : Int))) (.br (decide ((0 : Int) < (3 : Int)) && decide ((3 : Int) < (4611686018427387904 : Int)) && decide ((-4611686018427387904 : Int) < (-1 : Int) - nx (rs v) (6 : Int)) && decide ((-1 : Int) - nx (rs v) (6 : Int) < (4611686018427387904 : Int))) (.br (okW (rs (rs v)) && decide ((0 : Int) < (6 : Int)) && decide ((6 : Int) ≤ (4294967296 : Int))) (.br (ib ((1 : Int) + nx (rs (rs v)) (6 : Int))) (.br (decide ((0 : Int) < (3 : Int)) && decide ((3 : Int) < (4611686018427387904 : Int)) && decide ((-4611686018427387904 : Int) < (1 : Int) + nx (rs (rs v)) (6 : Int)) && decide ((1 : Int) + nx (rs (rs v)) (6 : Int) < (4611686018427387904 : Int))) (.br (okW (rs (rs (rs v))) && decide ((0 : Int) < (8 : Int)) && decide ((8 : Int) ≤ (4294967296 : Int))) (.br (ib ((4 : Int) + nx (rs (rs (rs v))) (8 : Int))) (.br (decide ((0 : Int) < (4 : Int) + nx (rs (rs (rs v))) (8 : Int)) && decide ((4 : Int) + nx (rs (rs (rs v))) (8 : Int) < (4611686018427387904 : Int)) && decide ((-4611686018427387904 : Int) < (1 : Int)) && decide ((1 : Int) < (4611686018427387904 : Int))) (.br (okW (rs (rs (rs (rs v)))) && decide ((0 : Int) < (20 : Int)) && decide ((20 : Int) ≤ (4294967296 : Int))) (.br (ib ((10 : Int) + nx (rs (rs (rs (rs v)))) (20 : Int))) (.br (decide ((0 : Int) < (10 : Int) + nx (rs (rs (rs (rs v)))) (20 : Int)) && decide ((10 : Int) + nx (rs (rs (rs (rs v)))) (20 : Int) < (4611686018427387904 : Int)) && decide ((-4611686018427387904 : Int) < (1 : Int)) && decide ((1 : Int) < (4611686018427387904 : Int))) (.br (ib ((4 : Int) + (2 : Int) * nx v (4 : Int) + (1 : Int))) (.br (smI (-1 : Int) && smI (-1 : Int) && smI ((4 : Int) + (2 : Int) * nx v (4 : Int) + (1 : Int)) && smI (1 : Int)) (.br (okW (rs (rs (rs (rs (rs v))))) && decide ((0 : Int) < (3 : Int)) && decide ((3 : Int) ≤ (4294967296 : Int))) (.br (decide (nx (rs (rs (rs (rs (rs v))))) (3 : Int) = (2 : Int))) (.br (smI (-1 : Int) && smI (-1 : Int)) (.br (ib ((4 : Int) + (2 : Int) * nx v (4 : Int) + (1 : Int))) (.br (smI ((4 : Int) + (2 : Int) * nx v (4 : Int) + (1 : Int)) && smI (0 : Int)) (.br (smI (-1 : Int) && smI (1 : Int)) (.br (((2 : Nat) + [PE.PV.agg [PV.q (mkRat ((4 : Int) + (2 : Int) * nx v (4 : Int)) (Int.toNat (4 : Int))) 64, PV.q (mkRat ((-1 : Int) - nx (rs v) (6 : Int)) (Int.toNat (3 : Int))) 64, PV.q (mkRat ((1 : Int) + nx (rs (rs v)) (6 : Int)) (Int.toNat (3 : Int))) 64, PV.q (mkRat (1 : Int) ((4 : Int) + nx (rs (rs (rs v))) (8 : Int)).toNat) 64, PV.q (mkRat (1 : Int) ((10 : Int) + nx (rs (rs (rs (rs v)))) (20 : Int)).toNat) 64, PV.lst 6 (.vals [PV.agg [PV.q (mkRat (-1 : Int) (4 : Nat)) 64, PV.q (mkRat (-1 : Int) (4 : Nat)) 64], PV.agg [PV.q (mkRat ((4 : Int) + (2 : Int) * nx v (4 : Int) + (1 : Int)) (4 : Nat)) 64, PV.q (mkRat (0 : Int) (4 : Nat)) 64], PV.agg [PV.q (mkRat (-1 : Int) (4 : Nat)) 64, PV.q (mkRat (1 : Int) (4 : Nat)) 64]])]].length).ble 4294967296) (.br (ib (i + (1 : Int))) (.ok (.out .normal { t := [PV.ptr 0 1 0 0 [], PV.ptr 1 12 0 0 [], PV.ptr 2 12 0 0 [], PV.i .i64 c, PV.i .i64 (i + (1 : Int))], h := [some { e := 1, c := Cont.vals [PV.agg [(rs (rs (rs (rs (rs (rs v)))))).w]] }, some { e := 12, c := Cont.vals [PV.agg [PV.s E, PV.agg [PV.agg [PV.agg [PV.bl false, PV.s E, PV.s E], PV.agg [PV.bl false, PV.s E, PV.s E]], PV.agg [PV.bl false, PV.agg [PV.bl false, PV.s E, PV.s E]]], PV.nil]] }, some { e := 12, c := Cont.vals [PV.agg [PV.s nm, PV.agg [PV.agg [PV.q bx 64, PV.q by_ 64], PV.agg [PV.bl false, PV.q t 64]], PV.sl 3 16 0 3]] }, some { e := 16, c := Cont.vals [PV.agg [PV.q a1 64, PV.q b1 64, PV.q c1 64, PV.q d1 64, PV.q e1 64, PV.lst 6 s1], PV.agg [PV.q a2 64, PV.q b2 64, PV.q c2 64, PV.q d2 64, PV.q e2 64, PV.lst 6 s2], PV.agg [PV.q (mkRat ((4 : Int) + (2 : Int) * nx v (4 : Int)) (Int.toNat (4 : Int))) 64, PV.q (mkRat ((-1 : Int) - nx (rs v) (6 : Int)) (Int.toNat (3 : Int))) 64, PV.q (mkRat ((1 : Int) + nx (rs (rs v)) (6 : Int)) (Int.toNat (3 : Int))) 64, PV.q (mkRat (1 : Int) ((4 : Int) + nx (rs (rs (rs v))) (8 : Int)).toNat) 64, PV.q (mkRat (1 : Int) ((10 : Int) + nx (rs (rs (rs (rs v)))) (20 : Int)).toNat) 64, PV.lst 6 (.vals [PV.agg [PV.q (mkRat (-1 : Int) (4 : Nat)) 64, PV.q (mkRat (-1 : Int) (4 : Nat)) 64], PV.agg [PV.q (mkRat ((4 : Int) + (2 : Int) * nx v (4 : Int) + (1 : Int)) (4 : Nat)) 64, PV.q (mkRat (0 : Int) (4 : Nat)) 64], PV.agg [PV.q (mkRat (-1 : Int) (4 : Nat)) 64, PV.q (mkRat (1 : Int) (4 : Nat)) 64]])]] }] })) (.no 11002)) (.no 10003)) (.no 1)) (.no 1)) (.no 9006)) (.no 1)) (.br (((2 : Nat) + [PE.PV.agg [PV.q (mkRat ((4 : Int) + (2 : Int) * nx v (4 : Int)) (Int.toNat (4 : Int))) 64, PV.q (mkRat ((-1 : Int) - nx (rs v) (6 : Int)) (Int.toNat (3 : Int))) 64, PV.q (mkRat ((1 : Int) + nx (rs (rs v)) (6 : Int)) (Int.toNat (3 : Int))) 64, PV.q (mkRat (1 : Int) ((4 : Int) + nx (rs (rs (rs v))) (8 : Int)).toNat) 64, PV.q (mkRat (1 : Int) ((10 : Int) + nx (rs (rs (rs (rs v)))) (20 : Int)).toNat) 64, PV.lst 6 (.vals [PV.agg [PV.q (mkRat (-1 : Int) (4 : Nat)) 64, PV.q (mkRat (-1 : Int) (4 : Nat)) 64], PV.agg [PV.q (mkRat ((4 : Int) + (2 : Int) * nx v (4 : Int) + (1 : Int)) (4 : Nat)) 64, PV.q (mkRat (-1 : Int) (4 : Nat)) 64], PV.agg [PV.q (mkRat ((4 : Int) + (2 : Int) * nx v (4 : Int) + (1 : Int)) (4 : Nat)) 64, PV.q (mkRat (1 : Int) (4 : Nat)) 64], PV.agg [PV.q (mkRat (-1 : Int) (4 : Nat)) 64, PV.q (mkRat (1 : Int) (4 : Nat)) 64]])]].length).ble 4294967296) (.br (ib (i + (1 : Int))) (.ok (.out .normal { t := [PV.ptr 0 1 0 0 [], PV.ptr 1 12 0 0 [], PV.ptr 2 12 0 0 [], PV.i .i64 c, PV.i .i64 (i + (1 : Int))], h := [some { e := 1, c := Cont.vals [PV.agg [(rs (rs (rs (rs (rs (rs v)))))).w]] }, some { e := 12, c := Cont.vals [PV.agg [PV.s E, PV.agg [PV.agg [PV.agg [PV.bl false, PV.s E, PV.s E], PV.agg [PV.bl false, PV.s E, PV.s E]], PV.agg [PV.bl false, PV.agg [PV.bl false, PV.s E, PV.s E]]], PV.nil]] }, some { e := 12, c := Cont.vals [PV.agg [PV.s nm, PV.agg [PV.agg [PV.q bx 64, PV.q by_ 64], PV.agg [PV.bl false, PV.q t 64]], PV.sl 3 16 0 3]] }, some { e := 16, c := Cont.vals [PV.agg [PV.q a1 64, PV.q b1 64, PV.q c1 64, PV.q d1 64, PV.q e1 64, PV.lst 6 s1], PV.agg [PV.q a2 64, PV.q b2 64, PV.q c2 64, PV.q d2 64, PV.q e2 64, PV.lst 6 s2], PV.agg [PV.q (mkRat ((4 : Int) + (2 : Int) * nx v (4 : Int)) (Int.toNat (4 : Int))) 64, PV.q (mkRat ((-1 : Int) - nx (rs v) (6 : Int)) (Int.toNat (3 : Int))) 64, PV.q (mkRat ((1 : Int) + nx (rs (rs v)) (6 : Int)) (Int.toNat (3 : Int))) 64, PV.q (mkRat (1 : Int) ((4 : Int) + nx (rs (rs (rs v))) (8 : Int)).toNat) 64, PV.q (mkRat (1 : Int) ((10 : Int) + nx (rs (rs (rs (rs v)))) (20 : Int)).toNat) 64, PV.lst 6 (.vals [PV.agg [PV.q (mkRat (-1 : Int) (4 : Nat)) 64, PV.q (mkRat (-1 : Int) (4 : Nat)) 64], PV.agg [PV.q (mkRat ((4 : Int) + (2 : Int) * nx v (4 : Int) + (1 : Int)) (4 : Nat)) 64, PV.q (mkRat (-1 : Int) (4 : Nat)) 64], PV.agg [PV.q (mkRat ((4 : Int) + (2 : Int) * nx v (4 : Int) + (1 : Int)) (4 : Nat)) 64, PV.q (mkRat (1 : Int) (4 : Nat)) 64], PV.agg [PV.q (mkRat (-1 : Int) (4 : Nat)) 64, PV.q (mkRat (1 : Int) (4 : Nat)) 64]])]] }] })) (.no 11002)) (.no 10003))) (.no 1)) (.no 1)) (.no 7005)) (.no 1)) (.no 7008)) (.no 1)) (.no 1)) (.no 7012)) (.no 1)) (.no 1)) (.no 7016)) (.no 1)) (.no 1)) (.no 7020)) (.no 1)) (.no 1)) (.no 6002)) (.no 6003)) (.no 1)) (.ok (.out (.exit 0) { t := [PV.ptr 0 1 0 0 [], PV.ptr 1 12 0 0 [], PV.ptr 2 12 0 0 [], PV.i .i64 c, PV.i .i64 i], h := [some { e := 1, c := Cont.vals [PV.agg [v.w]] }, some { e := 12, c := Cont.vals [PV.agg [PV.s E, PV.agg [PV.agg [PV.agg [PV.bl false, PV.s E, PV.s E], PV.agg [PV.bl false, PV.s E, PV.s E]], PV.agg [PV.bl false, PV.agg [PV.bl false, PV.s E, PV.s E]]], PV.nil]] }, some { e := 12, c := Cont.vals [PV.agg [PV.s nm, PV.agg [PV.agg [PV.q bx 64, PV.q by_ 64], PV.agg [PV.bl false, PV.q t 64]], PV.sl 3 16 0 2]] }, some { e := 16, c := Cont.vals [PV.agg [PV.q a1 64, PV.q b1 64, PV.q c1 64, PV.q d1 64, PV.q e1 64, PV.lst 6 s1], PV.agg [PV.q a2 64, PV.q b2 64, PV.q c2 64, PV.q d2 64, PV.q e2 64, PV.lst 6 s2]] }] })) := by kernel_rfl
theorem r68d (v : PV) (nm : ByteArray) (bx by_ t : Rat) (c i : Int) (a1 b1 c1 d1 e1 a2 b2 c2 d2 e2 a3 b3 c3 d3 e3 : Rat) (s1 s2 s3 : Cont) : evRound Tryd.prog O68 [] pol68 Tryd.f77.ntmps 1 [0, 4, 5, 30, 31] b68 (st68 v nm bx by_ t (.sl 3 16 0 3) [some ⟨16, .vals [lkC a1 b1 c1 d1 e1 s1, lkC a2 b2 c2 d2 e2 s2, lkC a3 b3 c3 d3 e3 s3]⟩] c i) =
  Tr.br (decide (i < c)) (.br (okW v && decide ((0 : Int) < (4 : Int)) && decide ((4 : Int) ≤ (4294967296 : Int))) (.br (ib ((2 : Int) * nx v (4 : Int))) (.br (ib ((4 : Int) + (2 : Int) * nx v (4 : Int))) (.br (decide ((0 : Int) < (4 : Int)) && decide ((4 : Int) < (4611686018427387904 : Int)) && decide ((-4611686018427387904 : Int) < (4 : Int) + (2 : Int) * nx v (4 : Int)) && decide ((4 : Int) + (2 : Int) * nx v (4 : Int) < (4611686018427387904 : Int))) (.br (okW (rs v) && decide ((0 : Int) < (6 : Int)) && decide ((6 : Int) ≤ (4294967296 : Int))) (.br (ib ((-1 : Int) - nx (rs v) (6 : Int))) (.br (decide ((0 : Int) < (3 : Int)) && decide ((3 : Int) < (4611686018427387904 : Int)) && decide ((-4611686018427387904 : Int) < (-1 : Int) - nx (rs v) (6 : Int)) && decide ((-1 : Int) - nx (rs v) (6 : Int) < (4611686018427387904 : Int))) (.br (okW (rs (rs v)) && decide ((0 : Int) < (6 : Int)) && decide ((6 : Int) ≤ (4294967296 : Int))) (.br (ib ((1 : Int) + nx (rs (rs v)) (6 : Int))) (.br (decide ((0 : Int) < (3 : Int)) && decide ((3 : Int) < (4611686018427387904 : Int)) && decide ((-4611686018427387904 : Int) < (1 : Int) + nx (rs (rs v)) (6 : Int)) && decide ((1 : Int) + nx (rs (rs v)) (6 : Int) < (4611686018427387904 : Int))) (.br (okW (rs (rs (rs v))) && decide ((0 : Int) < (8 : Int)) && decide ((8 : Int) ≤ (4294967296 : Int))) (.br (ib ((4 : Int) + nx (rs (rs (rs v))) (8 : Int))) (.br (decide ((0 : Int) < (4 : Int) + nx (rs (rs (rs v))) (8 : Int)) && decide ((4 : Int) + nx (rs (rs (rs v))) (8 : Int) < (4611686018427387904 : Int)) && decide ((-4611686018427387904 : Int) < (1 : Int)) && decide ((1 : Int) < (4611686018427387904 : Int))) (.br (okW (rs (rs (rs (rs v)))) && decide ((0 : Int) < (20 : Int)) && decide ((20 : Int) ≤ (4294967296 : Int))) (.br (ib ((10 : Int) + nx (rs (rs (rs (rs v)))) (20 : Int))) (.br (decide ((0 : Int) < (10 : Int) + nx (rs (rs (rs (rs v)))) (20 : Int)) && decide ((10 : Int) + nx (rs (rs (rs (rs v)))) (20 : Int) < (4611686018427387904 : Int)) && decide ((-4611686018427387904 : Int) < (1 : Int)) && decide ((1 : Int) < (4611686018427387904 : Int))) (.br (ib ((4 : Int) + (2 : Int) * nx v (4 : Int) + (1 : Int))) (.br (smI (-1 : Int) && smI (-1 : Int) && smI ((4 : Int) + (2 : Int) * nx v (4 : Int) + (1 : Int)) && smI (1 : Int)) (.br (okW (rs (rs (rs (rs (rs v))))) && decide ((0 : Int) < (3 : Int)) && decide ((3 : Int) ≤ (4294967296 : Int))) (.br (decide (nx (rs (rs (rs (rs (rs v))))) (3 : Int) = (2 : Int))) (.br (smI (-1 : Int) && smI (-1 : Int)) (.br (ib ((4 : Int) + (2 : Int) * nx v (4 : Int) + (1 : Int))) (.br (smI ((4 : Int) + (2 : Int) * nx v (4 : Int) + (1 : Int)) && smI (0 : Int)) (.br (smI (-1 : Int) && smI (1 : Int)) (.br (((3 : Nat) + [PE.PV.agg [PV.q (mkRat ((4 : Int) + (2 : Int) * nx v (4 : Int)) (Int.toNat (4 : Int))) 64, PV.q (mkRat ((-1 : Int) - nx (rs v) (6 : Int)) (Int.toNat (3 : Int))) 64, PV.q (mkRat ((1 : Int) + nx (rs (rs v)) (6 : Int)) (Int.toNat (3 : Int))) 64, PV.q (mkRat (1 : Int) ((4 : Int) + nx (rs (rs (rs v))) (8 : Int)).toNat) 64, PV.q (mkRat (1 : Int) ((10 : Int) + nx (rs (rs (rs (rs v)))) (20 : Int)).toNat) 64, PV.lst 6 (.vals [PV.agg [PV.q (mkRat (-1 : Int) (4 : Nat)) 64, PV.q (mkRat (-1 : Int) (4 : Nat)) 64], PV.agg [PV.q (mkRat ((4 : Int) + (2 : Int) * nx v (4 : Int) + (1 : Int)) (4 : Nat)) 64, PV.q (mkRat (0 : Int) (4 : Nat)) 64], PV.agg [PV.q (mkRat (-1 : Int) (4 : Nat)) 64, PV.q (mkRat (1 : Int) (4 : Nat)) 64]])]].length).ble 4294967296) (.br (ib (i + (1 : Int))) (.ok (.out .normal { t := [PV.ptr 0 1 0 0 [], PV.ptr 1 12 0 0 [], PV.ptr 2 12 0 0 [], PV.i .i64 c, PV.i .i64 (i + (1 : Int))], h := [some { e := 1, c := Cont.vals [PV.agg [(rs (rs (rs (rs (rs (rs v)))))).w]] }, some { e := 12, c := Cont.vals [PV.agg [PV.s E, PV.agg [PV.agg [PV.agg [PV.bl false, PV.s E, PV.s E], PV.agg [PV.bl false, PV.s E, PV.s E]], PV.agg [PV.bl false, PV.agg [PV.bl false, PV.s E, PV.s E]]], PV.nil]] }, some { e := 12, c := Cont.vals [PV.agg [PV.s nm, PV.agg [PV.agg [PV.q bx 64, PV.q by_ 64], PV.agg [PV.bl false, PV.q t 64]], PV.sl 3 16 0 4]] }, some { e := 16, c := Cont.vals [PV.agg [PV.q a1 64, PV.q b1 64, PV.q c1 64, PV.q d1 64, PV.q e1 64, PV.lst 6 s1], PV.agg [PV.q a2 64, PV.q b2 64, PV.q c2 64, PV.q d2 64, PV.q e2 64, PV.lst 6 s2], PV.agg [PV.q a3 64, PV.q b3 64, PV.q c3 64, PV.q d3 64, PV.q e3 64, PV.lst 6 s3], PV.agg [PV.q (mkRat ((4 : Int) + (2 : Int) * nx v (4 : Int)) (Int.toNat (4 : Int))) 64, PV.q (mkRat ((-1 : Int) - nx (rs v) (6 : Int)) (Int.toNat (3 : Int))) 64, PV.q (mkRat ((1 : Int) + nx (rs (rs v)) (6 : Int)) (Int.toNat (3 : Int))) 64, PV.q (mkRat (1 : Int) ((4 : Int) + nx (rs (rs (rs v))) (8 : Int)).toNat) 64, PV.q (mkRat (1 : Int) ((10 : Int) + nx (rs (rs (rs (rs v)))) (20 : Int)).toNat) 64, PV.lst 6 (.vals [PV.agg [PV.q (mkRat (-1 : Int) (4 : Nat)) 64, PV.q (mkRat (-1 : Int) (4 : Nat)) 64], PV.agg [PV.q (mkRat ((4 : Int) + (2 : Int) * nx v (4 : Int) + (1 : Int)) (4 : Nat)) 64, PV.q (mkRat (0 : Int) (4 : Nat)) 64], PV.agg [PV.q (mkRat (-1 : Int) (4 : Nat)) 64, PV.q (mkRat (1 : Int) (4 : Nat)) 64]])]] }] })) (.no 11002)) (.no 10003)) (.no 1)) (.no 1)) (.no 9006)) (.no 1)) (.br (((3 : Nat) + [PE.PV.agg [PV.q (mkRat ((4 : Int) + (2 : Int) * nx v (4 : Int)) (Int.toNat (4 : Int))) 64, PV.q (mkRat ((-1 : Int) - nx (rs v) (6 : Int)) (Int.toNat (3 : Int))) 64, PV.q (mkRat ((1 : Int) + nx (rs (rs v)) (6 : Int)) (Int.toNat (3 : Int))) 64, PV.q (mkRat (1 : Int) ((4 : Int) + nx (rs (rs (rs v))) (8 : Int)).toNat) 64, PV.q (mkRat (1 : Int) ((10 : Int) + nx (rs (rs (rs (rs v)))) (20 : Int)).toNat) 64, PV.lst 6 (.vals [PV.agg [PV.q (mkRat (-1 : Int) (4 : Nat)) 64, PV.q (mkRat (-1 : Int) (4 : Nat)) 64], PV.agg [PV.q (mkRat ((4 : Int) + (2 : Int) * nx v (4 : Int) + (1 : Int)) (4 : Nat)) 64, PV.q (mkRat (-1 : Int) (4 : Nat)) 64], PV.agg [PV.q (mkRat ((4 : Int) + (2 : Int) * nx v (4 : Int) + (1 : Int)) (4 : Nat)) 64, PV.q (mkRat (1 : Int) (4 : Nat)) 64], PV.agg [PV.q (mkRat (-1 : Int) (4 : Nat)) 64, PV.q (mkRat (1 : Int) (4 : Nat)) 64]])]].length).ble 4294967296) (.br (ib (i + (1 : Int))) (.ok (.out .normal { t := [PV.ptr 0 1 0 0 [], PV.ptr 1 12 0 0 [], PV.ptr 2 12 0 0 [], PV.i .i64 c, PV.i .i64 (i + (1 : Int))], h := [some { e := 1, c := Cont.vals [PV.agg [(rs (rs (rs (rs (rs (rs v)))))).w]] }, some { e := 12, c := Cont.vals [PV.agg [PV.s E, PV.agg [PV.agg [PV.agg [PV.bl false, PV.s E, PV.s E], PV.agg [PV.bl false, PV.s E, PV.s E]], PV.agg [PV.bl false, PV.agg [PV.bl false, PV.s E, PV.s E]]], PV.nil]] }, some { e := 12, c := Cont.vals [PV.agg [PV.s nm, PV.agg [PV.agg [PV.q bx 64, PV.q by_ 64], PV.agg [PV.bl false, PV.q t 64]], PV.sl 3 16 0 4]] }, some { e := 16, c := Cont.vals [PV.agg [PV.q a1 64, PV.q b1 64, PV.q c1 64, PV.q d1 64, PV.q e1 64, PV.lst 6 s1], PV.agg [PV.q a2 64, PV.q b2 64, PV.q c2 64, PV.q d2 64, PV.q e2 64, PV.lst 6 s2], PV.agg [PV.q a3 64, PV.q b3 64, PV.q c3 64, PV.q d3 64, PV.q e3 64, PV.lst 6 s3], PV.agg [PV.q (mkRat ((4 : Int) + (2 : Int) * nx v (4 : Int)) (Int.toNat (4 : Int))) 64, PV.q (mkRat ((-1 : Int) - nx (rs v) (6 : Int)) (Int.toNat (3 : Int))) 64, PV.q (mkRat ((1 : Int) + nx (rs (rs v)) (6 : Int)) (Int.toNat (3 : Int))) 64, PV.q (mkRat (1 : Int) ((4 : Int) + nx (rs (rs (rs v))) (8 : Int)).toNat) 64, PV.q (mkRat (1 : Int) ((10 : Int) + nx (rs (rs (rs (rs v)))) (20 : Int)).toNat) 64, PV.lst 6 (.vals [PV.agg [PV.q (mkRat (-1 : Int) (4 : Nat)) 64, PV.q (mkRat (-1 : Int) (4 : Nat)) 64], PV.agg [PV.q (mkRat ((4 : Int) + (2 : Int) * nx v (4 : Int) + (1 : Int)) (4 : Nat)) 64, PV.q (mkRat (-1 : Int) (4 : Nat)) 64], PV.agg [PV.q (mkRat ((4 : Int) + (2 : Int) * nx v (4 : Int) + (1 : Int)) (4 : Nat)) 64, PV.q (mkRat (1 : Int) (4 : Nat)) 64], PV.agg [PV.q (mkRat (-1 : Int) (4 : Nat)) 64, PV.q (mkRat (1 : Int) (4 : Nat)) 64]])]] }] })) (.no 11002)) (.no 10003))) (.no 1)) (.no 1)) (.no 7005)) (.no 1)) (.no 7008)) (.no 1)) (.no 1)) (.no 7012)) (.no 1)) (.no 1)) (.no 7016)) (.no 1)) (.no 1)) (.no 7020)) (.no 1)) (.no 1)) (.no 6002)) (.no 6003)) (.no 1)) (.ok (.out (.exit 0) { t := [PV.ptr 0 1 0 0 [], PV.ptr 1 12 0 0 [], PV.ptr 2 12 0 0 [], PV.i .i64 c, PV.i .i64 i], h := [some { e := 1, c := Cont.vals [PV.agg [v.w]] }, some { e := 12, c := Cont.vals [PV.agg [PV.s E, PV.agg [PV.agg [PV.agg [PV.bl false, PV.s E, PV.s E], PV.agg [PV.bl false, PV.s E, PV.s E]], PV.agg [PV.bl false, PV.agg [PV.bl false, PV.s E, PV.s E]]], PV.nil]] }, some { e := 12, c := Cont.vals [PV.agg [PV.s nm, PV.agg [PV.agg [PV.q bx 64, PV.q by_ 64], PV.agg [PV.bl false, PV.q t 64]], PV.sl 3 16 0 3]] }, some { e := 16, c := Cont.vals [PV.agg [PV.q a1 64, PV.q b1 64, PV.q c1 64, PV.q d1 64, PV.q e1 64, PV.lst 6 s1], PV.agg [PV.q a2 64, PV.q b2 64, PV.q c2 64, PV.q d2 64, PV.q e2 64, PV.lst 6 s2], PV.agg [PV.q a3 64, PV.q b3 64, PV.q c3 64, PV.q d3 64, PV.q e3 64, PV.lst 6 s3]] }] })) := by kernel_rfl
end Go.Proofs.YtgaokohhkdeomaaDoor.PE
namespace Go.Proofs.YtgaokohhkdeomaaDoor.PE
open Go
set_option maxRecDepth 100000
variable {G : World → (Nat → Prop) → Prop} (hG : GOk G)
def r6 (v : PV) : PV := rs (rs (rs (rs (rs (rs v)))))
def shV (v : PV) : Cont := if nx (rs (rs (rs (rs (rs v))))) 3 = 2 then
    .vals [.agg [.q (mkRat (-1) 4) 64, .q (mkRat (-1) 4) 64], .agg [.q (mkRat (4 + 2 * nx v 4 + 1) 4) 64, .q (mkRat 0 4) 64], .agg [.q (mkRat (-1) 4) 64, .q (mkRat 1 4) 64]]
  else .vals [.agg [.q (mkRat (-1) 4) 64, .q (mkRat (-1) 4) 64], .agg [.q (mkRat (4 + 2 * nx v 4 + 1) 4) 64, .q (mkRat (-1) 4) 64], .agg [.q (mkRat (4 + 2 * nx v 4 + 1) 4) 64, .q (mkRat 1 4) 64], .agg [.q (mkRat (-1) 4) 64, .q (mkRat 1 4) 64]]
def lenV (v : PV) : Rat := mkRat (4 + 2 * nx v 4) (Int.toNat 4)
def lowV (v : PV) : Rat := mkRat (-1 - nx (rs v) 6) (Int.toNat 3)
def highV (v : PV) : Rat := mkRat (1 + nx (rs (rs v)) 6) (Int.toNat 3)
def spdV (v : PV) : Rat := mkRat 1 (4 + nx (rs (rs (rs v))) 8).toNat
def brkV (v : PV) : Rat := mkRat 1 (10 + nx (rs (rs (rs (rs v)))) 20).toNat
def lkV (v : PV) : PV := lkC (lenV v) (lowV v) (highV v) (spdV v) (brkV v) (shV v)
theorem step68a (v : PV) (hw : okW v = true) (nm : ByteArray) (bx by_ t : Rat) (c : Int) (hc : 0 < c) :
    (evRound Tryd.prog O68 [] pol68 Tryd.f77.ntmps 1 [0, 4, 5, 30, 31] b68 (st68 v nm bx by_ t .nil [] c 0)).run = some (.out .normal (st68 (r6 v) nm bx by_ t (.sl 3 16 0 1) [some ⟨16, .vals [lkV v]⟩] c 1)) := by
  have w1 := okW_rs hw
  have w2 := okW_rs w1
  have w3 := okW_rs w2
  have w4 := okW_rs w3
  have w5 := okW_rs w4
  have g0 := nx_range v (show (0 : Int) < 4 by omega)
  have g1 := nx_range (rs v) (show (0 : Int) < 6 by omega)
  have g2 := nx_range (rs (rs v)) (show (0 : Int) < 6 by omega)
  have g3 := nx_range (rs (rs (rs v))) (show (0 : Int) < 8 by omega)
  have g4 := nx_range (rs (rs (rs (rs v)))) (show (0 : Int) < 20 by omega)
  rw [r68a]
  by_cases hb : nx (rs (rs (rs (rs (rs v))))) 3 = 2
  · have hs : shV v = .vals [.agg [.q (mkRat (-1) 4) 64, .q (mkRat (-1) 4) 64], .agg [.q (mkRat (4 + 2 * nx v 4 + 1) 4) 64, .q (mkRat 0 4) 64], .agg [.q (mkRat (-1) 4) 64, .q (mkRat 1 4) 64]] := if_pos hb
    repeat rw [Tr.run_t (by simp only [hw, w1, w2, w3, w4, w5, Bool.true_and, Bool.and_eq_true, decide_eq_true_eq, smI_iff, Nat.blt_eq, Nat.ble_eq, List.length_cons, List.length_nil]; omega)]
    rw [Tr.run_ok]
    unfold lkV
    rw [hs]
    rfl
  · have hs : shV v = .vals [.agg [.q (mkRat (-1) 4) 64, .q (mkRat (-1) 4) 64], .agg [.q (mkRat (4 + 2 * nx v 4 + 1) 4) 64, .q (mkRat (-1) 4) 64], .agg [.q (mkRat (4 + 2 * nx v 4 + 1) 4) 64, .q (mkRat 1 4) 64], .agg [.q (mkRat (-1) 4) 64, .q (mkRat 1 4) 64]] := if_neg hb
    repeat rw [Tr.run_t (by simp only [hw, w1, w2, w3, w4, w5, Bool.true_and, Bool.and_eq_true, decide_eq_true_eq, smI_iff, Nat.blt_eq, Nat.ble_eq, List.length_cons, List.length_nil]; omega)]
    rw [Tr.run_f (decide_eq_false hb)]
    repeat rw [Tr.run_t (by simp only [hw, w1, w2, w3, w4, w5, Bool.true_and, Bool.and_eq_true, decide_eq_true_eq, smI_iff, Nat.blt_eq, Nat.ble_eq, List.length_cons, List.length_nil]; omega)]
    rw [Tr.run_ok]
    unfold lkV
    rw [hs]
    rfl
theorem step68b (v : PV) (hw : okW v = true) (nm : ByteArray) (bx by_ t : Rat) (c : Int) (a1 b1 c1 d1 e1 : Rat) (s1 : Cont) (hc : 1 < c) :
    (evRound Tryd.prog O68 [] pol68 Tryd.f77.ntmps 1 [0, 4, 5, 30, 31] b68 (st68 v nm bx by_ t (.sl 3 16 0 1) [some ⟨16, .vals [lkC a1 b1 c1 d1 e1 s1]⟩] c 1)).run = some (.out .normal (st68 (r6 v) nm bx by_ t (.sl 3 16 0 2) [some ⟨16, .vals [lkC a1 b1 c1 d1 e1 s1, lkV v]⟩] c 2)) := by
  have w1 := okW_rs hw
  have w2 := okW_rs w1
  have w3 := okW_rs w2
  have w4 := okW_rs w3
  have w5 := okW_rs w4
  have g0 := nx_range v (show (0 : Int) < 4 by omega)
  have g1 := nx_range (rs v) (show (0 : Int) < 6 by omega)
  have g2 := nx_range (rs (rs v)) (show (0 : Int) < 6 by omega)
  have g3 := nx_range (rs (rs (rs v))) (show (0 : Int) < 8 by omega)
  have g4 := nx_range (rs (rs (rs (rs v)))) (show (0 : Int) < 20 by omega)
  rw [r68b]
  by_cases hb : nx (rs (rs (rs (rs (rs v))))) 3 = 2
  · have hs : shV v = .vals [.agg [.q (mkRat (-1) 4) 64, .q (mkRat (-1) 4) 64], .agg [.q (mkRat (4 + 2 * nx v 4 + 1) 4) 64, .q (mkRat 0 4) 64], .agg [.q (mkRat (-1) 4) 64, .q (mkRat 1 4) 64]] := if_pos hb
    repeat rw [Tr.run_t (by simp only [hw, w1, w2, w3, w4, w5, Bool.true_and, Bool.and_eq_true, decide_eq_true_eq, smI_iff, Nat.blt_eq, Nat.ble_eq, List.length_cons, List.length_nil]; omega)]
    rw [Tr.run_ok]
    unfold lkV
    rw [hs]
    rfl
  · have hs : shV v = .vals [.agg [.q (mkRat (-1) 4) 64, .q (mkRat (-1) 4) 64], .agg [.q (mkRat (4 + 2 * nx v 4 + 1) 4) 64, .q (mkRat (-1) 4) 64], .agg [.q (mkRat (4 + 2 * nx v 4 + 1) 4) 64, .q (mkRat 1 4) 64], .agg [.q (mkRat (-1) 4) 64, .q (mkRat 1 4) 64]] := if_neg hb
    repeat rw [Tr.run_t (by simp only [hw, w1, w2, w3, w4, w5, Bool.true_and, Bool.and_eq_true, decide_eq_true_eq, smI_iff, Nat.blt_eq, Nat.ble_eq, List.length_cons, List.length_nil]; omega)]
    rw [Tr.run_f (decide_eq_false hb)]
    repeat rw [Tr.run_t (by simp only [hw, w1, w2, w3, w4, w5, Bool.true_and, Bool.and_eq_true, decide_eq_true_eq, smI_iff, Nat.blt_eq, Nat.ble_eq, List.length_cons, List.length_nil]; omega)]
    rw [Tr.run_ok]
    unfold lkV
    rw [hs]
    rfl
theorem step68c (v : PV) (hw : okW v = true) (nm : ByteArray) (bx by_ t : Rat) (c : Int) (a1 b1 c1 d1 e1 a2 b2 c2 d2 e2 : Rat) (s1 s2 : Cont) (hc : 2 < c) :
    (evRound Tryd.prog O68 [] pol68 Tryd.f77.ntmps 1 [0, 4, 5, 30, 31] b68 (st68 v nm bx by_ t (.sl 3 16 0 2) [some ⟨16, .vals [lkC a1 b1 c1 d1 e1 s1, lkC a2 b2 c2 d2 e2 s2]⟩] c 2)).run = some (.out .normal (st68 (r6 v) nm bx by_ t (.sl 3 16 0 3) [some ⟨16, .vals [lkC a1 b1 c1 d1 e1 s1, lkC a2 b2 c2 d2 e2 s2, lkV v]⟩] c 3)) := by
  have w1 := okW_rs hw
  have w2 := okW_rs w1
  have w3 := okW_rs w2
  have w4 := okW_rs w3
  have w5 := okW_rs w4
  have g0 := nx_range v (show (0 : Int) < 4 by omega)
  have g1 := nx_range (rs v) (show (0 : Int) < 6 by omega)
  have g2 := nx_range (rs (rs v)) (show (0 : Int) < 6 by omega)
  have g3 := nx_range (rs (rs (rs v))) (show (0 : Int) < 8 by omega)
  have g4 := nx_range (rs (rs (rs (rs v)))) (show (0 : Int) < 20 by omega)
  rw [r68c]
  by_cases hb : nx (rs (rs (rs (rs (rs v))))) 3 = 2
  · have hs : shV v = .vals [.agg [.q (mkRat (-1) 4) 64, .q (mkRat (-1) 4) 64], .agg [.q (mkRat (4 + 2 * nx v 4 + 1) 4) 64, .q (mkRat 0 4) 64], .agg [.q (mkRat (-1) 4) 64, .q (mkRat 1 4) 64]] := if_pos hb
    repeat rw [Tr.run_t (by simp only [hw, w1, w2, w3, w4, w5, Bool.true_and, Bool.and_eq_true, decide_eq_true_eq, smI_iff, Nat.blt_eq, Nat.ble_eq, List.length_cons, List.length_nil]; omega)]
    rw [Tr.run_ok]
    unfold lkV
    rw [hs]
    rfl
  · have hs : shV v = .vals [.agg [.q (mkRat (-1) 4) 64, .q (mkRat (-1) 4) 64], .agg [.q (mkRat (4 + 2 * nx v 4 + 1) 4) 64, .q (mkRat (-1) 4) 64], .agg [.q (mkRat (4 + 2 * nx v 4 + 1) 4) 64, .q (mkRat 1 4) 64], .agg [.q (mkRat (-1) 4) 64, .q (mkRat 1 4) 64]] := if_neg hb
    repeat rw [Tr.run_t (by simp only [hw, w1, w2, w3, w4, w5, Bool.true_and, Bool.and_eq_true, decide_eq_true_eq, smI_iff, Nat.blt_eq, Nat.ble_eq, List.length_cons, List.length_nil]; omega)]
    rw [Tr.run_f (decide_eq_false hb)]
    repeat rw [Tr.run_t (by simp only [hw, w1, w2, w3, w4, w5, Bool.true_and, Bool.and_eq_true, decide_eq_true_eq, smI_iff, Nat.blt_eq, Nat.ble_eq, List.length_cons, List.length_nil]; omega)]
    rw [Tr.run_ok]
    unfold lkV
    rw [hs]
    rfl
end Go.Proofs.YtgaokohhkdeomaaDoor.PE
namespace Go.Proofs.YtgaokohhkdeomaaDoor.PE
open Go
set_option maxRecDepth 100000
variable {G : World → (Nat → Prop) → Prop} (hG : GOk G)
def Pl68 (v z : PV) (u1 u2 u3 : Nat) (c i : Int) : Prop := okW v = true ∧ i = 0 ∧ 1 ≤ c ∧ c ≤ 3 ∧ z = zArm E E E E E E E ∧ u1 = 64 ∧ u2 = 64 ∧ u3 = 64
noncomputable def l68 : LSpec := fun ls K => match ls with
  | ⟨[.ptr 0 1 0 0 [], .ptr 1 12 0 0 [], .ptr 2 12 0 0 [], .i .i64 c, .i .i64 i], [some ⟨1, .vals [.agg [.w v]]⟩, some ⟨12, .vals [z]⟩, some ⟨12, .vals [.agg [.s nm, .agg [.agg [.q bx u1, .q by_ u2], .agg [.bl false, .q t u3]], .nil]]⟩]⟩ =>
    .br (decP (Pl68 v z u1 u2 u3 c i)) (.br (decide (c = 1)) (K (.exit 0) (st68 (r6 v) nm bx by_ t (.sl 3 16 0 1) [some ⟨16, .vals [lkV v]⟩] c 1))
      (.br (decide (c = 2)) (K (.exit 0) (st68 (r6 (r6 v)) nm bx by_ t (.sl 3 16 0 2) [some ⟨16, .vals [lkV v, lkV (r6 v)]⟩] c 2))
        (K (.exit 0) (st68 (r6 (r6 (r6 v))) nm bx by_ t (.sl 3 16 0 3) [some ⟨16, .vals [lkV v, lkV (r6 v), lkV (r6 (r6 v))]⟩] c 3)))) (.no 1)
  | _ => .no 1
include hG in
theorem orc68 : OrcOK Tryd.prog G O68 := .cons (ok45 hG) (.cons (ok81 hG) (.cons (ok104 hG) (.cons (ok105 hG) .nil)))
include hG in
theorem rnd68 {ls ls' : LS} {e : Exit} (hl : 1 ≤ ls.h.length) (h : (evRound Tryd.prog O68 [] pol68 Tryd.f77.ntmps 1 [0, 4, 5, 30, 31] b68 ls).run = some (.out e ls')) : Rnd Tryd.prog G Tryd.f77.ntmps 1 [0, 4, 5, 30, 31] b68 ls e ls' :=
  round_ok hG (orc68 hG) mix (L := []) (pol := pol68) (O := O68) (LpsOK.none (by kernel_rfl)) hl h
theorem okW_r6 {v : PV} (h : okW v = true) : okW (r6 v) = true := okW_rs (okW_rs (okW_rs (okW_rs (okW_rs (okW_rs h)))))
include hG in
theorem loop68 : LoopOK Tryd.prog G Tryd.f77.ntmps 1 [0, 4, 5, 30, 31] b68 l68 := by
  intro ls K y hm h
  unfold l68 at h
  split at h
  case h_2 => cases h
  rename_i c i v z nm bx u1 by_ u2 t u3
  obtain ⟨hc, hr⟩ := Tr.of_br h
  obtain ⟨hw, rfl, h1, h3, rfl, rfl, rfl, rfl⟩ := decP_iff.1 hc
  have a1 := rnd68 hG (ls := st68 v nm bx by_ t .nil [] c 0) (by simp [st68]) (step68a v hw nm bx by_ t c (by omega))
  have w1 := okW_r6 hw
  by_cases e1 : c = 1
  · subst e1
    rw [Tr.run_t (by decide)] at hr
    have a2 := rnd68 hG (ls := st68 (r6 v) nm bx by_ t (.sl 3 16 0 1) [some ⟨16, .vals [lkV v]⟩] 1 1) (e := .exit 0) (by simp [st68]) ((congrArg Tr.run (r68b (r6 v) nm bx by_ t 1 1 _ _ _ _ _ _)).trans ((Tr.run_f (by decide)).trans rfl))
    exact ⟨_, _, goes_ok (.more _ _ _ _ a1 (.last _ _ _ a2 (by simp))), hr⟩
  · rw [Tr.run_f (decide_eq_false e1)] at hr
    have a2 := rnd68 hG (ls := st68 (r6 v) nm bx by_ t (.sl 3 16 0 1) [some ⟨16, .vals [lkV v]⟩] c 1) (by simp [st68]) (step68b (r6 v) w1 nm bx by_ t c _ _ _ _ _ _ (by omega))
    by_cases e2 : c = 2
    · subst e2
      rw [Tr.run_t (by decide)] at hr
      have a3 := rnd68 hG (ls := st68 (r6 (r6 v)) nm bx by_ t (.sl 3 16 0 2) [some ⟨16, .vals [lkV v, lkV (r6 v)]⟩] 2 2) (e := .exit 0) (by simp [st68]) ((congrArg Tr.run (r68c (r6 (r6 v)) nm bx by_ t 2 2 _ _ _ _ _ _ _ _ _ _ _ _)).trans ((Tr.run_f (by decide)).trans rfl))
      exact ⟨_, _, goes_ok (.more _ _ _ _ a1 (.more _ _ _ _ a2 (.last _ _ _ a3 (by simp)))), hr⟩
    · have e3 : c = 3 := by omega
      subst e3
      rw [Tr.run_f (by decide)] at hr
      have a3 := rnd68 hG (ls := st68 (r6 (r6 v)) nm bx by_ t (.sl 3 16 0 2) [some ⟨16, .vals [lkV v, lkV (r6 v)]⟩] 3 2) (by simp [st68]) (step68c (r6 (r6 v)) (okW_r6 w1) nm bx by_ t 3 _ _ _ _ _ _ _ _ _ _ _ _ (by omega))
      have a4 := rnd68 hG (ls := st68 (r6 (r6 (r6 v))) nm bx by_ t (.sl 3 16 0 3) [some ⟨16, .vals [lkV v, lkV (r6 v), lkV (r6 (r6 v))]⟩] 3 3) (e := .exit 0) (by simp [st68]) ((congrArg Tr.run (r68d (r6 (r6 (r6 v))) nm bx by_ t 3 3 _ _ _ _ _ _ _ _ _ _ _ _ _ _ _ _ _ _)).trans ((Tr.run_f (by decide)).trans rfl))
      exact ⟨_, _, goes_ok (.more _ _ _ _ a1 (.more _ _ _ _ a2 (.more _ _ _ _ a3 (.last _ _ _ a4 (by simp))))), hr⟩
theorem e68 (v : PV) : evF Tryd.prog O68 [(4, l68)] pol68 Tryd.f77 [.ptr 0 1 0 0 [], .i .i64 0] [⟨1, .vals [.agg [.w v]]⟩] retK =
  Tr.br (ix ((0 : Int)) ((↑[PV.s (ByteArray.mk #[(111 : UInt8), (110 : UInt8), (101 : UInt8)]), PV.s (ByteArray.mk #[(116 : UInt8), (119 : UInt8), (111 : UInt8)]), PV.s (ByteArray.mk #[(116 : UInt8), (104 : UInt8), (114 : UInt8), (101 : UInt8), (101 : UInt8)]), PV.s (ByteArray.mk #[(102 : UInt8), (111 : UInt8), (117 : UInt8), (114 : UInt8)])].length : Int))) (.br (ib ((40 : Int) * (0 : Int))) (.br (smI ((40 : Int) * (0 : Int)) && smI (0 : Int)) (.br (okW v && decide ((0 : Int) < (4 : Int)) && decide ((4 : Int) ≤ (4294967296 : Int))) (.br (ix (nx v (4 : Int)) ((↑[(0 : Int), (1 : Int), (-1 : Int), (1 : Int)].length : Int))) (.br (okW (rs v) && decide ((0 : Int) < (3 : Int)) && decide ((3 : Int) ≤ (4294967296 : Int))) (.br (ib ((1 : Int) + nx (rs v) (3 : Int))) (.br (decide ((0 : Int) < (1 : Int) + nx (rs v) (3 : Int)) && decide ((1 : Int) + nx (rs v) (3 : Int) < (4611686018427387904 : Int)) && decide ((-4611686018427387904 : Int) < [(0 : Int), (1 : Int), (-1 : Int), (1 : Int)].getD (nx v (4 : Int)).toNat (0 : Int)) && decide ([(0 : Int), (1 : Int), (-1 : Int), (1 : Int)].getD (nx v (4 : Int)).toNat (0 : Int) < (4611686018427387904 : Int))) (.br (okW (rs (rs v)) && decide ((0 : Int) < (3 : Int)) && decide ((3 : Int) ≤ (4294967296 : Int))) (.br (ib ((1 : Int) + nx (rs (rs v)) (3 : Int))) (.br (decP (Pl68 (rs (rs (rs v))) (PV.agg [PV.s (ByteArray.mk #[]), PV.agg [PV.agg [PV.agg [PV.bl false, PV.s (ByteArray.mk #[]), PV.s (ByteArray.mk #[])], PV.agg [PV.bl false, PV.s (ByteArray.mk #[]), PV.s (ByteArray.mk #[])]], PV.agg [PV.bl false, PV.agg [PV.bl false, PV.s (ByteArray.mk #[]), PV.s (ByteArray.mk #[])]]], PV.nil]) (64 : Nat) (64 : Nat) (64 : Nat) ((1 : Int) + nx (rs (rs v)) (3 : Int)) (0 : Int))) (.br (decide ((1 : Int) + nx (rs (rs v)) (3 : Int) = (1 : Int))) (.ok (.ret (PV.agg [PV.s (ByteArray.mk #[(111 : UInt8), (110 : UInt8), (101 : UInt8)]), PV.agg [PV.agg [PV.q (mkRat ((40 : Int) * (0 : Int)) (4 : Nat)) 64, PV.q (mkRat (0 : Int) (4 : Nat)) 64], PV.agg [PV.bl false, PV.q (mkRat ([(0 : Int), (1 : Int), (-1 : Int), (1 : Int)].getD (nx v (4 : Int)).toNat (0 : Int)) ((1 : Int) + nx (rs v) (3 : Int)).toNat) 64]], PV.fr 16 (.vals [PV.agg [PV.q (lenV (rs (rs (rs v)))) 64, PV.q (lowV (rs (rs (rs v)))) 64, PV.q (highV (rs (rs (rs v)))) 64, PV.q (spdV (rs (rs (rs v)))) 64, PV.q (brkV (rs (rs (rs v)))) 64, PV.lst 6 (shV (rs (rs (rs v))))]])]) [Blk.mk 1 (.vals [PV.agg [(r6 (rs (rs (rs v)))).w]])])) (.br (decide ((1 : Int) + nx (rs (rs v)) (3 : Int) = (2 : Int))) (.ok (.ret (PV.agg [PV.s (ByteArray.mk #[(111 : UInt8), (110 : UInt8), (101 : UInt8)]), PV.agg [PV.agg [PV.q (mkRat ((40 : Int) * (0 : Int)) (4 : Nat)) 64, PV.q (mkRat (0 : Int) (4 : Nat)) 64], PV.agg [PV.bl false, PV.q (mkRat ([(0 : Int), (1 : Int), (-1 : Int), (1 : Int)].getD (nx v (4 : Int)).toNat (0 : Int)) ((1 : Int) + nx (rs v) (3 : Int)).toNat) 64]], PV.fr 16 (.vals [PV.agg [PV.q (lenV (rs (rs (rs v)))) 64, PV.q (lowV (rs (rs (rs v)))) 64, PV.q (highV (rs (rs (rs v)))) 64, PV.q (spdV (rs (rs (rs v)))) 64, PV.q (brkV (rs (rs (rs v)))) 64, PV.lst 6 (shV (rs (rs (rs v))))], PV.agg [PV.q (lenV (r6 (rs (rs (rs v))))) 64, PV.q (lowV (r6 (rs (rs (rs v))))) 64, PV.q (highV (r6 (rs (rs (rs v))))) 64, PV.q (spdV (r6 (rs (rs (rs v))))) 64, PV.q (brkV (r6 (rs (rs (rs v))))) 64, PV.lst 6 (shV (r6 (rs (rs (rs v)))))]])]) [Blk.mk 1 (.vals [PV.agg [(r6 (r6 (rs (rs (rs v))))).w]])])) (.ok (.ret (PV.agg [PV.s (ByteArray.mk #[(111 : UInt8), (110 : UInt8), (101 : UInt8)]), PV.agg [PV.agg [PV.q (mkRat ((40 : Int) * (0 : Int)) (4 : Nat)) 64, PV.q (mkRat (0 : Int) (4 : Nat)) 64], PV.agg [PV.bl false, PV.q (mkRat ([(0 : Int), (1 : Int), (-1 : Int), (1 : Int)].getD (nx v (4 : Int)).toNat (0 : Int)) ((1 : Int) + nx (rs v) (3 : Int)).toNat) 64]], PV.fr 16 (.vals [PV.agg [PV.q (lenV (rs (rs (rs v)))) 64, PV.q (lowV (rs (rs (rs v)))) 64, PV.q (highV (rs (rs (rs v)))) 64, PV.q (spdV (rs (rs (rs v)))) 64, PV.q (brkV (rs (rs (rs v)))) 64, PV.lst 6 (shV (rs (rs (rs v))))], PV.agg [PV.q (lenV (r6 (rs (rs (rs v))))) 64, PV.q (lowV (r6 (rs (rs (rs v))))) 64, PV.q (highV (r6 (rs (rs (rs v))))) 64, PV.q (spdV (r6 (rs (rs (rs v))))) 64, PV.q (brkV (r6 (rs (rs (rs v))))) 64, PV.lst 6 (shV (r6 (rs (rs (rs v)))))], PV.agg [PV.q (lenV (r6 (r6 (rs (rs (rs v)))))) 64, PV.q (lowV (r6 (r6 (rs (rs (rs v)))))) 64, PV.q (highV (r6 (r6 (rs (rs (rs v)))))) 64, PV.q (spdV (r6 (r6 (rs (rs (rs v)))))) 64, PV.q (brkV (r6 (r6 (rs (rs (rs v)))))) 64, PV.lst 6 (shV (r6 (r6 (rs (rs (rs v))))))]])]) [Blk.mk 1 (.vals [PV.agg [(r6 (r6 (r6 (rs (rs (rs v)))))).w]])])))) (.no 1)) (.no 4002)) (.no 1)) (.no 1)) (.no 3006)) (.no 1)) (.no 3010)) (.no 1)) (.no 1)) (.no 3015)) (.no 2005) := by kernel_rfl
def itR6 : Nat → PV → PV
  | 0, v => v
  | k + 1, v => itR6 k (r6 v)
def lkD (v : PV) : Lk := ⟨lenV v, lowV v, highV v, spdV v, brkV v, (shV v).len, fun i => dq (fldV ((shV v).get i) 0), fun i => dq (fldV ((shV v).get i) 1)⟩
def armD (v : PV) : Am := ⟨⟨#[111, 110, 101]⟩, mkRat (40 * 0) 4, mkRat 0 4, mkRat ([(0 : Int), 1, -1, 1].getD (nx v 4).toNat 0) (1 + nx (rs v) 3).toNat, (1 + nx (rs (rs v)) 3).toNat, fun j => lkD (itR6 j (rs (rs (rs v))))⟩
theorem shV_get (v : PV) (i : Nat) (h : i < (shV v).len) : (shV v).get i = .agg [.q (dq (fldV ((shV v).get i) 0)) 64, .q (dq (fldV ((shV v).get i) 1)) 64] := by
  unfold shV at *
  by_cases hb : nx (rs (rs (rs (rs (rs v))))) 3 = 2
  · simp only [hb, if_true, Cont.len, List.length_cons, List.length_nil] at h ⊢
    match i, h with
    | 0, _ => rfl
    | 1, _ => rfl
    | 2, _ => rfl
    | i + 3, h => omega
  · simp only [hb, if_false, Cont.len, List.length_cons, List.length_nil] at h ⊢
    match i, h with
    | 0, _ => rfl
    | 1, _ => rfl
    | 2, _ => rfl
    | 3, _ => rfl
    | i + 4, h => omega
theorem lkV_le (v : PV) : VLe (lkV v) (lkPV (lkD v)) := by
  refine VLe.agg (VLeL.cons (.refl _) (VLeL.cons (.refl _) (VLeL.cons (.refl _) (VLeL.cons (.refl _) (VLeL.cons (.refl _) (VLeL.cons ?_ .nil))))))
  refine VLe.lst rfl fun i hi => ?_
  have := shV_get v i hi
  have e : (Cont.fn (lkD v).np (pv (lkD v).px (lkD v).py)).get i = (shV v).get i := this.symm
  rw [e]
  exact .refl _
theorem rle_arm (nm : ByteArray) (bx by_ t : Rat) (vs : List PV) (n : Nat) (f : Nat → PV) (hl : vs.length = n) (h : ∀ (i : Nat) (v : PV), vs[i]? = some v → noRef 8 v = true ∧ VLe v (f i)) :
    RLe (frA nm bx by_ t (.fr 16 (.vals vs))) (frA nm bx by_ t (.fr 16 (.fn n f))) := by
  subst hl
  exact ⟨fun m => .refl _, fun m => KsLe.one (KLe.fn rfl h)⟩
def armFr (A : Am) : PV := frA A.name A.bx A.by_ A.t (.fr 16 (.fn A.n (fun j => lkPV (A.lk j))))
def s68 : Spec := fun args hs K => match args, hs with
  | [.ptr 0 1 0 0 [], .i .i64 k], [⟨1, .vals [.agg [.w v]]⟩] => .br (okW v && decide (k = 0)) (K (armFr (armD v)) [⟨1, .vals [.agg [.w (itR6 (armD v).n (rs (rs (rs v))))]]⟩]) (.no 1)
  | _, _ => .no 1
include hG in
theorem ok68 : SpecOK Tryd.prog G 77 s68 := by
  refine spec_of hG (orc68 hG) mix enter68 (L := [(4, l68)]) (pol := pol68) fun args hs K x h => ?_
  unfold s68 at h
  split at h
  case h_2 => cases h
  rename_i k v
  obtain ⟨hc, hr⟩ := Tr.of_br h
  simp only [Bool.and_eq_true, decide_eq_true_eq] at hc
  obtain ⟨hw, rfl⟩ := hc
  refine ⟨lps1 (b := b68) (live := [0, 4, 5, 30, 31]) (sp := l68) (m := 1) (by kernel_rfl) (by kernel_rfl) (by kernel_rfl) (loop68 hG), ?_⟩
  have w1 := okW_rs hw
  have w2 := okW_rs w1
  have w3 := okW_rs w2
  have g0 := nx_range v (show (0 : Int) < 4 by omega)
  have g1 := nx_range (rs v) (show (0 : Int) < 3 by omega)
  have g2 := nx_range (rs (rs v)) (show (0 : Int) < 3 by omega)
  have gt : ∀ i : Nat, -2 < [(0 : Int), 1, -1, 1].getD i 0 ∧ [(0 : Int), 1, -1, 1].getD i 0 < 2 := by
    intro i
    match i with
    | 0 => decide
    | 1 => decide
    | 2 => decide
    | 3 => decide
    | i + 4 => exact ⟨by show (-2 : Int) < 0; decide, by show (0 : Int) < 2; decide⟩
  have gt' := gt (nx v 4).toNat
  rw [e68]
  rw [Tr.run_t (by decide), Tr.run_t (by decide), Tr.run_t (by decide), Tr.run_t (by rw [hw]; decide), Tr.run_t (by simp only [Bool.and_eq_true, decide_eq_true_eq, List.length_cons, List.length_nil]; omega), Tr.run_t (by rw [w1]; decide),
    Tr.run_t (by simp only [Bool.and_eq_true, decide_eq_true_eq]; omega), Tr.run_t (by simp only [Bool.and_eq_true, decide_eq_true_eq]; omega), Tr.run_t (by rw [w2]; decide), Tr.run_t (by simp only [Bool.and_eq_true, decide_eq_true_eq]; omega),
    Tr.run_t (decP_iff.2 ⟨w3, rfl, by omega, by omega, rfl, rfl, rfl, rfl⟩)]
  have hn : (armD v).n = (1 + nx (rs (rs v)) 3).toNat := rfl
  have one : ∀ (vs : List PV), vs.length = (armD v).n → (∀ i u, vs[i]? = some u → u = lkV (itR6 i (rs (rs (rs v))))) →
      RLe (frA (armD v).name (armD v).bx (armD v).by_ (armD v).t (.fr 16 (.vals vs))) (armFr (armD v)) := by
    intro vs hl hv
    refine rle_arm _ _ _ _ _ _ _ hl fun i u hu => ?_
    rw [hv i u hu]
    exact ⟨rfl, lkV_le _⟩
  by_cases e1 : 1 + nx (rs (rs v)) 3 = 1
  · have hn1 : (armD v).n = 1 := by omega
    rw [hn1] at hr
    rw [Tr.run_t (decide_eq_true e1)]
    refine ⟨_, _, _, rfl, one [lkV (rs (rs (rs v)))] (by rw [hn1]; rfl) (fun i u hu => ?_), hr⟩
    match i, hu with
    | 0, hu => exact (Option.some.inj hu).symm
    | i + 1, hu => simp at hu
  · rw [Tr.run_f (decide_eq_false e1)]
    by_cases e2 : 1 + nx (rs (rs v)) 3 = 2
    · have hn1 : (armD v).n = 2 := by omega
      rw [hn1] at hr
      rw [Tr.run_t (decide_eq_true e2)]
      refine ⟨_, _, _, rfl, one [lkV (rs (rs (rs v))), lkV (r6 (rs (rs (rs v))))] (by rw [hn1]; rfl) (fun i u hu => ?_), hr⟩
      match i, hu with
      | 0, hu => exact (Option.some.inj hu).symm
      | 1, hu => exact (Option.some.inj hu).symm
      | i + 2, hu => simp at hu
    · have hn1 : (armD v).n = 3 := by omega
      rw [hn1] at hr
      rw [Tr.run_f (decide_eq_false e2)]
      refine ⟨_, _, _, rfl, one [lkV (rs (rs (rs v))), lkV (r6 (rs (rs (rs v)))), lkV (r6 (r6 (rs (rs (rs v)))))] (by rw [hn1]; rfl) (fun i u hu => ?_), hr⟩
      match i, hu with
      | 0, hu => exact (Option.some.inj hu).symm
      | 1, hu => exact (Option.some.inj hu).symm
      | 2, hu => exact (Option.some.inj hu).symm
      | i + 3, hu => simp at hu
theorem enter15 : Enters Tryd.prog 18 Tryd.f18 (bodyC Tryd.f18) := ⟨Tryd.func18, by kernel_rfl, rfl⟩
def pol15 : Pol := { own := [6], wr := [(77, [0])] }
theorem e15 (v : PV) : evF Tryd.prog [(77, s68)] [] pol15 Tryd.f18 [.w v] [] retK =
  Tr.br (okW v && decide ((0 : Int) = (0 : Int))) (.br ((armD v).n.ble (armD v).n) (.ok (.ret (PV.agg [PV.s (armD v).name, PV.agg [PV.agg [PV.q (armD v).bx 64, PV.q (armD v).by_ 64], PV.agg [PV.bl false, PV.q (armD v).t 64]], PV.fr 16 (.fn (armD v).n fun (j : Nat) => PV.agg [PV.q ((armD v).lk (j + (0 : Nat))).len 64, PV.q ((armD v).lk (j + (0 : Nat))).low 64, PV.q ((armD v).lk (j + (0 : Nat))).high 64, PV.q ((armD v).lk (j + (0 : Nat))).spd 64, PV.q ((armD v).lk (j + (0 : Nat))).brk 64, PV.lst 6 (.fn ((armD v).lk (j + (0 : Nat))).np fun (a : Nat) => PV.agg [PV.q (((armD v).lk (j + (0 : Nat))).px a) 64, PV.q (((armD v).lk (j + (0 : Nat))).py a) 64])])]) [])) (.no 15)) (.no 1) := by kernel_rfl
def s15 : Spec := fun args hs K => match args, hs with
  | [.w v], [] => .br (okW v) (K (armFr (armD v)) []) (.no 1)
  | _, _ => .no 1
include hG in
theorem ok15 : SpecOK Tryd.prog G 18 s15 := by
  refine spec_of hG (.cons (ok68 hG) .nil) mix enter15 (L := []) (pol := pol15) fun args hs K x h => ?_
  unfold s15 at h
  split at h
  case h_2 => cases h
  rename_i v
  obtain ⟨hc, hr⟩ := Tr.of_br h
  refine ⟨LpsOK.none (by kernel_rfl), _, _, _, ?_, .refl _, hr⟩
  rw [e15, Tr.run_t (by rw [hc]; decide), Tr.run_t (by rw [Nat.ble_eq]; omega), Tr.run_ok]
  rfl

theorem smQ_mk {n : Int} {d : Nat} (hd : d ≠ 0) (hn : n.natAbs ≤ 1000000) (hd2 : d ≤ 1000) : smQ (mkRat n d) = true :=
  smQ_iff.2 ⟨Nat.le_trans (mkRat_num_le n hd) hn, Nat.le_trans (mkRat_den_le n hd) hd2⟩
theorem mk_posI {n : Int} {d : Nat} (hn : 0 < n) (hd : 0 < d) : (0 : Rat) < mkRat n d := by
  rw [show n = ((n.toNat : Nat) : Int) by omega]; exact Prof.mk_pos (by omega) hd
theorem mk_negI {n : Int} {d : Nat} (hn : n < 0) (hd : 0 < d) : mkRat n d < (0 : Rat) := by
  have h := mk_posI (n := -n) (d := d) (by omega) hd
  rw [← Rat.neg_mkRat] at h
  grind
def shF (g : Int) (b : Bool) : Cont := match b with
  | true => .vals [.agg [.q (mkRat (-1) 4) 64, .q (mkRat (-1) 4) 64], .agg [.q (mkRat (4 + 2 * g + 1) 4) 64, .q (mkRat 0 4) 64], .agg [.q (mkRat (-1) 4) 64, .q (mkRat 1 4) 64]]
  | false => .vals [.agg [.q (mkRat (-1) 4) 64, .q (mkRat (-1) 4) 64], .agg [.q (mkRat (4 + 2 * g + 1) 4) 64, .q (mkRat (-1) 4) 64], .agg [.q (mkRat (4 + 2 * g + 1) 4) 64, .q (mkRat 1 4) 64], .agg [.q (mkRat (-1) 4) 64, .q (mkRat 1 4) 64]]
theorem shV_F (v : PV) : shV v = shF (nx v 4) (decide (nx (rs (rs (rs (rs (rs v))))) 3 = 2)) := by
  unfold shV
  by_cases hb : nx (rs (rs (rs (rs (rs v))))) 3 = 2
  · rw [if_pos hb, decide_eq_true hb]; rfl
  · rw [if_neg hb, decide_eq_false hb]; rfl
theorem shF_ok : ∀ (g : Nat) (b : Bool), g < 4 → polyB (shF g b).len (fun i => dq (fldV ((shF g b).get i) 0)) (fun i => dq (fldV ((shF g b).get i) 1)) = true
  | 0, true, _ => by kernel_rfl
  | 1, true, _ => by kernel_rfl
  | 2, true, _ => by kernel_rfl
  | 3, true, _ => by kernel_rfl
  | 0, false, _ => by kernel_rfl
  | 1, false, _ => by kernel_rfl
  | 2, false, _ => by kernel_rfl
  | 3, false, _ => by kernel_rfl
theorem lkB_V (v : PV) : lkB (lkD v) = true := by
  have g0 := nx_range v (show (0 : Int) < 4 by omega)
  have g1 := nx_range (rs v) (show (0 : Int) < 6 by omega)
  have g2 := nx_range (rs (rs v)) (show (0 : Int) < 6 by omega)
  have g3 := nx_range (rs (rs (rs v))) (show (0 : Int) < 8 by omega)
  have g4 := nx_range (rs (rs (rs (rs v)))) (show (0 : Int) < 20 by omega)
  have t3 : Int.toNat 3 = 3 := rfl
  have t4 : Int.toNat 4 = 4 := rfl
  have p := shF_ok (nx v 4).toNat (decide (nx (rs (rs (rs (rs (rs v))))) 3 = 2)) (by omega)
  rw [Int.toNat_of_nonneg g0.1, ← shV_F] at p
  have hlh : lowV v < highV v := by
    have a := mk_negI (n := -1 - nx (rs v) 6) (d := 3) (by omega) (by omega)
    have b := mk_posI (n := 1 + nx (rs (rs v)) 6) (d := 3) (by omega) (by omega)
    unfold lowV highV
    rw [t3]
    grind
  simp only [lkB, Bool.and_eq_true, decide_eq_true_eq]
  refine ⟨⟨⟨⟨⟨⟨⟨⟨⟨?_, ?_⟩, ?_⟩, ?_⟩, ?_⟩, ?_⟩, hlh⟩, ?_⟩, ?_⟩, p⟩
  · exact smQ_mk (by omega) (by omega) (by omega)
  · exact smQ_mk (by omega) (by omega) (by omega)
  · exact smQ_mk (by omega) (by omega) (by omega)
  · exact smQ_mk (by omega) (by omega) (by omega)
  · exact smQ_mk (by omega) (by omega) (by omega)
  · exact mk_posI (by omega) (by omega)
  · exact mk_posI (by omega) (by omega)
  · exact mk_posI (by omega) (by omega)
theorem armB_V (v : PV) : armB (armD v) = true := by
  have g0 := nx_range v (show (0 : Int) < 4 by omega)
  have g1 := nx_range (rs v) (show (0 : Int) < 3 by omega)
  have g2 := nx_range (rs (rs v)) (show (0 : Int) < 3 by omega)
  have hn : (armD v).n = (1 + nx (rs (rs v)) 3).toNat := rfl
  simp only [armB, Bool.and_eq_true, decide_eq_true_eq, List.all_eq_true]
  refine ⟨⟨⟨⟨⟨⟨by kernel_rfl, by kernel_rfl⟩, by kernel_rfl⟩, ?_⟩, by omega⟩, by omega⟩, fun j _ => lkB_V _⟩
  have gt : ∀ i : Nat, ([(0 : Int), 1, -1, 1].getD i 0).natAbs ≤ 1 := by
    intro i
    match i with
    | 0 => decide
    | 1 => decide
    | 2 => decide
    | 3 => decide
    | i + 4 => show (0 : Int).natAbs ≤ 1; decide
  have := gt (nx v 4).toNat
  exact smQ_mk (by omega) (by omega) (by omega)
end Go.Proofs.YtgaokohhkdeomaaDoor.PE
namespace Go.Proofs.YtgaokohhkdeomaaDoor.PE
open Go
set_option maxRecDepth 100000
variable {G : World → (Nat → Prop) → Prop} (hG : GOk G)
noncomputable def b106a : Code := (loopsOf (bodyC Tryd.f122)).getD 0 .skip
noncomputable def b106b : Code := (loopsOf (bodyC Tryd.f122)).getD 1 .skip
def pol106 : Pol := { live := [(3, [1, 4, 5, 12, 13, 14]), (8, [1, 4, 5, 26, 27, 28])] }
theorem enter106 : Enters Tryd.prog 122 Tryd.f122 (bodyC Tryd.f122) := ⟨Tryd.func122, by kernel_rfl, rfl⟩
def st106a (x : Rat) (w : Nat) (bl : List UInt8) (i : Nat) : LS := ⟨[.ptr 0 3 0 0 [], .i .i64 (bv (bl.take i) : Nat), .i .i64 0, .lst 1 (.ints .u8 (bl.map fun c => (c.toNat : Int))), .i .i64 (bl.length : Nat), .i .i64 (i : Nat)], [some ⟨3, .vals [.q x w]⟩]⟩
def st106b (x : Rat) (w : Nat) (a : Int) (bl : List UInt8) (i : Nat) : LS := ⟨[.ptr 0 3 0 0 [], .i .i64 a, .i .i64 (bv (bl.take i) : Nat), .lst 1 (.ints .u8 (bl.map fun c => (c.toNat : Int))), .i .i64 (bl.length : Nat), .i .i64 (i : Nat)], [some ⟨3, .vals [.q x w]⟩]⟩
theorem r106a (x : Rat) (w : Nat) (a b n i : Int) (l : List Int) : evRound Tryd.prog [] [] pol106 Tryd.f122.ntmps 0 [1, 4, 5, 12, 13, 14] b106a ⟨[.ptr 0 3 0 0 [], .i .i64 a, .i .i64 b, .lst 1 (.ints .u8 l), .i .i64 n, .i .i64 i], [some ⟨3, .vals [.q x w]⟩]⟩ =
  Tr.br (decide (i < n)) (.br (ix (i) ((↑l.length : Int))) (.br (ib ((256 : Int) * a)) (.br (ib ((256 : Int) * a + IntKind.i64.wrap (l.getD i.toNat (0 : Int)))) (.br (ib (i + (1 : Int))) (.ok (.out .normal (LS.mk [.ptr 0 3 0 0 [], .i .i64 ((256 : Int) * a + IntKind.i64.wrap (l.getD i.toNat (0 : Int))), .i .i64 b, .lst 1 (.ints .u8 l), .i .i64 n, .i .i64 (i + (1 : Int))] [some (.mk 3 (.vals [.q x w]))]))) (.no 7002)) (.no 6002)) (.no 6005)) (.no 5003)) (.ok (.out (.exit 0) (LS.mk [.ptr 0 3 0 0 [], .i .i64 a, .i .i64 b, .lst 1 (.ints .u8 l), .i .i64 n, .i .i64 i] [some (.mk 3 (.vals [.q x w]))]))) := by kernel_rfl
theorem r106b (x : Rat) (w : Nat) (a b n i : Int) (l : List Int) : evRound Tryd.prog [] [] pol106 Tryd.f122.ntmps 0 [1, 4, 5, 26, 27, 28] b106b ⟨[.ptr 0 3 0 0 [], .i .i64 a, .i .i64 b, .lst 1 (.ints .u8 l), .i .i64 n, .i .i64 i], [some ⟨3, .vals [.q x w]⟩]⟩ =
  Tr.br (decide (i < n)) (.br (ix (i) ((↑l.length : Int))) (.br (ib ((256 : Int) * b)) (.br (ib ((256 : Int) * b + IntKind.i64.wrap (l.getD i.toNat (0 : Int)))) (.br (ib (i + (1 : Int))) (.ok (.out .normal (LS.mk [.ptr 0 3 0 0 [], .i .i64 a, .i .i64 ((256 : Int) * b + IntKind.i64.wrap (l.getD i.toNat (0 : Int))), .lst 1 (.ints .u8 l), .i .i64 n, .i .i64 (i + (1 : Int))] [some (.mk 3 (.vals [.q x w]))]))) (.no 12002)) (.no 11002)) (.no 11005)) (.no 10003)) (.ok (.out (.exit 2) (LS.mk [.ptr 0 3 0 0 [], .i .i64 a, .i .i64 b, .lst 1 (.ints .u8 l), .i .i64 n, .i .i64 i] [some (.mk 3 (.vals [.q x w]))]))) := by kernel_rfl
def bI (l : List Int) : Int := (bv (l.map fun n => UInt8.ofNat n.toNat) : Nat)
theorem bI_map (bl : List UInt8) : bI (bl.map fun c => (c.toNat : Int)) = (bv bl : Nat) := by
  unfold bI
  rw [List.map_map]
  have : (List.map ((fun n : Int => UInt8.ofNat n.toNat) ∘ fun c : UInt8 => (c.toNat : Int)) bl) = bl := by
    rw [List.map_congr_left (g := id) (fun c _ => by simp), List.map_id]
  rw [this]
def F106 (l : List Int) (n i : Int) : Prop := ∃ bl : List UInt8, l = (bl.map fun c => (c.toNat : Int)) ∧ n = (bl.length : Nat) ∧ i = 0 ∧ bl.length ≤ 2
noncomputable def l106a : LSpec := fun ls K => match ls with
  | ⟨[.ptr 0 3 0 0 [], .i .i64 a, .i .i64 b, .lst 1 (.ints .u8 l), .i .i64 n, .i .i64 i], [some ⟨3, .vals [.q x w]⟩]⟩ => .br (decP (F106 l n i ∧ a = 0 ∧ b = 0)) (K (.exit 0) ⟨[.ptr 0 3 0 0 [], .i .i64 (bI l), .i .i64 b, .lst 1 (.ints .u8 l), .i .i64 n, .i .i64 n], [some ⟨3, .vals [.q x w]⟩]⟩) (.no 1)
  | _ => .no 1
noncomputable def l106b : LSpec := fun ls K => match ls with
  | ⟨[.ptr 0 3 0 0 [], .i .i64 a, .i .i64 b, .lst 1 (.ints .u8 l), .i .i64 n, .i .i64 i], [some ⟨3, .vals [.q x w]⟩]⟩ => .br (decP (F106 l n i ∧ b = 0)) (K (.exit 2) ⟨[.ptr 0 3 0 0 [], .i .i64 a, .i .i64 (bI l), .lst 1 (.ints .u8 l), .i .i64 n, .i .i64 n], [some ⟨3, .vals [.q x w]⟩]⟩) (.no 1)
  | _ => .no 1
theorem bv2_lt (bl : List UInt8) (i : Nat) (h : bl.length ≤ 2) : bv (bl.take i) < 65536 := by
  have h1 := bv_lt (bl.take i)
  have h2 : 256 ^ (bl.take i).length ≤ 256 ^ 2 := Nat.pow_le_pow_right (by omega) (by rw [List.length_take]; omega)
  omega
theorem bv_take_succ (bl : List UInt8) (i : Nat) (h : i < bl.length) : bv (bl.take (i + 1)) = bv (bl.take i) * 256 + (bl.getD i 0).toNat := by
  rw [List.take_add_one, List.getElem?_eq_getElem h, List.getD_eq_getElem?_getD, List.getElem?_eq_getElem h]
  exact bv_snoc _ _
theorem byte_get (bl : List UInt8) (i : Nat) (h : i < bl.length) : IntKind.i64.wrap ((bl.map fun c => (c.toNat : Int)).getD i 0) = ((bl.getD i 0).toNat : Int) := by
  rw [List.getD_eq_getElem?_getD, List.getD_eq_getElem?_getD, List.getElem?_map, List.getElem?_eq_getElem h]
  have := UInt8.toNat_lt (bl[i])
  show IntKind.i64.wrap ((bl[i].toNat : Nat) : Int) = ((bl[i].toNat : Nat) : Int)
  exact wi64 (by omega) (by omega)
include hG in
theorem loop106a : LoopOK Tryd.prog G Tryd.f122.ntmps 0 [1, 4, 5, 12, 13, 14] b106a l106a := by
  intro ls K y hm h
  unfold l106a at h
  split at h
  case h_2 => cases h
  rename_i a b l n i x w
  obtain ⟨hc, hr⟩ := Tr.of_br h
  obtain ⟨⟨bl, rfl, rfl, rfl, hl⟩, rfl, rfl⟩ := decP_iff.1 hc
  have hg := Goes.count (R := Rnd Tryd.prog G Tryd.f122.ntmps 0 [1, 4, 5, 12, 13, 14] b106a) (fun i => st106a x w bl i) (e := .exit 0) (ls' := st106a x w bl bl.length) (by simp) bl.length 0
    (fun i _ hi => round_ok hG .nil mix (L := []) (pol := pol106) (O := []) (LpsOK.none (by kernel_rfl)) (Nat.zero_le _) (by
      have hi' : i < bl.length := by omega
      have b1 := bv2_lt bl i hl
      have b2 := bv2_lt bl (i + 1) hl
      have b3 := bv_take_succ bl i hi'
      have b4 := byte_get bl i hi'
      unfold st106a
      rw [r106a, Int.toNat_natCast, b4, Tr.run_t (decide_eq_true (by omega)), Tr.run_t (by simp only [Bool.and_eq_true, decide_eq_true_eq, List.length_map]; omega), Tr.run_t (by simp only [Bool.and_eq_true, decide_eq_true_eq]; omega), Tr.run_t (by simp only [Bool.and_eq_true, decide_eq_true_eq]; omega), Tr.run_t (by simp only [Bool.and_eq_true, decide_eq_true_eq]; omega), Tr.run_ok]
      have e1 : 256 * ((bv (bl.take i) : Nat) : Int) + ((bl.getD i 0).toNat : Int) = ((bv (bl.take (i + 1)) : Nat) : Int) := by omega
      rw [e1]
      rfl))
    (by
      refine round_ok hG .nil mix (L := []) (pol := pol106) (O := []) (LpsOK.none (by kernel_rfl)) (Nat.zero_le _) ?_
      unfold st106a
      rw [Nat.zero_add, r106a, Tr.run_f (decide_eq_false (by omega)), Tr.run_ok])
  refine ⟨_, _, goes_ok hg, ?_⟩
  unfold st106a
  rw [List.take_length, ← bI_map]
  exact hr
include hG in
theorem loop106b : LoopOK Tryd.prog G Tryd.f122.ntmps 0 [1, 4, 5, 26, 27, 28] b106b l106b := by
  intro ls K y hm h
  unfold l106b at h
  split at h
  case h_2 => cases h
  rename_i a b l n i x w
  obtain ⟨hc, hr⟩ := Tr.of_br h
  obtain ⟨⟨bl, rfl, rfl, rfl, hl⟩, rfl⟩ := decP_iff.1 hc
  have hg := Goes.count (R := Rnd Tryd.prog G Tryd.f122.ntmps 0 [1, 4, 5, 26, 27, 28] b106b) (fun i => st106b x w a bl i) (e := .exit 2) (ls' := st106b x w a bl bl.length) (by simp) bl.length 0
    (fun i _ hi => round_ok hG .nil mix (L := []) (pol := pol106) (O := []) (LpsOK.none (by kernel_rfl)) (Nat.zero_le _) (by
      have hi' : i < bl.length := by omega
      have b1 := bv2_lt bl i hl
      have b2 := bv2_lt bl (i + 1) hl
      have b3 := bv_take_succ bl i hi'
      have b4 := byte_get bl i hi'
      unfold st106b
      rw [r106b, Int.toNat_natCast, b4, Tr.run_t (decide_eq_true (by omega)), Tr.run_t (by simp only [Bool.and_eq_true, decide_eq_true_eq, List.length_map]; omega), Tr.run_t (by simp only [Bool.and_eq_true, decide_eq_true_eq]; omega), Tr.run_t (by simp only [Bool.and_eq_true, decide_eq_true_eq]; omega), Tr.run_t (by simp only [Bool.and_eq_true, decide_eq_true_eq]; omega), Tr.run_ok]
      have e1 : 256 * ((bv (bl.take i) : Nat) : Int) + ((bl.getD i 0).toNat : Int) = ((bv (bl.take (i + 1)) : Nat) : Int) := by omega
      rw [e1]
      rfl))
    (by
      refine round_ok hG .nil mix (L := []) (pol := pol106) (O := []) (LpsOK.none (by kernel_rfl)) (Nat.zero_le _) ?_
      unfold st106b
      rw [Nat.zero_add, r106b, Tr.run_f (decide_eq_false (by omega)), Tr.run_ok])
  refine ⟨_, _, goes_ok hg, ?_⟩
  unfold st106b
  rw [List.take_length, ← bI_map]
  exact hr
theorem e106 (x : Rat) (w : Nat) : evF Tryd.prog [] [(3, l106a), (8, l106b)] pol106 Tryd.f122 [.q x w] [] retK =
  Tr.br (decP (F106 (List.map (fun (c : UInt8) => (↑c.toNat : Int)) (natBytesL x.num.natAbs x.num.natAbs []).toArray.toList) (↑(List.map (fun (c : UInt8) => (↑c.toNat : Int)) (natBytesL x.num.natAbs x.num.natAbs []).toArray.toList).length : Int) (0 : Int) ∧ (0 : Int) = (0 : Int) ∧ (0 : Int) = (0 : Int))) (.br (decP (F106 (List.map (fun (c : UInt8) => (↑c.toNat : Int)) (natBytesL x.den x.den []).toArray.toList) (↑(List.map (fun (c : UInt8) => (↑c.toNat : Int)) (natBytesL x.den x.den []).toArray.toList).length : Int) (0 : Int) ∧ (0 : Int) = (0 : Int))) (.br (rneg x) (.br (ib ((0 : Int) - bI (List.map (fun (c : UInt8) => (↑c.toNat : Int)) (natBytesL x.num.natAbs x.num.natAbs []).toArray.toList))) (.ok (.ret (.tup [.i .i64 ((0 : Int) - bI (List.map (fun (c : UInt8) => (↑c.toNat : Int)) (natBytesL x.num.natAbs x.num.natAbs []).toArray.toList)), .i .i64 (if (1 : Int) > bI (List.map (fun (c : UInt8) => (↑c.toNat : Int)) (natBytesL x.den x.den []).toArray.toList) then (1 : Int) else bI (List.map (fun (c : UInt8) => (↑c.toNat : Int)) (natBytesL x.den x.den []).toArray.toList))]) [])) (.no 14002)) (.ok (.ret (.tup [.i .i64 (bI (List.map (fun (c : UInt8) => (↑c.toNat : Int)) (natBytesL x.num.natAbs x.num.natAbs []).toArray.toList)), .i .i64 (if (1 : Int) > bI (List.map (fun (c : UInt8) => (↑c.toNat : Int)) (natBytesL x.den x.den []).toArray.toList) then (1 : Int) else bI (List.map (fun (c : UInt8) => (↑c.toNat : Int)) (natBytesL x.den x.den []).toArray.toList))]) []))) (.no 1)) (.no 1) := by kernel_rfl
def smX (x : Rat) : Bool := decide (x.num.natAbs < 1000) && decide (x.den < 1000)
def s106 : Spec := fun args hs K => match args, hs with
  | [.q x _], [] => .br (smX x) (K (.tup [.i .i64 x.num, .i .i64 x.den]) []) (.no 1)
  | _, _ => .no 1


theorem bI_nbl (n : Nat) : bI (List.map (fun (c : UInt8) => (c.toNat : Int)) (natBytesL n n []).toArray.toList) = (n : Int) := by
  rw [show (natBytesL n n []).toArray.toList = nbl n from rfl, bI_map, bv_nbl]
theorem F106_nbl {n : Nat} (h : n < 65536) : F106 (List.map (fun (c : UInt8) => (c.toNat : Int)) (natBytesL n n []).toArray.toList) ((List.map (fun (c : UInt8) => (c.toNat : Int)) (natBytesL n n []).toArray.toList).length : Nat) 0 := by
  rw [show (natBytesL n n []).toArray.toList = nbl n from rfl]
  exact ⟨nbl n, rfl, by rw [List.length_map], rfl, nbl_length_le (k := 2) (by omega)⟩
include hG in
theorem ok106 : SpecOK Tryd.prog G 122 s106 := by
  refine spec_of hG .nil mix enter106 (L := [(3, l106a), (8, l106b)]) (pol := pol106) fun args hs K x h => ?_
  unfold s106 at h
  split at h
  case h_2 => cases h
  rename_i x w
  obtain ⟨hc, hr⟩ := Tr.of_br h
  simp only [smX, Bool.and_eq_true, decide_eq_true_eq] at hc
  refine ⟨lps2 (b1 := b106a) (live1 := [1, 4, 5, 12, 13, 14]) (sp1 := l106a) (b2 := b106b) (live2 := [1, 4, 5, 26, 27, 28]) (sp2 := l106b) (m := 0) (by kernel_rfl) (by kernel_rfl) (by kernel_rfl) (by kernel_rfl) (by kernel_rfl) (loop106a hG) (loop106b hG), ?_⟩
  have hd := x.den_pos
  rw [e106, bI_nbl, bI_nbl, Tr.run_t (decP_iff.2 ⟨F106_nbl (by omega), rfl, rfl⟩), Tr.run_t (decP_iff.2 ⟨F106_nbl (by omega), rfl⟩)]
  have e2 : (if (1 : Int) > (x.den : Int) then (1 : Int) else (x.den : Int)) = (x.den : Int) := if_neg (by omega)
  rw [e2]
  cases hn : rneg x with
  | true =>
    have hneg : x.num < 0 := of_decide_eq_true hn
    rw [Tr.run_t rfl, Tr.run_t (by simp only [Bool.and_eq_true, decide_eq_true_eq]; omega), Tr.run_ok, show (0 : Int) - (x.num.natAbs : Int) = x.num by omega]
    exact ⟨_, _, _, rfl, .refl _, hr⟩
  | false =>
    have hneg : ¬ x.num < 0 := of_decide_eq_false hn
    rw [Tr.run_f rfl, Tr.run_ok, show (x.num.natAbs : Int) = x.num by omega]
    exact ⟨_, _, _, rfl, .refl _, hr⟩
end Go.Proofs.YtgaokohhkdeomaaDoor.PE
namespace Go.Proofs.YtgaokohhkdeomaaDoor.PE
open Go
set_option maxRecDepth 100000
variable {G : World → (Nat → Prop) → Prop} (hG : GOk G)
noncomputable def b69 : Code := (loopsOf (bodyC Tryd.f79)).getD 0 .skip
def pol69 : Pol := { live := [(3, [1, 5, 14, 15, 16])], wr := [(78, [0])] }
theorem enter69 : Enters Tryd.prog 79 Tryd.f79 (bodyC Tryd.f79) := ⟨Tryd.func79, by kernel_rfl, rfl⟩
def O69 : Orc := [(78, s45), (91, s81), (122, s106)]
def n69 (v : PV) (n : Nat) (lk : Nat → Lk) (i : Int) : LS := ⟨[.ptr 0 1 0 0 [], .nil, .lst 16 (.fn n (fun j => lkPV (lk j))), .i .i64 n, .i .i64 i], [some ⟨1, .vals [.agg [.w v]]⟩]⟩
def x69 (v : PV) (n : Nat) (lk : Nat → Lk) (xs : List Rat) (i : Int) : LS := ⟨[.ptr 0 1 0 0 [], .sl 1 3 0 xs.length, .lst 16 (.fn n (fun j => lkPV (lk j))), .i .i64 n, .i .i64 i], [some ⟨1, .vals [.agg [.w v]]⟩, some ⟨3, .rats 64 xs⟩]⟩
theorem r69n (v : PV) (n : Nat) (lk : Nat → Lk) (i : Int) : evRound Tryd.prog O69 [] pol69 Tryd.f79.ntmps 1 [1, 5, 14, 15, 16] b69 (n69 v n lk i) =
  Tr.br (decide (i < (↑n : Int))) (.br (ix (i) ((↑n : Int))) (.br (smX (lk i.toNat).low) (.br (smX (lk i.toNat).high) (.br (okW v && decide ((0 : Int) < (9 : Int)) && decide ((9 : Int) ≤ (4294967296 : Int))) (.br (ib ((8 : Int) * (lk i.toNat).low.num)) (.br (ib ((8 : Int) * (lk i.toNat).low.num * (↑(lk i.toNat).high.den : Int))) (.br (ib ((lk i.toNat).high.num * (↑(lk i.toNat).low.den : Int))) (.br (ib ((lk i.toNat).low.num * (↑(lk i.toNat).high.den : Int))) (.br (ib ((lk i.toNat).high.num * (↑(lk i.toNat).low.den : Int) - (lk i.toNat).low.num * (↑(lk i.toNat).high.den : Int))) (.br (ib (((lk i.toNat).high.num * (↑(lk i.toNat).low.den : Int) - (lk i.toNat).low.num * (↑(lk i.toNat).high.den : Int)) * nx v (9 : Int))) (.br (ib ((8 : Int) * (lk i.toNat).low.num * (↑(lk i.toNat).high.den : Int) + ((lk i.toNat).high.num * (↑(lk i.toNat).low.den : Int) - (lk i.toNat).low.num * (↑(lk i.toNat).high.den : Int)) * nx v (9 : Int))) (.br (ib ((8 : Int) * (↑(lk i.toNat).low.den : Int))) (.br (ib ((8 : Int) * (↑(lk i.toNat).low.den : Int) * (↑(lk i.toNat).high.den : Int))) (.br (decide ((0 : Int) < (8 : Int) * (↑(lk i.toNat).low.den : Int) * (↑(lk i.toNat).high.den : Int)) && decide ((8 : Int) * (↑(lk i.toNat).low.den : Int) * (↑(lk i.toNat).high.den : Int) < (4611686018427387904 : Int)) && decide ((-4611686018427387904 : Int) < (8 : Int) * (lk i.toNat).low.num * (↑(lk i.toNat).high.den : Int) + ((lk i.toNat).high.num * (↑(lk i.toNat).low.den : Int) - (lk i.toNat).low.num * (↑(lk i.toNat).high.den : Int)) * nx v (9 : Int)) && decide ((8 : Int) * (lk i.toNat).low.num * (↑(lk i.toNat).high.den : Int) + ((lk i.toNat).high.num * (↑(lk i.toNat).low.den : Int) - (lk i.toNat).low.num * (↑(lk i.toNat).high.den : Int)) * nx v (9 : Int) < (4611686018427387904 : Int))) (.br (Nat.blt (0 : Nat) [mkRat ((8 : Int) * (lk i.toNat).low.num * (↑(lk i.toNat).high.den : Int) + ((lk i.toNat).high.num * (↑(lk i.toNat).low.den : Int) - (lk i.toNat).low.num * (↑(lk i.toNat).high.den : Int)) * nx v (9 : Int)) ((8 : Int) * (↑(lk i.toNat).low.den : Int) * (↑(lk i.toNat).high.den : Int)).toNat].length && [mkRat ((8 : Int) * (lk i.toNat).low.num * (↑(lk i.toNat).high.den : Int) + ((lk i.toNat).high.num * (↑(lk i.toNat).low.den : Int) - (lk i.toNat).low.num * (↑(lk i.toNat).high.den : Int)) * nx v (9 : Int)) ((8 : Int) * (↑(lk i.toNat).low.den : Int) * (↑(lk i.toNat).high.den : Int)).toNat].length.ble 4294967296) (.br (ib (i + (1 : Int))) (.ok (.out .normal { t := [.ptr 0 1 0 0 [], .sl 1 3 0 1, .lst 16 (.fn n fun (j : Nat) => .agg [.q (lk j).len 64, .q (lk j).low 64, .q (lk j).high 64, .q (lk j).spd 64, .q (lk j).brk 64, .lst 6 (.fn (lk j).np fun (a : Nat) => .agg [.q ((lk j).px a) 64, .q ((lk j).py a) 64])]), .i .i64 (↑n : Int), .i .i64 (i + (1 : Int))], h := [some { e := 1, c := Cont.vals [.agg [(rs v).w]] }, some { e := 3, c := Cont.rats 64 [mkRat ((8 : Int) * (lk i.toNat).low.num * (↑(lk i.toNat).high.den : Int) + ((lk i.toNat).high.num * (↑(lk i.toNat).low.den : Int) - (lk i.toNat).low.num * (↑(lk i.toNat).high.den : Int)) * nx v (9 : Int)) ((8 : Int) * (↑(lk i.toNat).low.den : Int) * (↑(lk i.toNat).high.den : Int)).toNat] }] })) (.no 10002)) (.no 9002)) (.no 1)) (.no 9005)) (.no 9007)) (.no 9009)) (.no 9010)) (.no 9012)) (.no 9013)) (.no 9016)) (.no 9019)) (.no 9021)) (.no 1)) (.no 1)) (.no 1)) (.no 5004)) (.ok (.out (.exit 0) { t := [.ptr 0 1 0 0 [], .nil, .lst 16 (.fn n fun (j : Nat) => .agg [.q (lk j).len 64, .q (lk j).low 64, .q (lk j).high 64, .q (lk j).spd 64, .q (lk j).brk 64, .lst 6 (.fn (lk j).np fun (a : Nat) => .agg [.q ((lk j).px a) 64, .q ((lk j).py a) 64])]), .i .i64 (↑n : Int), .i .i64 i], h := [some { e := 1, c := Cont.vals [.agg [v.w]] }] })) := by kernel_rfl
theorem r69 (v : PV) (n : Nat) (lk : Nat → Lk) (xs : List Rat) (i : Int) : evRound Tryd.prog O69 [] pol69 Tryd.f79.ntmps 1 [1, 5, 14, 15, 16] b69 (x69 v n lk xs i) =
  Tr.br (decide (i < (↑n : Int))) (.br (ix (i) ((↑n : Int))) (.br (smX (lk i.toNat).low) (.br (smX (lk i.toNat).high) (.br (okW v && decide ((0 : Int) < (9 : Int)) && decide ((9 : Int) ≤ (4294967296 : Int))) (.br (ib ((8 : Int) * (lk i.toNat).low.num)) (.br (ib ((8 : Int) * (lk i.toNat).low.num * (↑(lk i.toNat).high.den : Int))) (.br (ib ((lk i.toNat).high.num * (↑(lk i.toNat).low.den : Int))) (.br (ib ((lk i.toNat).low.num * (↑(lk i.toNat).high.den : Int))) (.br (ib ((lk i.toNat).high.num * (↑(lk i.toNat).low.den : Int) - (lk i.toNat).low.num * (↑(lk i.toNat).high.den : Int))) (.br (ib (((lk i.toNat).high.num * (↑(lk i.toNat).low.den : Int) - (lk i.toNat).low.num * (↑(lk i.toNat).high.den : Int)) * nx v (9 : Int))) (.br (ib ((8 : Int) * (lk i.toNat).low.num * (↑(lk i.toNat).high.den : Int) + ((lk i.toNat).high.num * (↑(lk i.toNat).low.den : Int) - (lk i.toNat).low.num * (↑(lk i.toNat).high.den : Int)) * nx v (9 : Int))) (.br (ib ((8 : Int) * (↑(lk i.toNat).low.den : Int))) (.br (ib ((8 : Int) * (↑(lk i.toNat).low.den : Int) * (↑(lk i.toNat).high.den : Int))) (.br (decide ((0 : Int) < (8 : Int) * (↑(lk i.toNat).low.den : Int) * (↑(lk i.toNat).high.den : Int)) && decide ((8 : Int) * (↑(lk i.toNat).low.den : Int) * (↑(lk i.toNat).high.den : Int) < (4611686018427387904 : Int)) && decide ((-4611686018427387904 : Int) < (8 : Int) * (lk i.toNat).low.num * (↑(lk i.toNat).high.den : Int) + ((lk i.toNat).high.num * (↑(lk i.toNat).low.den : Int) - (lk i.toNat).low.num * (↑(lk i.toNat).high.den : Int)) * nx v (9 : Int)) && decide ((8 : Int) * (lk i.toNat).low.num * (↑(lk i.toNat).high.den : Int) + ((lk i.toNat).high.num * (↑(lk i.toNat).low.den : Int) - (lk i.toNat).low.num * (↑(lk i.toNat).high.den : Int)) * nx v (9 : Int) < (4611686018427387904 : Int))) (.br (xs.length.ble xs.length && (xs.length + [mkRat ((8 : Int) * (lk i.toNat).low.num * (↑(lk i.toNat).high.den : Int) + ((lk i.toNat).high.num * (↑(lk i.toNat).low.den : Int) - (lk i.toNat).low.num * (↑(lk i.toNat).high.den : Int)) * nx v (9 : Int)) ((8 : Int) * (↑(lk i.toNat).low.den : Int) * (↑(lk i.toNat).high.den : Int)).toNat].length).ble 4294967296) (.br (ib (i + (1 : Int))) (.ok (.out .normal { t := [.ptr 0 1 0 0 [], .sl 1 3 0 (xs.length + [mkRat ((8 : Int) * (lk i.toNat).low.num * (↑(lk i.toNat).high.den : Int) + ((lk i.toNat).high.num * (↑(lk i.toNat).low.den : Int) - (lk i.toNat).low.num * (↑(lk i.toNat).high.den : Int)) * nx v (9 : Int)) ((8 : Int) * (↑(lk i.toNat).low.den : Int) * (↑(lk i.toNat).high.den : Int)).toNat].length), .lst 16 (.fn n fun (j : Nat) => .agg [.q (lk j).len 64, .q (lk j).low 64, .q (lk j).high 64, .q (lk j).spd 64, .q (lk j).brk 64, .lst 6 (.fn (lk j).np fun (a : Nat) => .agg [.q ((lk j).px a) 64, .q ((lk j).py a) 64])]), .i .i64 (↑n : Int), .i .i64 (i + (1 : Int))], h := [some { e := 1, c := Cont.vals [.agg [(rs v).w]] }, some { e := 3, c := Cont.rats 64 (List.take xs.length (List.drop (0 : Nat) xs) ++ [mkRat ((8 : Int) * (lk i.toNat).low.num * (↑(lk i.toNat).high.den : Int) + ((lk i.toNat).high.num * (↑(lk i.toNat).low.den : Int) - (lk i.toNat).low.num * (↑(lk i.toNat).high.den : Int)) * nx v (9 : Int)) ((8 : Int) * (↑(lk i.toNat).low.den : Int) * (↑(lk i.toNat).high.den : Int)).toNat]) }] })) (.no 10002)) (.no 9002)) (.no 1)) (.no 9005)) (.no 9007)) (.no 9009)) (.no 9010)) (.no 9012)) (.no 9013)) (.no 9016)) (.no 9019)) (.no 9021)) (.no 1)) (.no 1)) (.no 1)) (.no 5004)) (.ok (.out (.exit 0) { t := [.ptr 0 1 0 0 [], .sl 1 3 0 xs.length, .lst 16 (.fn n fun (j : Nat) => .agg [.q (lk j).len 64, .q (lk j).low 64, .q (lk j).high 64, .q (lk j).spd 64, .q (lk j).brk 64, .lst 6 (.fn (lk j).np fun (a : Nat) => .agg [.q ((lk j).px a) 64, .q ((lk j).py a) 64])]), .i .i64 (↑n : Int), .i .i64 i], h := [some { e := 1, c := Cont.vals [.agg [v.w]] }, some { e := 3, c := Cont.rats 64 xs }] })) := by kernel_rfl

def itRs : Nat → PV → PV
  | 0, v => v
  | k + 1, v => rs (itRs k v)
theorem okW_itRs {v : PV} (h : okW v = true) : ∀ k, okW (itRs k v) = true
  | 0 => h
  | k + 1 => okW_rs (okW_itRs h k)
def cf0 (l h : Rat) (k : Int) : Rat := mkRat ((8 : Int) * l.num * (h.den : Int) + (h.num * (l.den : Int) - l.num * (h.den : Int)) * k) ((8 : Int) * (l.den : Int) * (h.den : Int)).toNat
def cf1 (lk : Nat → Lk) (v : PV) (j : Nat) : Rat := cf0 (lk j).low (lk j).high (nx (itRs j v) 9)
def cfL (lk : Nat → Lk) (v : PV) (n : Nat) : List Rat := (List.range n).map (cf1 lk v)
theorem cfL_succ (lk : Nat → Lk) (v : PV) (n : Nat) : cfL lk v (n + 1) = cfL lk v n ++ [cf1 lk v n] := by simp [cfL, List.range_succ]
theorem cfL_len (lk : Nat → Lk) (v : PV) (n : Nat) : (cfL lk v n).length = n := by simp [cfL]
theorem nabs_mul {a b : Int} {A B : Nat} (ha : a.natAbs ≤ A) (hb : b.natAbs ≤ B) : (a * b).natAbs ≤ A * B := by
  rw [Int.natAbs_mul]; exact Nat.mul_le_mul ha hb
theorem smX_iff {x : Rat} : smX x = true ↔ x.num.natAbs < 1000 ∧ x.den < 1000 := by simp [smX]
def st69 (v : PV) (n : Nat) (lk : Nat → Lk) (xs : List Rat) (i : Int) : LS := match xs with
  | [] => n69 v n lk i
  | xs => x69 v n lk xs i
theorem st69_x {v : PV} {n : Nat} {lk : Nat → Lk} {xs : List Rat} {i : Int} (h : xs ≠ []) : st69 v n lk xs i = x69 v n lk xs i := by
  cases xs with
  | nil => exact absurd rfl h
  | cons x xs => rfl
include hG in
theorem orc69 : OrcOK Tryd.prog G O69 := .cons (ok45 hG) (.cons (ok81 hG) (.cons (ok106 hG) .nil))
theorem step69 (v : PV) (hw : okW v = true) (n : Nat) (lk : Nat → Lk) (xs : List Rat) (j : Nat) (hn : n ≤ 3) (hj : j < n) (hx : xs.length ≤ 1000) (h1 : smX (lk j).low = true) (h2 : smX (lk j).high = true) :
    (evRound Tryd.prog O69 [] pol69 Tryd.f79.ntmps 1 [1, 5, 14, 15, 16] b69 (st69 v n lk xs ((j : Nat) : Int))).run = some (.out .normal (st69 (rs v) n lk (xs ++ [cf0 (lk j).low (lk j).high (nx v 9)]) ((j + 1 : Nat) : Int))) := by
  obtain ⟨a1, a2⟩ := smX_iff.1 h1
  obtain ⟨a3, a4⟩ := smX_iff.1 h2
  have d1 := (lk j).low.den_pos
  have d2 := (lk j).high.den_pos
  have g := nx_range v (show (0 : Int) < 9 by omega)
  have b1 : ((8 : Int) * (lk j).low.num * ((lk j).high.den : Int)).natAbs ≤ 8 * 1000 * 1000 := nabs_mul (nabs_mul (by omega) (by omega)) (by omega)
  have b2 : ((lk j).high.num * ((lk j).low.den : Int)).natAbs ≤ 1000 * 1000 := nabs_mul (by omega) (by omega)
  have b3 : ((lk j).low.num * ((lk j).high.den : Int)).natAbs ≤ 1000 * 1000 := nabs_mul (by omega) (by omega)
  have b4 : (((lk j).high.num * ((lk j).low.den : Int) - (lk j).low.num * ((lk j).high.den : Int)) * nx v 9).natAbs ≤ 2000000 * 9 := nabs_mul (by omega) (by omega)
  have b5 : ((8 : Int) * ((lk j).low.den : Int) * ((lk j).high.den : Int)).natAbs ≤ 8 * 1000 * 1000 := nabs_mul (nabs_mul (by omega) (by omega)) (by omega)
  have b6 : 0 < (8 : Int) * ((lk j).low.den : Int) * ((lk j).high.den : Int) := Int.mul_pos (by omega) (by omega)
  rw [st69_x (xs := xs ++ [cf0 (lk j).low (lk j).high (nx v 9)]) (by simp)]
  cases xs with
  | nil =>
    show (evRound Tryd.prog O69 [] pol69 Tryd.f79.ntmps 1 [1, 5, 14, 15, 16] b69 (n69 v n lk ((j : Nat) : Int))).run = _
    rw [r69n, Int.toNat_natCast, Tr.run_t (decide_eq_true (by omega)), Tr.run_t (by simp only [Bool.and_eq_true, decide_eq_true_eq]; omega), Tr.run_t h1, Tr.run_t h2, Tr.run_t (by rw [hw]; decide)]
    repeat rw [Tr.run_t (by simp only [Bool.and_eq_true, decide_eq_true_eq, Nat.blt_eq, Nat.ble_eq, List.length_cons, List.length_nil]; omega)]
    rw [Tr.run_ok]
    rfl
  | cons y ys =>
    show (evRound Tryd.prog O69 [] pol69 Tryd.f79.ntmps 1 [1, 5, 14, 15, 16] b69 (x69 v n lk (y :: ys) ((j : Nat) : Int))).run = _
    rw [r69, Int.toNat_natCast, Tr.run_t (decide_eq_true (by omega)), Tr.run_t (by simp only [Bool.and_eq_true, decide_eq_true_eq]; omega), Tr.run_t h1, Tr.run_t h2, Tr.run_t (by rw [hw]; decide)]
    simp only [List.length_cons] at hx
    repeat rw [Tr.run_t (by simp only [Bool.and_eq_true, decide_eq_true_eq, Nat.blt_eq, Nat.ble_eq, List.length_cons, List.length_nil]; omega)]
    rw [Tr.run_ok, List.drop_zero, List.take_length]
    have hlen : ((y :: ys) ++ [cf0 (lk j).low (lk j).high (nx v 9)]).length = (y :: ys).length + 1 := by simp
    unfold x69
    rw [hlen]
    rfl
def Pl69 (v : PV) (n : Nat) (f : Nat → PV) (m i : Int) : Prop := ∃ lk : Nat → Lk, f = (fun j => lkPV (lk j)) ∧ m = n ∧ i = 0 ∧ 1 ≤ n ∧ n ≤ 3 ∧ okW v = true ∧ ∀ j, j < n → smX (lk j).low = true ∧ smX (lk j).high = true
def cfF (f : Nat → PV) (v : PV) (n : Nat) : List Rat := cfL (fun j => dLk (f j)) v n
noncomputable def l69 : LSpec := fun ls K => match ls with
  | ⟨[.ptr 0 1 0 0 [], .nil, .lst 16 (.fn n f), .i .i64 m, .i .i64 i], [some ⟨1, .vals [.agg [.w v]]⟩]⟩ => .br (decP (Pl69 v n f m i)) (K (.exit 0) ⟨[.ptr 0 1 0 0 [], .sl 1 3 0 (cfF f v n).length, .lst 16 (.fn n f), .i .i64 m, .i .i64 m], [some ⟨1, .vals [.agg [.w (itRs n v)]]⟩, some ⟨3, .rats 64 (cfF f v n)⟩]⟩) (.no 1)
  | _ => .no 1
include hG in
theorem loop69 : LoopOK Tryd.prog G Tryd.f79.ntmps 1 [1, 5, 14, 15, 16] b69 l69 := by
  intro ls K y hm h
  unfold l69 at h
  split at h
  case h_2 => cases h
  rename_i n f m i v
  obtain ⟨hc, hr⟩ := Tr.of_br h
  obtain ⟨lk, rfl, rfl, rfl, hn1, hn, hw, hp⟩ := decP_iff.1 hc
  have hg := Goes.count (R := Rnd Tryd.prog G Tryd.f79.ntmps 1 [1, 5, 14, 15, 16] b69) (fun i => st69 (itRs i v) n lk (cfL lk v i) ((i : Nat) : Int)) (e := .exit 0) (ls' := st69 (itRs n v) n lk (cfL lk v n) n) (by simp) n 0
    (fun i _ hi => round_ok hG (orc69 hG) mix (L := []) (pol := pol69) (O := O69) (LpsOK.none (by kernel_rfl)) (by cases cfL lk v i <;> simp [st69, n69, x69]) (by
      rw [cfL_succ]
      exact step69 (itRs i v) (okW_itRs hw i) n lk _ i hn (by omega) (by rw [cfL_len]; omega) (hp i (by omega)).1 (hp i (by omega)).2))
    (by
      refine round_ok hG (orc69 hG) mix (L := []) (pol := pol69) (O := O69) (LpsOK.none (by kernel_rfl)) (by cases cfL lk v (0 + n) <;> simp [st69, n69, x69]) ?_
      rw [Nat.zero_add]
      cases hc : cfL lk v n with
      | nil =>
        show (evRound Tryd.prog O69 [] pol69 Tryd.f79.ntmps 1 [1, 5, 14, 15, 16] b69 (n69 (itRs n v) n lk ((n : Nat) : Int))).run = _
        rw [r69n, Tr.run_f (decide_eq_false (by omega)), Tr.run_ok]; rfl
      | cons y ys =>
        show (evRound Tryd.prog O69 [] pol69 Tryd.f79.ntmps 1 [1, 5, 14, 15, 16] b69 (x69 (itRs n v) n lk (y :: ys) ((n : Nat) : Int))).run = _
        rw [r69, Tr.run_f (decide_eq_false (by omega)), Tr.run_ok]; rfl)
  refine ⟨_, _, goes_ok hg, ?_⟩
  rw [st69_x (by intro h0; have := cfL_len lk v n; rw [h0] at this; simp at this; omega)]
  exact hr
theorem e69 (A : Am) (v : PV) : evF Tryd.prog O69 [(3, l69)] pol69 Tryd.f79 [armPV A, .ptr 0 1 0 0 []] [⟨1, .vals [.agg [.w v]]⟩] retK =
  Tr.br (decP (Pl69 v A.n (fun (j : Nat) => lkPV (A.lk j)) (↑A.n : Int) (0 : Int))) (.br ((cfF (fun (j : Nat) => lkPV (A.lk j)) v A.n).length.ble (cfF (fun (j : Nat) => lkPV (A.lk j)) v A.n).length) (.ok (.ret (.fr 3 (.rats 64 (List.take (cfF (fun (j : Nat) => lkPV (A.lk j)) v A.n).length (List.drop (0 : Nat) (cfF (fun (j : Nat) => lkPV (A.lk j)) v A.n))))) [{ e := 1, c := Cont.vals [.agg [(itRs A.n v).w]] }])) (.no 15)) (.no 1) := by kernel_rfl
def limX (A : Am) : Bool := (List.range A.n).all fun j => smX (A.lk j).low && smX (A.lk j).high
def P69 (arm v : PV) : Prop := okA arm ∧ limX (dArm arm) = true ∧ okW v = true
noncomputable def s69 : Spec := fun args hs K => match args, hs with
  | [.agg [.s nm, .agg [.agg [.q bx w1, .q by_ w2], .agg [hf, .q t w3]], .lst 16 c], .ptr 0 1 0 0 []], [⟨1, .vals [.agg [.w v]]⟩] =>
    .br (decP (P69 (.agg [.s nm, .agg [.agg [.q bx w1, .q by_ w2], .agg [hf, .q t w3]], .lst 16 c]) v)) (K (.fr 3 (.rats 64 (cfF c.get v c.len))) [⟨1, .vals [.agg [.w (itRs c.len v)]]⟩]) (.no 1)
  | _, _ => .no 1
include hG in
theorem ok69 : SpecOK Tryd.prog G 79 s69 := by
  intro args hs K x h
  unfold s69 at h
  split at h
  case h_2 => cases h
  rename_i nm bx w1 by_ w2 hf t w3 c v
  obtain ⟨hc, hr⟩ := Tr.of_br h
  obtain ⟨⟨hv, hA⟩, hx, hw⟩ := decP_iff.1 hc
  generalize hA' : dArm (.agg [.s nm, .agg [.agg [.q bx w1, .q by_ w2], .agg [hf, .q t w3]], .lst 16 c]) = A at *
  have ek : cfF c.get v c.len = cfF (fun j => lkPV (A.lk j)) v A.n := by rw [← hA']; rfl
  have en : c.len = A.n := by rw [← hA']; rfl
  obtain ⟨h1, h2, h3, h4, h5, h6, h7⟩ := armB_c hA
  have hlim : ∀ j, j < A.n → smX (A.lk j).low = true ∧ smX (A.lk j).high = true := by
    intro j hj
    have := List.all_eq_true.1 hx j (List.mem_range.2 hj)
    rwa [Bool.and_eq_true] at this
  rw [ek, en] at hr
  refine ⟨_, _, PC.args (.cons hv (.refl _)) (evF_pc hG (orc69 hG) mix enter69 (L := [(3, l69)]) (pol := pol69) (O := O69) (lps1 (b := b69) (live := [1, 5, 14, 15, 16]) (sp := l69) (m := 1) (by kernel_rfl) (by kernel_rfl) (by kernel_rfl) (loop69 hG)) ?_), hr⟩
  rw [e69, Tr.run_t (decP_iff.2 ⟨A.lk, rfl, rfl, rfl, h5, h6, hw, hlim⟩), Tr.run_t (by rw [Nat.ble_eq]; omega), Tr.run_ok, List.drop_zero, List.take_length]
end Go.Proofs.YtgaokohhkdeomaaDoor.PE
namespace Go.Proofs.YtgaokohhkdeomaaDoor.PE
open Go
set_option maxRecDepth 100000
variable {G : World → (Nat → Prop) → Prop} (hG : GOk G)
theorem rats_le (e : Nat) {n m : Nat} (xs : List Rat) (h : n ≤ m) : VLe (.lst e (.rats n xs)) (.lst e (.rats m xs)) := VLe.lst rfl fun i _ => (q_rle (x := xs.getD i 0) rfl h).v 0
theorem ratsK_le (e : Nat) {n m : Nat} (xs : List Rat) (h : n ≤ m) : KLe ⟨e, .rats n xs⟩ ⟨e, .rats m xs⟩ := by
  intro w S μ a z hb
  obtain ⟨c, T, cs, h1, h2, h3, h4, h5, h6⟩ := hb
  exact ⟨c, T, cs, h1, h2, h3, fun i hi => (((q_rle (x := xs.getD i 0) rfl h).v 0).2 w S _).1 _ (h4 i hi), h5, h6⟩
theorem frrats_le (e : Nat) {n m : Nat} (xs : List Rat) (h : n ≤ m) : RLe (.fr e (.rats n xs)) (.fr e (.rats m xs)) := ⟨fun _ => .refl _, fun _ => KsLe.one (ratsK_le e xs h)⟩
def c71 : Spec := fun args hs K => match args, hs with
  | [.i .i64 n], [] => .br (decide (-1000000000 < n) && decide (n < 1000000000)) (K (.q (n : Rat) 64) []) (.no 1)
  | _, _ => .no 1
include hG in
theorem ck71 : SpecOK Tryd.prog G 81 c71 := by
  intro args hs K x h
  unfold c71 at h
  split at h
  case h_2 => cases h
  rename_i n
  obtain ⟨hc, hr⟩ := Tr.of_br h
  simp only [Bool.and_eq_true, decide_eq_true_eq] at hc
  refine ⟨_, _, (pc_spec (gk71 hG) (args := [.i .i64 n]) (r := .q (n : Rat) (Nat.log2 n.natAbs + 1)) (hs' := []) ?_).le (q_rle rfl ?_) (.refl _), hr⟩
  · show (Tr.br _ _ _).run = _
    rw [Tr.run_t (by simp only [Bool.and_eq_true, decide_eq_true_eq]; omega)]
    rfl
  · have h1 : n.natAbs < 2 ^ 63 := by omega
    by_cases h0 : n.natAbs = 0
    · rw [h0]; decide
    · have := (Nat.log2_lt h0).2 h1
      omega
noncomputable def b70 : Code := (loopsOf (bodyC Tryd.f80)).getD 0 .skip
def pol70 : Pol := { live := [(3, [3, 6, 7, 8])] }
noncomputable def O70 : Orc := [(24, g21), (81, c71)]
theorem enter70 : Enters Tryd.prog 80 Tryd.f80 (bodyC Tryd.f80) := ⟨Tryd.func80, by kernel_rfl, rfl⟩
def n70 (w : Nat) (xs : List Rat) (n i : Int) : LS := ⟨[.nil, .lst 3 (.rats w xs), .i .i64 n, .i .i64 i], []⟩
def x70 (w W : Nat) (xs ys : List Rat) (n i : Int) : LS := ⟨[.sl 0 3 0 ys.length, .lst 3 (.rats w xs), .i .i64 n, .i .i64 i], [some ⟨3, .rats W ys⟩]⟩
theorem r70n (w : Nat) (xs : List Rat) (n i : Int) : evRound Tryd.prog O70 [] pol70 Tryd.f80.ntmps 0 [3, 6, 7, 8] b70 (n70 w xs n i) =
  Tr.br (decide (i < n)) (.br (ix (i) ((↑xs.length : Int))) (.br (decide ((-1000000000 : Int) < (0 : Int)) && decide ((0 : Int) < (1000000000 : Int))) (.br ((w + (64 : Nat) + (1 : Nat)).ble 800000) (.br (Nat.blt (0 : Nat) [xs.getD i.toNat 0 + (↑(0 : Int) : Rat)].length && [xs.getD i.toNat 0 + (↑(0 : Int) : Rat)].length.ble 4294967296) (.br (ib (i + (1 : Int))) (.ok (.out .normal (LS.mk [.sl 0 3 0 1, .lst 3 (.rats w xs), .i .i64 n, .i .i64 (i + (1 : Int))] [some (.mk 3 (.rats ((w + (64 : Nat) + (1 : Nat)).max (0 : Nat)) [xs.getD i.toNat 0 + (↑(0 : Int) : Rat)]))]))) (.no 7002)) (.no 6002)) (.no 1)) (.no 1)) (.no 5004)) (.ok (.out (.exit 0) (LS.mk [.nil, .lst 3 (.rats w xs), .i .i64 n, .i .i64 i] []))) := by kernel_rfl
theorem r70 (w W : Nat) (xs ys : List Rat) (n i : Int) : evRound Tryd.prog O70 [] pol70 Tryd.f80.ntmps 0 [3, 6, 7, 8] b70 (x70 w W xs ys n i) =
  Tr.br (decide (i < n)) (.br (ix (i) ((↑xs.length : Int))) (.br (decide ((-1000000000 : Int) < (0 : Int)) && decide ((0 : Int) < (1000000000 : Int))) (.br ((w + (64 : Nat) + (1 : Nat)).ble 800000) (.br (ys.length.ble ys.length && (ys.length + [xs.getD i.toNat 0 + (↑(0 : Int) : Rat)].length).ble 4294967296) (.br (ib (i + (1 : Int))) (.ok (.out .normal (LS.mk [.sl 0 3 0 (ys.length + [xs.getD i.toNat 0 + (↑(0 : Int) : Rat)].length), .lst 3 (.rats w xs), .i .i64 n, .i .i64 (i + (1 : Int))] [some (.mk 3 (.rats (W.max ((w + (64 : Nat) + (1 : Nat)).max (0 : Nat))) (List.take ys.length (List.drop (0 : Nat) ys) ++ [xs.getD i.toNat 0 + (↑(0 : Int) : Rat)])))]))) (.no 7002)) (.no 6002)) (.no 1)) (.no 1)) (.no 5004)) (.ok (.out (.exit 0) (LS.mk [.sl 0 3 0 ys.length, .lst 3 (.rats w xs), .i .i64 n, .i .i64 i] [some (.mk 3 (.rats W ys))]))) := by kernel_rfl
def fin70 (w : Nat) (xs : List Rat) : LS := x70 w (w + 64 + 1) xs xs (xs.length : Nat) (xs.length : Nat)
theorem e70 (w : Nat) (xs : List Rat) : evF Tryd.prog O70 [(3, lcst (n70 w xs (xs.length : Nat) 0) (.exit 0) (fin70 w xs))] pol70 Tryd.f80 [.lst 3 (.rats w xs)] [] retK =
  Tr.br (decP (isLS (LS.mk [.nil, .lst 3 (.rats w xs), .i .i64 (↑xs.length : Int), .i .i64 (0 : Int)] []) (LS.mk [.nil, .lst 3 (.rats w xs), .i .i64 (↑xs.length : Int), .i .i64 (0 : Int)] []))) (.br (xs.length.ble xs.length) (.ok (.ret (.fr 3 (.rats (w + (64 : Nat) + (1 : Nat)) (List.take xs.length (List.drop (0 : Nat) xs)))) [])) (.no 15)) (.no 1) := by kernel_rfl
include hG in
theorem orc70 (hT : TabG G) : OrcOK Tryd.prog G O70 := .cons (gk21 hG hT) (.cons (ck71 hG) .nil)
theorem mx0 (a : Nat) : Nat.max a (Nat.max a 0) = a := by
  show max a (max a 0) = a
  omega
theorem add00 (x : Rat) : x + ((0 : Int) : Rat) = x := Rat.add_zero x
theorem getD_range_map (xs : List Rat) : (List.range xs.length).map (fun j => xs.getD j 0) = xs := by
  apply List.ext_getElem
  · simp
  · intro j h1 h2
    simp [List.getElem?_eq_getElem h2]
include hG in
theorem goes70 (hT : TabG G) (w : Nat) (hw : w ≤ 10000) (xs : List Rat) (h1 : 1 ≤ xs.length) (h2 : xs.length ≤ 1000) : Goes (Rnd Tryd.prog G Tryd.f80.ntmps 0 [3, 6, 7, 8] b70) (n70 w xs (xs.length : Nat) 0) (.exit 0) (fin70 w xs) := by
  refine Goes.build (xst := fun ys j => x70 w (w + 64 + 1) xs ys (xs.length : Nat) (j : Nat)) (fun j => xs.getD j 0) (by simp) xs.length h1 ?_ ?_ ?_
  · refine round_ok hG (orc70 hG hT) mix (L := []) (pol := pol70) (O := O70) (LpsOK.none (by kernel_rfl)) (Nat.zero_le _) ?_
    rw [r70n, show Int.toNat 0 = 0 from rfl, Tr.run_t (decide_eq_true (by omega)), Tr.run_t (by simp only [Bool.and_eq_true, decide_eq_true_eq]; omega), Tr.run_t (by decide), Tr.run_t (by rw [Nat.ble_eq]; omega), Tr.run_t (by rfl), Tr.run_t (by decide), Tr.run_ok, add00]
    rfl
  · intro ys j hy hj1 hj
    refine round_ok hG (orc70 hG hT) mix (L := []) (pol := pol70) (O := O70) (LpsOK.none (by kernel_rfl)) (Nat.zero_le _) ?_
    rw [r70, Int.toNat_natCast, Tr.run_t (decide_eq_true (by omega)), Tr.run_t (by simp only [Bool.and_eq_true, decide_eq_true_eq]; omega), Tr.run_t (by decide), Tr.run_t (by rw [Nat.ble_eq]; omega),
      Tr.run_t (by simp only [Bool.and_eq_true, Nat.ble_eq, List.length_cons, List.length_nil]; omega), Tr.run_t (by simp only [Bool.and_eq_true, decide_eq_true_eq]; omega), Tr.run_ok, add00, List.drop_zero, List.take_length]
    unfold x70
    rw [List.length_append, mx0]
    rfl
  · rw [getD_range_map]
    refine round_ok hG (orc70 hG hT) mix (L := []) (pol := pol70) (O := O70) (LpsOK.none (by kernel_rfl)) (Nat.zero_le _) ?_
    rw [r70, Tr.run_f (decide_eq_false (by omega)), Tr.run_ok]
    rfl
include hG in
theorem pc70 (hT : TabG G) (w : Nat) (hw : w ≤ 10000) (xs : List Rat) (h1 : 1 ≤ xs.length) (h2 : xs.length ≤ 1000) : PC Tryd.prog G 80 [.lst 3 (.rats w xs)] [] (.fr 3 (.rats (w + 65) xs)) [] := by
  refine evF_pc hG (orc70 hG hT) mix enter70 (L := [(3, lcst (n70 w xs (xs.length : Nat) 0) (.exit 0) (fin70 w xs))]) (pol := pol70) (lps1 (b := b70) (live := [3, 6, 7, 8]) (m := 0) (by kernel_rfl) (by kernel_rfl) (by kernel_rfl) (lcst_ok (goes70 hG hT w hw xs h1 h2))) ?_
  rw [e70, Tr.run_t isLS_t, Tr.run_t (by rw [Nat.ble_eq]; omega), Tr.run_ok, List.drop_zero, List.take_length]
def c70 : Spec := fun args hs K => match args, hs with
  | [.lst 3 (.rats w xs)], [] => .br (Nat.ble 1 xs.length && Nat.ble xs.length 1000 && Nat.ble w 10000) (K (.fr 3 (.rats (w + 65) xs)) []) (.no 1)
  | _, _ => .no 1
include hG in
theorem ck70 (hT : TabG G) : SpecOK Tryd.prog G 80 c70 := by
  intro args hs K x h
  unfold c70 at h
  split at h
  case h_2 => cases h
  obtain ⟨hc, hr⟩ := Tr.of_br h
  simp only [Bool.and_eq_true, Nat.ble_eq] at hc
  exact ⟨_, _, pc70 hG hT _ hc.2 _ hc.1.1 hc.1.2, hr⟩
noncomputable def b98 : Code := (loopsOf (bodyC Tryd.f98)).getD 0 .skip
def pol98 : Pol := { live := [(3, [4, 5, 6, 7, 17, 18, 19])] }
noncomputable def O98 : Orc := [(38, g27), (39, g28), (83, g29), (51, g43), (81, c71)]
theorem enter98 : Enters Tryd.prog 98 Tryd.f98 (bodyC Tryd.f98) := ⟨Tryd.func98, by kernel_rfl, rfl⟩
def kyPV (w : Nat) (t : Int) (q : List Rat) : PV := .agg [.i .i64 t, .lst 3 (.rats w q)]
def st98 (w v : Nat) (t u : Int) (p q : List Rat) (b : Bool) (x : Rat) (n : Nat) (lk : Nat → Lk) (i : Int) : LS := ⟨[.ptr 0 2 0 0 [], .ptr 1 2 0 0 [], .bl b, .ptr 2 3 0 0 [], .lst 16 (.fn n (fun j => lkPV (lk j))), .i .i64 n, .i .i64 i], [some ⟨2, .vals [kyPV w t p]⟩, some ⟨2, .vals [kyPV v u q]⟩, some ⟨3, .vals [.q x 64]⟩]⟩
theorem r98 (w v : Nat) (t u : Int) (p q : List Rat) (b : Bool) (x : Rat) (n : Nat) (lk : Nat → Lk) (i : Int) : evRound Tryd.prog O98 [] pol98 Tryd.f98.ntmps 0 [4, 5, 6, 7, 17, 18, 19] b98 (st98 w v t u p q b x n lk i) =
  Tr.br (decide (i < (↑n : Int))) (.br (ix (i) ((↑n : Int))) (.br (ix (i) ((↑q.length : Int))) (.br (ix (i) ((↑p.length : Int))) (.br ((v + w + (1 : Nat)).ble 800000) (.br ((v + w + (1 : Nat)).ble 800000) (.br (((64 : Nat) + (64 : Nat)).ble 800000) (.br ((v + w + (1 : Nat) + ((64 : Nat) + (64 : Nat))).ble 800000) (.br (decide ((0 : Int) < rcmp (rabs (q.getD i.toNat 0 - p.getD i.toNat 0)) ((lk i.toNat).spd * x))) (.ok (.out .ret (LS.mk [.ptr 0 2 0 0 [], .ptr 1 2 0 0 [], .bl false, .ptr 2 3 0 0 [], .lst 16 (.fn n fun (j : Nat) => .agg [.q (lk j).len 64, .q (lk j).low 64, .q (lk j).high 64, .q (lk j).spd 64, .q (lk j).brk 64, .lst 6 (.fn (lk j).np fun (a : Nat) => .agg [.q ((lk j).px a) 64, .q ((lk j).py a) 64])]), .i .i64 (↑n : Int), .i .i64 i] [some (.mk 2 (.vals [.agg [.i .i64 t, .lst 3 (.rats w p)]])), some (.mk 2 (.vals [.agg [.i .i64 u, .lst 3 (.rats v q)]])), some (.mk 3 (.vals [.q x 64]))]))) (.br (ib (i + (1 : Int))) (.ok (.out .normal (LS.mk [.ptr 0 2 0 0 [], .ptr 1 2 0 0 [], .bl b, .ptr 2 3 0 0 [], .lst 16 (.fn n fun (j : Nat) => .agg [.q (lk j).len 64, .q (lk j).low 64, .q (lk j).high 64, .q (lk j).spd 64, .q (lk j).brk 64, .lst 6 (.fn (lk j).np fun (a : Nat) => .agg [.q ((lk j).px a) 64, .q ((lk j).py a) 64])]), .i .i64 (↑n : Int), .i .i64 (i + (1 : Int))] [some (.mk 2 (.vals [.agg [.i .i64 t, .lst 3 (.rats w p)]])), some (.mk 2 (.vals [.agg [.i .i64 u, .lst 3 (.rats v q)]])), some (.mk 3 (.vals [.q x 64]))]))) (.no 8002))) (.no 1)) (.no 1)) (.no 1)) (.no 1)) (.no 6010)) (.no 6015)) (.no 5005)) (.ok (.out (.exit 0) (LS.mk [.ptr 0 2 0 0 [], .ptr 1 2 0 0 [], .bl b, .ptr 2 3 0 0 [], .lst 16 (.fn n fun (j : Nat) => .agg [.q (lk j).len 64, .q (lk j).low 64, .q (lk j).high 64, .q (lk j).spd 64, .q (lk j).brk 64, .lst 6 (.fn (lk j).np fun (a : Nat) => .agg [.q ((lk j).px a) 64, .q ((lk j).py a) 64])]), .i .i64 (↑n : Int), .i .i64 i] [some (.mk 2 (.vals [.agg [.i .i64 t, .lst 3 (.rats w p)]])), some (.mk 2 (.vals [.agg [.i .i64 u, .lst 3 (.rats v q)]])), some (.mk 3 (.vals [.q x 64]))]))) := by kernel_rfl
theorem e98a (w v : Nat) (A : Am) (t u : Int) (p q : List Rat) : evF Tryd.prog O98 [(3, lcst (st98 w v t u p q false ((u - t : Int) : Rat) A.n A.lk 0) (.exit 0) (st98 w v t u p q false ((u - t : Int) : Rat) A.n A.lk (A.n : Nat)))] pol98 Tryd.f98 [armPV A, kyPV w t p, kyPV v u q] [] retK =
  Tr.br (ib (u - t)) (.br (decide ((-1000000000 : Int) < u - t) && decide (u - t < (1000000000 : Int))) (.br (decP (isLS (LS.mk [.ptr 0 2 0 0 [], .ptr 1 2 0 0 [], .bl false, .ptr 2 3 0 0 [], .lst 16 (.fn A.n fun (j : Nat) => .agg [.q (A.lk j).len 64, .q (A.lk j).low 64, .q (A.lk j).high 64, .q (A.lk j).spd 64, .q (A.lk j).brk 64, .lst 6 (.fn (A.lk j).np fun (a : Nat) => .agg [.q ((A.lk j).px a) 64, .q ((A.lk j).py a) 64])]), .i .i64 (↑A.n : Int), .i .i64 (0 : Int)] [some (.mk 2 (.vals [.agg [.i .i64 t, .lst 3 (.rats w p)]])), some (.mk 2 (.vals [.agg [.i .i64 u, .lst 3 (.rats v q)]])), some (.mk 3 (.vals [.q (↑(u - t) : Rat) 64]))]) (LS.mk [.ptr 0 2 0 0 [], .ptr 1 2 0 0 [], .bl false, .ptr 2 3 0 0 [], .lst 16 (.fn A.n fun (j : Nat) => .agg [.q (A.lk j).len 64, .q (A.lk j).low 64, .q (A.lk j).high 64, .q (A.lk j).spd 64, .q (A.lk j).brk 64, .lst 6 (.fn (A.lk j).np fun (a : Nat) => .agg [.q ((A.lk j).px a) 64, .q ((A.lk j).py a) 64])]), .i .i64 (↑A.n : Int), .i .i64 (0 : Int)] [some (.mk 2 (.vals [.agg [.i .i64 t, .lst 3 (.rats w p)]])), some (.mk 2 (.vals [.agg [.i .i64 u, .lst 3 (.rats v q)]])), some (.mk 3 (.vals [.q (↑(u - t) : Rat) 64]))]))) (.ok (.ret (.bl true) [])) (.no 1)) (.no 1)) (.no 2004) := by kernel_rfl
theorem e98b (w v : Nat) (A : Am) (t u : Int) (p q : List Rat) (i : Int) : evF Tryd.prog O98 [(3, lcst (st98 w v t u p q false ((u - t : Int) : Rat) A.n A.lk 0) .ret (st98 w v t u p q false ((u - t : Int) : Rat) A.n A.lk i))] pol98 Tryd.f98 [armPV A, kyPV w t p, kyPV v u q] [] retK =
  Tr.br (ib (u - t)) (.br (decide ((-1000000000 : Int) < u - t) && decide (u - t < (1000000000 : Int))) (.br (decP (isLS (LS.mk [.ptr 0 2 0 0 [], .ptr 1 2 0 0 [], .bl false, .ptr 2 3 0 0 [], .lst 16 (.fn A.n fun (j : Nat) => .agg [.q (A.lk j).len 64, .q (A.lk j).low 64, .q (A.lk j).high 64, .q (A.lk j).spd 64, .q (A.lk j).brk 64, .lst 6 (.fn (A.lk j).np fun (a : Nat) => .agg [.q ((A.lk j).px a) 64, .q ((A.lk j).py a) 64])]), .i .i64 (↑A.n : Int), .i .i64 (0 : Int)] [some (.mk 2 (.vals [.agg [.i .i64 t, .lst 3 (.rats w p)]])), some (.mk 2 (.vals [.agg [.i .i64 u, .lst 3 (.rats v q)]])), some (.mk 3 (.vals [.q (↑(u - t) : Rat) 64]))]) (LS.mk [.ptr 0 2 0 0 [], .ptr 1 2 0 0 [], .bl false, .ptr 2 3 0 0 [], .lst 16 (.fn A.n fun (j : Nat) => .agg [.q (A.lk j).len 64, .q (A.lk j).low 64, .q (A.lk j).high 64, .q (A.lk j).spd 64, .q (A.lk j).brk 64, .lst 6 (.fn (A.lk j).np fun (a : Nat) => .agg [.q ((A.lk j).px a) 64, .q ((A.lk j).py a) 64])]), .i .i64 (↑A.n : Int), .i .i64 (0 : Int)] [some (.mk 2 (.vals [.agg [.i .i64 t, .lst 3 (.rats w p)]])), some (.mk 2 (.vals [.agg [.i .i64 u, .lst 3 (.rats v q)]])), some (.mk 3 (.vals [.q (↑(u - t) : Rat) 64]))]))) (.ok (.ret (.bl false) [])) (.no 1)) (.no 1)) (.no 2004) := by kernel_rfl
def slow1 (lk : Nat → Lk) (x : Rat) (p q : List Rat) (j : Nat) : Bool := decide (rabs (q.getD j 0 - p.getD j 0) ≤ (lk j).spd * x)
def slowB (A : Am) (d : Int) (p q : List Rat) : Bool := (List.range A.n).all (slow1 A.lk (d : Rat) p q)
include hG in
theorem orc98 (hT : TabG G) : OrcOK Tryd.prog G O98 := .cons (gk27 hG hT) (.cons (gk28 hG hT) (.cons (gk29 hG hT) (.cons (gk43 hG hT) (.cons (ck71 hG) .nil))))
include hG in
theorem pc98 (hT : TabG G) (w v : Nat) (hw : w ≤ 10000) (hv : v ≤ 10000) (A : Am) (hA : armB A = true) (t u : Int) (p q : List Rat) (hp : p.length = A.n) (hq : q.length = A.n) (h0 : -100000 ≤ u - t) (h1 : u - t ≤ 100000) :
    PC Tryd.prog G 98 [armPV A, kyPV w t p, kyPV v u q] [] (.bl (slowB A (u - t) p q)) [] := by
  obtain ⟨-, -, -, -, -, h6, h7⟩ := armB_c hA
  have rd : ∀ j, j < A.n → ∀ (b : Bool) (i : Nat), i = j → (evRound Tryd.prog O98 [] pol98 Tryd.f98.ntmps 0 [4, 5, 6, 7, 17, 18, 19] b98 (st98 w v t u p q b ((u - t : Int) : Rat) A.n A.lk ((j : Nat) : Int))).run =
      some (match slow1 A.lk ((u - t : Int) : Rat) p q j with | true => .out .normal (st98 w v t u p q b ((u - t : Int) : Rat) A.n A.lk ((j + 1 : Nat) : Int)) | false => .out .ret (st98 w v t u p q false ((u - t : Int) : Rat) A.n A.lk ((j : Nat) : Int))) := by
    intro j hj b i hi
    rw [r98, Int.toNat_natCast, Tr.run_t (decide_eq_true (by omega)), Tr.run_t (by simp only [Bool.and_eq_true, decide_eq_true_eq]; omega), Tr.run_t (by simp only [Bool.and_eq_true, decide_eq_true_eq]; omega), Tr.run_t (by simp only [Bool.and_eq_true, decide_eq_true_eq]; omega),
      Tr.run_t (by rw [Nat.ble_eq]; omega), Tr.run_t (by rw [Nat.ble_eq]; omega), Tr.run_t (by decide), Tr.run_t (by rw [Nat.ble_eq]; omega)]
    cases hb : slow1 A.lk ((u - t : Int) : Rat) p q j with
    | true =>
      have := of_decide_eq_true hb
      rw [Tr.run_f (decide_eq_false (by rw [rcmp_gt]; exact Rat.not_lt.2 this)), Tr.run_t (by simp only [Bool.and_eq_true, decide_eq_true_eq]; omega), Tr.run_ok]
      rfl
    | false =>
      have := of_decide_eq_false hb
      rw [Tr.run_t (decide_eq_true (by rw [rcmp_gt]; exact Rat.not_le.1 this)), Tr.run_ok]
      rfl
  obtain ⟨g1, g2⟩ := Goes.search (R := Rnd Tryd.prog G Tryd.f98.ntmps 0 [4, 5, 6, 7, 17, 18, 19] b98) (fun j => st98 w v t u p q false ((u - t : Int) : Rat) A.n A.lk ((j : Nat) : Int)) (fun j => st98 w v t u p q false ((u - t : Int) : Rat) A.n A.lk ((j : Nat) : Int)) (slow1 A.lk ((u - t : Int) : Rat) p q) A.n
    (e0 := .exit 0) (e1 := .ret) (fin := st98 w v t u p q false ((u - t : Int) : Rat) A.n A.lk ((A.n : Nat) : Int)) (by simp) (by simp)
    (fun j hj hf => by
      refine round_ok hG (orc98 hG hT) mix (L := []) (pol := pol98) (O := O98) (LpsOK.none (by kernel_rfl)) (Nat.zero_le _) ?_
      rw [rd j hj false j rfl, hf])
    (fun j hj hf => by
      refine round_ok hG (orc98 hG hT) mix (L := []) (pol := pol98) (O := O98) (LpsOK.none (by kernel_rfl)) (Nat.zero_le _) ?_
      rw [rd j hj false j rfl, hf])
    (by
      refine round_ok hG (orc98 hG hT) mix (L := []) (pol := pol98) (O := O98) (LpsOK.none (by kernel_rfl)) (Nat.zero_le _) ?_
      rw [r98, Tr.run_f (decide_eq_false (by omega)), Tr.run_ok]
      rfl) A.n 0 (by omega)
  have c0 : (decide ((-9223372036854775808 : Int) ≤ u - t) && decide (u - t ≤ (9223372036854775807 : Int))) = true := by simp only [Bool.and_eq_true, decide_eq_true_eq]; omega
  have c1 : (decide ((-1000000000 : Int) < u - t) && decide (u - t < (1000000000 : Int))) = true := by simp only [Bool.and_eq_true, decide_eq_true_eq]; omega
  cases hall : slowB A (u - t) p q with
  | true =>
    refine evF_pc hG (orc98 hG hT) mix enter98 (L := [(3, lcst (st98 w v t u p q false ((u - t : Int) : Rat) A.n A.lk 0) (.exit 0) (st98 w v t u p q false ((u - t : Int) : Rat) A.n A.lk (A.n : Nat)))]) (pol := pol98) (lps1 (b := b98) (live := [4, 5, 6, 7, 17, 18, 19]) (m := 0) (by kernel_rfl) (by kernel_rfl) (by kernel_rfl) (lcst_ok (g1 fun j _ hj => List.all_eq_true.1 hall j (List.mem_range.2 hj)))) ?_
    rw [e98a, Tr.run_t c0, Tr.run_t c1, Tr.run_t isLS_t, Tr.run_ok]
  | false =>
    have hn : ¬ ∀ j, 0 ≤ j → j < A.n → slow1 A.lk ((u - t : Int) : Rat) p q j = true := by
      intro hh
      have : slowB A (u - t) p q = true := List.all_eq_true.2 fun j hj => hh j (Nat.zero_le _) (List.mem_range.1 hj)
      rw [hall] at this; cases this
    refine evF_pc hG (orc98 hG hT) mix enter98 (L := [(3, lcst (st98 w v t u p q false ((u - t : Int) : Rat) A.n A.lk 0) .ret (st98 w v t u p q false ((u - t : Int) : Rat) A.n A.lk ((fbad (slow1 A.lk ((u - t : Int) : Rat) p q) A.n 0 : Nat) : Int)))]) (pol := pol98) (lps1 (b := b98) (live := [4, 5, 6, 7, 17, 18, 19]) (m := 0) (by kernel_rfl) (by kernel_rfl) (by kernel_rfl) (lcst_ok (g2 hn))) ?_
    rw [e98b, Tr.run_t c0, Tr.run_t c1, Tr.run_t isLS_t, Tr.run_ok]
end Go.Proofs.YtgaokohhkdeomaaDoor.PE
namespace Go.Proofs.YtgaokohhkdeomaaDoor.PE
open Go
set_option maxRecDepth 100000
variable {G : World → (Nat → Prop) → Prop} (hG : GOk G)
noncomputable def b17 : Code := (loopsOf (bodyC Tryd.f20)).getD 0 .skip
noncomputable def b17i : Code := (loopsOf b17).getD 0 .skip
def pol17 : Pol := { live := [(6, [0, 1, 4, 5]), (14, [6, 7, 9, 11, 71, 72])], own := [26, 106] }
noncomputable def O17 : Orc := [(24, g21), (83, g29), (51, g43), (80, c70), (81, c71), (82, g72)]
theorem enter17 : Enters Tryd.prog 20 Tryd.f20 (bodyC Tryd.f20) := ⟨Tryd.func20, by kernel_rfl, rfl⟩
def segW (w : Nat) : Nat := w + (258 + (w + w + 1)) + 1
def n17i (w : Nat) (t u : Int) (p q : List Rat) (s : Rat) (n i : Int) : LS := ⟨[.ptr 0 2 0 0 [], .ptr 1 2 0 0 [], .ptr 2 3 0 0 [], .nil, .i .i64 n, .i .i64 i], [some ⟨2, .vals [kyPV w t p]⟩, some ⟨2, .vals [kyPV w u q]⟩, some ⟨3, .vals [.q s 258]⟩]⟩
def x17i (w W : Nat) (t u : Int) (p q : List Rat) (s : Rat) (ys : List Rat) (n i : Int) : LS := ⟨[.ptr 0 2 0 0 [], .ptr 1 2 0 0 [], .ptr 2 3 0 0 [], .sl 3 3 0 ys.length, .i .i64 n, .i .i64 i], [some ⟨2, .vals [kyPV w t p]⟩, some ⟨2, .vals [kyPV w u q]⟩, some ⟨3, .vals [.q s 258]⟩, some ⟨3, .rats W ys⟩]⟩
theorem r17n (w : Nat) (t u : Int) (p q : List Rat) (s : Rat) (n i : Int) : evRound Tryd.prog O17 [] pol17 Tryd.f20.ntmps 0 [6, 7, 9, 11, 71, 72] b17i (n17i w t u p q s n i) =
  Tr.br (decide (i < n)) (.br (ix (i) ((↑p.length : Int))) (.br (ix (i) ((↑q.length : Int))) (.br (ix (i) ((↑p.length : Int))) (.br ((w + w + (1 : Nat)).ble 800000) (.br (((258 : Nat) + (w + w + (1 : Nat))).ble 800000) (.br ((w + ((258 : Nat) + (w + w + (1 : Nat))) + (1 : Nat)).ble 800000) (.br (Nat.blt (0 : Nat) [p.getD i.toNat 0 + s * (q.getD i.toNat 0 - p.getD i.toNat 0)].length && [p.getD i.toNat 0 + s * (q.getD i.toNat 0 - p.getD i.toNat 0)].length.ble 4294967296) (.br (ib (i + (1 : Int))) (.ok (.out .normal (LS.mk [.ptr 0 2 0 0 [], .ptr 1 2 0 0 [], .ptr 2 3 0 0 [], .sl 3 3 0 1, .i .i64 n, .i .i64 (i + (1 : Int))] [some (.mk 2 (.vals [.agg [.i .i64 t, .lst 3 (.rats w p)]])), some (.mk 2 (.vals [.agg [.i .i64 u, .lst 3 (.rats w q)]])), some (.mk 3 (.vals [.q s 258])), some (.mk 3 (.rats ((w + ((258 : Nat) + (w + w + (1 : Nat))) + (1 : Nat)).max (0 : Nat)) [p.getD i.toNat 0 + s * (q.getD i.toNat 0 - p.getD i.toNat 0)]))]))) (.no 18002)) (.no 17002)) (.no 1)) (.no 1)) (.no 1)) (.no 17008)) (.no 17013)) (.no 17019)) (.ok (.out (.exit 2) (LS.mk [.ptr 0 2 0 0 [], .ptr 1 2 0 0 [], .ptr 2 3 0 0 [], .nil, .i .i64 n, .i .i64 i] [some (.mk 2 (.vals [.agg [.i .i64 t, .lst 3 (.rats w p)]])), some (.mk 2 (.vals [.agg [.i .i64 u, .lst 3 (.rats w q)]])), some (.mk 3 (.vals [.q s 258]))]))) := by kernel_rfl
theorem r17x (w W : Nat) (t u : Int) (p q : List Rat) (s : Rat) (ys : List Rat) (n i : Int) : evRound Tryd.prog O17 [] pol17 Tryd.f20.ntmps 0 [6, 7, 9, 11, 71, 72] b17i (x17i w W t u p q s ys n i) =
  Tr.br (decide (i < n)) (.br (ix (i) ((↑p.length : Int))) (.br (ix (i) ((↑q.length : Int))) (.br (ix (i) ((↑p.length : Int))) (.br ((w + w + (1 : Nat)).ble 800000) (.br (((258 : Nat) + (w + w + (1 : Nat))).ble 800000) (.br ((w + ((258 : Nat) + (w + w + (1 : Nat))) + (1 : Nat)).ble 800000) (.br (ys.length.ble ys.length && (ys.length + [p.getD i.toNat 0 + s * (q.getD i.toNat 0 - p.getD i.toNat 0)].length).ble 4294967296) (.br (ib (i + (1 : Int))) (.ok (.out .normal (LS.mk [.ptr 0 2 0 0 [], .ptr 1 2 0 0 [], .ptr 2 3 0 0 [], .sl 3 3 0 (ys.length + [p.getD i.toNat 0 + s * (q.getD i.toNat 0 - p.getD i.toNat 0)].length), .i .i64 n, .i .i64 (i + (1 : Int))] [some (.mk 2 (.vals [.agg [.i .i64 t, .lst 3 (.rats w p)]])), some (.mk 2 (.vals [.agg [.i .i64 u, .lst 3 (.rats w q)]])), some (.mk 3 (.vals [.q s 258])), some (.mk 3 (.rats (W.max ((w + ((258 : Nat) + (w + w + (1 : Nat))) + (1 : Nat)).max (0 : Nat))) (List.take ys.length (List.drop (0 : Nat) ys) ++ [p.getD i.toNat 0 + s * (q.getD i.toNat 0 - p.getD i.toNat 0)])))]))) (.no 18002)) (.no 17002)) (.no 1)) (.no 1)) (.no 1)) (.no 17008)) (.no 17013)) (.no 17019)) (.ok (.out (.exit 2) (LS.mk [.ptr 0 2 0 0 [], .ptr 1 2 0 0 [], .ptr 2 3 0 0 [], .sl 3 3 0 ys.length, .i .i64 n, .i .i64 i] [some (.mk 2 (.vals [.agg [.i .i64 t, .lst 3 (.rats w p)]])), some (.mk 2 (.vals [.agg [.i .i64 u, .lst 3 (.rats w q)]])), some (.mk 3 (.vals [.q s 258])), some (.mk 3 (.rats W ys))]))) := by kernel_rfl
def parV (p q : List Rat) (s : Rat) (j : Nat) : Rat := p.getD j 0 + s * (q.getD j 0 - p.getD j 0)
def parL (p q : List Rat) (s : Rat) (n : Nat) : List Rat := (List.range n).map (parV p q s)
theorem parL_len (p q : List Rat) (s : Rat) (n : Nat) : (parL p q s n).length = n := by simp [parL]
include hG in
theorem orc17 (hT : TabG G) : OrcOK Tryd.prog G O17 := .cons (gk21 hG hT) (.cons (gk29 hG hT) (.cons (gk43 hG hT) (.cons (ck70 hG hT) (.cons (ck71 hG) (.cons (gk72 hG hT) .nil)))))
include hG in
theorem goes17i (hT : TabG G) (w : Nat) (hw : w ≤ 10000) (t u : Int) (p q : List Rat) (s : Rat) (n : Nat) (h1 : 1 ≤ n) (h3 : n ≤ 1000) (hp : p.length = n) (hq : q.length = n) :
    Goes (Rnd Tryd.prog G Tryd.f20.ntmps 0 [6, 7, 9, 11, 71, 72] b17i) (n17i w t u p q s (n : Nat) 0) (.exit 2) (x17i w (segW w) t u p q s (parL p q s n) (n : Nat) (n : Nat)) := by
  refine Goes.build (xst := fun ys j => x17i w (segW w) t u p q s ys (n : Nat) (j : Nat)) (parV p q s) (by simp) n h1 ?_ ?_ ?_
  · refine round_ok hG (orc17 hG hT) mix (L := []) (pol := pol17) (O := O17) (LpsOK.none (by kernel_rfl)) (Nat.zero_le _) ?_
    rw [r17n, show Int.toNat 0 = 0 from rfl, Tr.run_t (decide_eq_true (by omega)), Tr.run_t (by simp only [Bool.and_eq_true, decide_eq_true_eq]; omega), Tr.run_t (by simp only [Bool.and_eq_true, decide_eq_true_eq]; omega), Tr.run_t (by simp only [Bool.and_eq_true, decide_eq_true_eq]; omega),
      Tr.run_t (by rw [Nat.ble_eq]; omega), Tr.run_t (by rw [Nat.ble_eq]; omega), Tr.run_t (by rw [Nat.ble_eq]; omega), Tr.run_t (by rfl), Tr.run_t (by decide), Tr.run_ok]
    rfl
  · intro ys j hy hj1 hj
    refine round_ok hG (orc17 hG hT) mix (L := []) (pol := pol17) (O := O17) (LpsOK.none (by kernel_rfl)) (Nat.zero_le _) ?_
    rw [r17x, Int.toNat_natCast, Tr.run_t (decide_eq_true (by omega)), Tr.run_t (by simp only [Bool.and_eq_true, decide_eq_true_eq]; omega), Tr.run_t (by simp only [Bool.and_eq_true, decide_eq_true_eq]; omega), Tr.run_t (by simp only [Bool.and_eq_true, decide_eq_true_eq]; omega),
      Tr.run_t (by rw [Nat.ble_eq]; omega), Tr.run_t (by rw [Nat.ble_eq]; omega), Tr.run_t (by rw [Nat.ble_eq]; omega), Tr.run_t (by simp only [Bool.and_eq_true, Nat.ble_eq, List.length_cons, List.length_nil]; omega), Tr.run_t (by simp only [Bool.and_eq_true, decide_eq_true_eq]; omega), Tr.run_ok, List.drop_zero, List.take_length]
    unfold x17i
    rw [List.length_append]
    refine Eq.trans (b := some (Res.out .normal (x17i w (Nat.max (segW w) (Nat.max (segW w) 0)) t u p q s (ys ++ [parV p q s j]) (n : Nat) ((j + 1 : Nat) : Int)))) ?_ (by rw [mx0]; unfold x17i; rw [List.length_append])
    unfold x17i
    rw [List.length_append]
    rfl
  · refine round_ok hG (orc17 hG hT) mix (L := []) (pol := pol17) (O := O17) (LpsOK.none (by kernel_rfl)) (Nat.zero_le _) ?_
    rw [r17x, Tr.run_f (decide_eq_false (by omega)), Tr.run_ok]
    rfl
def trC (w n : Nat) (tk : Nat → Int) (qs : Nat → List Rat) : PV := .lst 2 (.fn n (fun j => kyPV w (tk j) (qs j)))
def o17 (w n : Nat) (tk : Nat → Int) (qs : Nat → List Rat) (tick i : Int) : LS := ⟨[trC w n tk qs, .i .i64 tick, .nil, .i .i64 i], []⟩
def o17r (w : Nat) (ys : List Rat) : LS := ⟨[.any, .any, .sl 0 3 0 ys.length, .any], [some ⟨3, .rats (segW w) ys⟩]⟩
theorem r17 (w n : Nat) (tk : Nat → Int) (qs : Nat → List Rat) (tick i : Int) (s : Rat) (ys : List Rat) (m : Int) : evRound Tryd.prog O17 [(14, lcst (n17i w (tk (i - 1).toNat) (tk i.toNat) (qs (i - 1).toNat) (qs i.toNat) s m 0) (.exit 2) (x17i w (segW w) (tk (i - 1).toNat) (tk i.toNat) (qs (i - 1).toNat) (qs i.toNat) s ys m m))] pol17 Tryd.f20.ntmps 0 [0, 1, 4, 5] b17 (o17 w n tk qs tick i) =
  Tr.br (decide (i < (↑n : Int))) (.br (ix (i) ((↑n : Int))) (.br (decide (tk i.toNat ≤ tick)) (.br (ib (i + (1 : Int))) (.ok (.out .normal (LS.mk [.lst 2 (.fn n fun (j : Nat) => .agg [.i .i64 (tk j), .lst 3 (.rats w (qs j))]), .i .i64 tick, .nil, .i .i64 (i + (1 : Int))] []))) (.no 8002)) (.br (ib (i - (1 : Int))) (.br (ix (i - (1 : Int)) ((↑n : Int))) (.br (ix (i) ((↑n : Int))) (.br (decide ((-1000000000 : Int) < tk (i - (1 : Int)).toNat) && decide (tk (i - (1 : Int)).toNat < (1000000000 : Int))) (.br (decide ((-1000000000 : Int) < tick) && decide (tick < (1000000000 : Int))) (.br (((64 : Nat) + (64 : Nat) + (1 : Nat)).ble 800000) (.br (decide ((-1000000000 : Int) < tk i.toNat) && decide (tk i.toNat < (1000000000 : Int))) (.br (((64 : Nat) + (64 : Nat) + (1 : Nat)).ble 800000) (.br (((64 : Nat) + (64 : Nat) + (1 : Nat) + ((64 : Nat) + (64 : Nat) + (1 : Nat))).ble 800000) (.br (decide ((↑(tk i.toNat) : Rat) - (↑(tk (i - (1 : Int)).toNat) : Rat) = (0 : Rat))) (.br (decP (isLS (LS.mk [.ptr 0 2 0 0 [], .ptr 1 2 0 0 [], .ptr 2 3 0 0 [], .nil, .i .i64 m, .i .i64 (0 : Int)] [some (.mk 2 (.vals [.agg [.i .i64 (tk (i - (1 : Int)).toNat), .lst 3 (.rats w (qs (i - (1 : Int)).toNat))]])), some (.mk 2 (.vals [.agg [.i .i64 (tk i.toNat), .lst 3 (.rats w (qs i.toNat))]])), some (.mk 3 (.vals [.q s 258]))]) (LS.mk [.ptr 0 2 0 0 [], .ptr 1 2 0 0 [], .ptr 2 3 0 0 [], .nil, .i .i64 (if (↑(qs i.toNat).length : Int) < (↑(qs (i - (1 : Int)).toNat).length : Int) then (↑(qs i.toNat).length : Int) else (↑(qs (i - (1 : Int)).toNat).length : Int)), .i .i64 (0 : Int)] [some (.mk 2 (.vals [.agg [.i .i64 (tk (i - (1 : Int)).toNat), .lst 3 (.rats w (qs (i - (1 : Int)).toNat))]])), some (.mk 2 (.vals [.agg [.i .i64 (tk i.toNat), .lst 3 (.rats w (qs i.toNat))]])), some (.mk 3 (.vals [.agg [.bl false, .s (ByteArray.mk #[]), .s (ByteArray.mk #[])]]))]))) (.ok (.out .ret (LS.mk [PV.any, PV.any, .sl 0 3 0 ys.length, PV.any] [some (.mk 3 (.rats (segW w) ys))]))) (.no 1)) (.br (decP (isLS (LS.mk [.ptr 0 2 0 0 [], .ptr 1 2 0 0 [], .ptr 2 3 0 0 [], .nil, .i .i64 m, .i .i64 (0 : Int)] [some (.mk 2 (.vals [.agg [.i .i64 (tk (i - (1 : Int)).toNat), .lst 3 (.rats w (qs (i - (1 : Int)).toNat))]])), some (.mk 2 (.vals [.agg [.i .i64 (tk i.toNat), .lst 3 (.rats w (qs i.toNat))]])), some (.mk 3 (.vals [.q s 258]))]) (LS.mk [.ptr 0 2 0 0 [], .ptr 1 2 0 0 [], .ptr 2 3 0 0 [], .nil, .i .i64 (if (↑(qs i.toNat).length : Int) < (↑(qs (i - (1 : Int)).toNat).length : Int) then (↑(qs i.toNat).length : Int) else (↑(qs (i - (1 : Int)).toNat).length : Int)), .i .i64 (0 : Int)] [some (.mk 2 (.vals [.agg [.i .i64 (tk (i - (1 : Int)).toNat), .lst 3 (.rats w (qs (i - (1 : Int)).toNat))]])), some (.mk 2 (.vals [.agg [.i .i64 (tk i.toNat), .lst 3 (.rats w (qs i.toNat))]])), some (.mk 3 (.vals [.q (((↑tick : Rat) - (↑(tk (i - (1 : Int)).toNat) : Rat)) / ((↑(tk i.toNat) : Rat) - (↑(tk (i - (1 : Int)).toNat) : Rat))) 258]))]))) (.ok (.out .ret (LS.mk [PV.any, PV.any, .sl 0 3 0 ys.length, PV.any] [some (.mk 3 (.rats (segW w) ys))]))) (.no 1))) (.no 1)) (.no 1)) (.no 1)) (.no 1)) (.no 1)) (.no 1)) (.no 10006)) (.no 10010)) (.no 10011))) (.no 9005)) (.ok (.out (.exit 0) (LS.mk [.lst 2 (.fn n fun (j : Nat) => .agg [.i .i64 (tk j), .lst 3 (.rats w (qs j))]), .i .i64 tick, .nil, .i .i64 i] []))) := by kernel_rfl
def lno : LSpec := fun _ _ => .no 1
theorem lno_ok {P : Program} {n m : Nat} {live : List Nat} {b : Code} : LoopOK P G n m live b lno := by
  intro ls K x hm h; cases h
theorem r17o (w n : Nat) (tk : Nat → Int) (qs : Nat → List Rat) (tick i : Int) : evRound Tryd.prog O17 [(14, lno)] pol17 Tryd.f20.ntmps 0 [0, 1, 4, 5] b17 (o17 w n tk qs tick i) =
  Tr.br (decide (i < (↑n : Int))) (.br (ix (i) ((↑n : Int))) (.br (decide (tk i.toNat ≤ tick)) (.br (ib (i + (1 : Int))) (.ok (.out .normal (LS.mk [.lst 2 (.fn n fun (j : Nat) => .agg [.i .i64 (tk j), .lst 3 (.rats w (qs j))]), .i .i64 tick, .nil, .i .i64 (i + (1 : Int))] []))) (.no 8002)) (.br (ib (i - (1 : Int))) (.br (ix (i - (1 : Int)) ((↑n : Int))) (.br (ix (i) ((↑n : Int))) (.br (decide ((-1000000000 : Int) < tk (i - (1 : Int)).toNat) && decide (tk (i - (1 : Int)).toNat < (1000000000 : Int))) (.br (decide ((-1000000000 : Int) < tick) && decide (tick < (1000000000 : Int))) (.br (((64 : Nat) + (64 : Nat) + (1 : Nat)).ble 800000) (.br (decide ((-1000000000 : Int) < tk i.toNat) && decide (tk i.toNat < (1000000000 : Int))) (.br (((64 : Nat) + (64 : Nat) + (1 : Nat)).ble 800000) (.br (((64 : Nat) + (64 : Nat) + (1 : Nat) + ((64 : Nat) + (64 : Nat) + (1 : Nat))).ble 800000) (.br (decide ((↑(tk i.toNat) : Rat) - (↑(tk (i - (1 : Int)).toNat) : Rat) = (0 : Rat))) (.no 1) (.no 1)) (.no 1)) (.no 1)) (.no 1)) (.no 1)) (.no 1)) (.no 1)) (.no 10006)) (.no 10010)) (.no 10011))) (.no 9005)) (.ok (.out (.exit 0) (LS.mk [.lst 2 (.fn n fun (j : Nat) => .agg [.i .i64 (tk j), .lst 3 (.rats w (qs j))]), .i .i64 tick, .nil, .i .i64 i] []))) := by kernel_rfl
theorem e17a (w n : Nat) (tk : Nat → Int) (qs : Nat → List Rat) (tick : Int) : evF Tryd.prog O17 [(6, lcst (o17 w n tk qs tick 1) (.exit 0) (o17 w n tk qs tick (n : Nat)))] pol17 Tryd.f20 [trC w n tk qs, .i .i64 tick] [] retK =
  Tr.br (decide ((↑n : Int) = (0 : Int))) (.ok (.ret .nil [])) (.br (ix ((0 : Int)) ((↑n : Int))) (.br (decide (tick ≤ tk (Int.toNat 0))) (.br (ix ((0 : Int)) ((↑n : Int))) (.br (Nat.ble 1 (qs (Int.toNat 0)).length && (qs (Int.toNat 0)).length.ble 1000 && w.ble 10000) (.br ((qs (Int.toNat 0)).length.ble (qs (Int.toNat 0)).length) (.ok (.ret (.fr 3 (.rats (w + (65 : Nat)) (List.take (qs (Int.toNat 0)).length (List.drop (0 : Nat) (qs (Int.toNat 0)))))) [])) (.no 15)) (.no 1)) (.no 5005)) (.br (decP (isLS (LS.mk [.lst 2 (.fn n fun (j : Nat) => .agg [.i .i64 (tk j), .lst 3 (.rats w (qs j))]), .i .i64 tick, .nil, .i .i64 (1 : Int)] []) (LS.mk [.lst 2 (.fn n fun (j : Nat) => .agg [.i .i64 (tk j), .lst 3 (.rats w (qs j))]), .i .i64 tick, .nil, .i .i64 (1 : Int)] []))) (.br (ib ((↑n : Int) - (1 : Int))) (.br (ix ((↑n : Int) - (1 : Int)) ((↑n : Int))) (.br (Nat.ble 1 (qs ((↑n : Int) - (1 : Int)).toNat).length && (qs ((↑n : Int) - (1 : Int)).toNat).length.ble 1000 && w.ble 10000) (.br ((qs ((↑n : Int) - (1 : Int)).toNat).length.ble (qs ((↑n : Int) - (1 : Int)).toNat).length) (.ok (.ret (.fr 3 (.rats (w + (65 : Nat)) (List.take (qs ((↑n : Int) - (1 : Int)).toNat).length (List.drop (0 : Nat) (qs ((↑n : Int) - (1 : Int)).toNat))))) [])) (.no 15)) (.no 1)) (.no 20005)) (.no 20006)) (.no 1))) (.no 4004)) := by kernel_rfl
theorem e17c (w n : Nat) (tk : Nat → Int) (qs : Nat → List Rat) (tick : Int) : evF Tryd.prog O17 [(6, lno)] pol17 Tryd.f20 [trC w n tk qs, .i .i64 tick] [] retK =
  Tr.br (decide ((↑n : Int) = (0 : Int))) (.ok (.ret .nil [])) (.br (ix ((0 : Int)) ((↑n : Int))) (.br (decide (tick ≤ tk (Int.toNat 0))) (.br (ix ((0 : Int)) ((↑n : Int))) (.br (Nat.ble 1 (qs (Int.toNat 0)).length && (qs (Int.toNat 0)).length.ble 1000 && w.ble 10000) (.br ((qs (Int.toNat 0)).length.ble (qs (Int.toNat 0)).length) (.ok (.ret (.fr 3 (.rats (w + (65 : Nat)) (List.take (qs (Int.toNat 0)).length (List.drop (0 : Nat) (qs (Int.toNat 0)))))) [])) (.no 15)) (.no 1)) (.no 5005)) (.no 1)) (.no 4004)) := by kernel_rfl
theorem e17b (w n : Nat) (tk : Nat → Int) (qs : Nat → List Rat) (tick : Int) (ys : List Rat) : evF Tryd.prog O17 [(6, lcst (o17 w n tk qs tick 1) .ret (o17r w ys))] pol17 Tryd.f20 [trC w n tk qs, .i .i64 tick] [] retK =
  Tr.br (decide ((↑n : Int) = (0 : Int))) (.ok (.ret .nil [])) (.br (ix ((0 : Int)) ((↑n : Int))) (.br (decide (tick ≤ tk (Int.toNat 0))) (.br (ix ((0 : Int)) ((↑n : Int))) (.br (Nat.ble 1 (qs (Int.toNat 0)).length && (qs (Int.toNat 0)).length.ble 1000 && w.ble 10000) (.br ((qs (Int.toNat 0)).length.ble (qs (Int.toNat 0)).length) (.ok (.ret (.fr 3 (.rats (w + (65 : Nat)) (List.take (qs (Int.toNat 0)).length (List.drop (0 : Nat) (qs (Int.toNat 0)))))) [])) (.no 15)) (.no 1)) (.no 5005)) (.br (decP (isLS (LS.mk [.lst 2 (.fn n fun (j : Nat) => .agg [.i .i64 (tk j), .lst 3 (.rats w (qs j))]), .i .i64 tick, .nil, .i .i64 (1 : Int)] []) (LS.mk [.lst 2 (.fn n fun (j : Nat) => .agg [.i .i64 (tk j), .lst 3 (.rats w (qs j))]), .i .i64 tick, .nil, .i .i64 (1 : Int)] []))) (.br (ys.length.ble ys.length) (.ok (.ret (.fr 3 (.rats (segW w) (List.take ys.length (List.drop (0 : Nat) ys)))) [])) (.no 15)) (.no 1))) (.no 4004)) := by kernel_rfl
structure TrC (m n : Nat) (tk : Nat → Int) (qs : Nat → List Rat) : Prop where
  n1 : 1 ≤ n
  n60 : n ≤ 60
  m1 : 1 ≤ m
  m3 : m ≤ 3
  len : ∀ j, j < n → (qs j).length = m
  rng : ∀ j, j < n → -50000 ≤ tk j ∧ tk j ≤ 50000
  inc : ∀ j, j + 1 < n → tk j < tk (j + 1)
def okAt (tk : Nat → Int) (tick : Int) (j : Nat) : Bool := decide (tk j ≤ tick)
def prt (tk : Nat → Int) (tick : Int) (i : Nat) : Rat := ((tick : Rat) - (tk (i - 1) : Rat)) / ((tk i : Rat) - (tk (i - 1) : Rat))
def at17 (m n : Nat) (tk : Nat → Int) (qs : Nat → List Rat) (tick : Int) : List Rat :=
  if tick ≤ tk 0 then qs 0 else
  if fbad (okAt tk tick) (n - 1) 1 = n then qs (n - 1) else
  parL (qs (fbad (okAt tk tick) (n - 1) 1 - 1)) (qs (fbad (okAt tk tick) (n - 1) 1)) (prt tk tick (fbad (okAt tk tick) (n - 1) 1)) m
theorem fbad_all (ok : Nat → Bool) : ∀ f i, (∀ j, i ≤ j → j < i + f → ok j = true) → fbad ok f i = i + f
  | 0, i, _ => rfl
  | f + 1, i, h => by
    have := fbad_all ok f (i + 1) (fun j a b => h j (by omega) (by omega))
    unfold fbad
    rw [h i (Nat.le_refl _) (by omega)]
    show fbad ok f (i + 1) = _
    omega
theorem fbad_some (ok : Nat → Bool) : ∀ f i, (¬ ∀ j, i ≤ j → j < i + f → ok j = true) → i ≤ fbad ok f i ∧ fbad ok f i < i + f ∧ ok (fbad ok f i) = false ∧ ∀ j, i ≤ j → j < fbad ok f i → ok j = true
  | 0, i, h => (h fun j a b => by omega).elim
  | f + 1, i, h => by
    unfold fbad
    cases hi : ok i with
    | false => exact ⟨Nat.le_refl _, by show i < _; omega, hi, fun j a b => by have b' : j < i := b; omega⟩
    | true =>
      obtain ⟨a, b, c, d⟩ := fbad_some ok f (i + 1) (fun hh => h fun j x y => by
        rcases Nat.lt_or_ge i j with g | g
        · exact hh j g (by omega)
        · rw [show j = i by omega]; exact hi)
      refine ⟨by show i ≤ fbad ok f (i + 1); omega, by show fbad ok f (i + 1) < _; omega, c, fun j x y => ?_⟩
      rcases Nat.lt_or_ge i j with g | g
      · exact d j g y
      · rw [show j = i by omega]; exact hi
theorem TrC.mono {m n : Nat} {tk : Nat → Int} {qs : Nat → List Rat} (h : TrC m n tk qs) : ∀ d j, j + d < n → tk j ≤ tk (j + d)
  | 0, j, _ => Int.le_refl _
  | d + 1, j, hj => by
    have := TrC.mono h d j (by omega)
    have := h.inc (j + d) (by omega)
    rw [show j + (d + 1) = j + d + 1 by omega]
    omega
include hG in
theorem pc17 (hT : TabG G) (w : Nat) (hw : w ≤ 9000) {m n : Nat} {tk : Nat → Int} {qs : Nat → List Rat} (h : TrC m n tk qs) (tick : Int) (h0 : -100000 ≤ tick) (h9 : tick ≤ 100000) : PC Tryd.prog G 20 [trC w n tk qs, .i .i64 tick] [] (.fr 3 (.rats (segW w) (at17 m n tk qs tick))) [] := by
  have hsw : w + 65 ≤ segW w := by unfold segW; omega
  have hn := h.n1
  have hn6 := h.n60
  have hm1 := h.m1
  have hm3 := h.m3
  have q0 := h.len 0 hn
  have q9 := h.len (n - 1) (by omega)
  have c0 : (decide ((0 : Int) ≤ 0) && decide ((0 : Int) < (n : Int))) = true := by simp only [Bool.and_eq_true, decide_eq_true_eq]; omega
  have step : ∀ i, i < n → okAt tk tick i = true → Rnd Tryd.prog G Tryd.f20.ntmps 0 [0, 1, 4, 5] b17 (o17 w n tk qs tick ((i : Nat) : Int)) .normal (o17 w n tk qs tick ((i + 1 : Nat) : Int)) := by
    intro i hi hok
    refine round_ok hG (orc17 hG hT) mix (L := [(14, lno)]) (pol := pol17) (O := O17) (lps1 (b := b17i) (live := [6, 7, 9, 11, 71, 72]) (sp := lno) (by kernel_rfl) (by kernel_rfl) (by kernel_rfl) lno_ok) (Nat.zero_le _) ?_
    rw [r17o, Int.toNat_natCast, Tr.run_t (decide_eq_true (by omega)), Tr.run_t (by simp only [Bool.and_eq_true, decide_eq_true_eq]; omega), Tr.run_t (by exact hok), Tr.run_t (by simp only [Bool.and_eq_true, decide_eq_true_eq]; omega), Tr.run_ok]
    rfl
  have fin : Rnd Tryd.prog G Tryd.f20.ntmps 0 [0, 1, 4, 5] b17 (o17 w n tk qs tick ((n : Nat) : Int)) (.exit 0) (o17 w n tk qs tick ((n : Nat) : Int)) := by
    refine round_ok hG (orc17 hG hT) mix (L := [(14, lno)]) (pol := pol17) (O := O17) (lps1 (b := b17i) (live := [6, 7, 9, 11, 71, 72]) (sp := lno) (by kernel_rfl) (by kernel_rfl) (by kernel_rfl) lno_ok) (Nat.zero_le _) ?_
    rw [r17o, Tr.run_f (decide_eq_false (by omega)), Tr.run_ok]
    rfl
  have bad : ∀ i, 1 ≤ i → i < n → okAt tk tick i = false → okAt tk tick (i - 1) = true → Rnd Tryd.prog G Tryd.f20.ntmps 0 [0, 1, 4, 5] b17 (o17 w n tk qs tick ((i : Nat) : Int)) .ret (o17r w (parL (qs (i - 1)) (qs i) (prt tk tick i) m)) := by
    intro i h1 hi hok hok'
    have ha := of_decide_eq_true hok'
    have hb : tick < tk i := by have := of_decide_eq_false hok; omega
    have r1 := h.rng i hi
    have r2 := h.rng (i - 1) (by omega)
    have hinc := h.inc (i - 1) (by omega)
    rw [show i - 1 + 1 = i by omega] at hinc
    have l1 := h.len i hi
    have l2 := h.len (i - 1) (by omega)
    have e1 : (((i : Nat) : Int) - 1).toNat = i - 1 := by omega
    have g := goes17i hG hT w (by omega) (tk (i - 1)) (tk i) (qs (i - 1)) (qs i) (prt tk tick i) m hm1 (by omega) l2 l1
    have sp : LoopOK Tryd.prog G Tryd.f20.ntmps 0 [6, 7, 9, 11, 71, 72] b17i (lcst (n17i w (tk (((i : Nat) : Int) - 1).toNat) (tk ((i : Nat) : Int).toNat) (qs (((i : Nat) : Int) - 1).toNat) (qs ((i : Nat) : Int).toNat) (prt tk tick i) (m : Nat) 0) (.exit 2)
      (x17i w (segW w) (tk (((i : Nat) : Int) - 1).toNat) (tk ((i : Nat) : Int).toNat) (qs (((i : Nat) : Int) - 1).toNat) (qs ((i : Nat) : Int).toNat) (prt tk tick i) (parL (qs (i - 1)) (qs i) (prt tk tick i) m) (m : Nat) (m : Nat))) := by
      rw [e1, Int.toNat_natCast]
      exact lcst_ok g
    refine round_ok hG (orc17 hG hT) mix (L := [(14, lcst (n17i w (tk (((i : Nat) : Int) - 1).toNat) (tk ((i : Nat) : Int).toNat) (qs (((i : Nat) : Int) - 1).toNat) (qs ((i : Nat) : Int).toNat) (prt tk tick i) (m : Nat) 0) (.exit 2) (x17i w (segW w) (tk (((i : Nat) : Int) - 1).toNat) (tk ((i : Nat) : Int).toNat) (qs (((i : Nat) : Int) - 1).toNat) (qs ((i : Nat) : Int).toNat) (prt tk tick i) (parL (qs (i - 1)) (qs i) (prt tk tick i) m) (m : Nat) (m : Nat)))]) (pol := pol17) (O := O17) (lps1 (b := b17i) (live := [6, 7, 9, 11, 71, 72]) (by kernel_rfl) (by kernel_rfl) (by kernel_rfl) sp) (Nat.zero_le _) ?_
    have d1 : ((tick - tk (i - 1) : Int) : Rat) = (tick : Rat) - (tk (i - 1) : Rat) := Rat.intCast_sub _ _
    have d2 : ((tk i - tk (i - 1) : Int) : Rat) = (tk i : Rat) - (tk (i - 1) : Rat) := Rat.intCast_sub _ _
    rw [r17, e1, Int.toNat_natCast, Tr.run_t (decide_eq_true (by omega)), Tr.run_t (by simp only [Bool.and_eq_true, decide_eq_true_eq]; omega), Tr.run_f (by exact hok), Tr.run_t (by simp only [Bool.and_eq_true, decide_eq_true_eq]; omega), Tr.run_t (by simp only [Bool.and_eq_true, decide_eq_true_eq]; omega), Tr.run_t (by simp only [Bool.and_eq_true, decide_eq_true_eq]; omega),
      Tr.run_t (by simp only [Bool.and_eq_true, decide_eq_true_eq]; omega), Tr.run_t (by simp only [Bool.and_eq_true, decide_eq_true_eq]; omega), Tr.run_t (by decide),
      Tr.run_t (by simp only [Bool.and_eq_true, decide_eq_true_eq]; omega), Tr.run_t (by decide),
      Tr.run_t (by decide), Tr.run_f (decide_eq_false (by rw [← d2]; intro h0; have := Rat.intCast_eq_zero_iff.1 h0; omega)),
      Tr.run_t (by
        rw [l1, l2]
        exact decP_iff.2 (by unfold isLS; rw [if_neg (by omega)]; rfl)), Tr.run_ok]
    rfl
  have a0 : ((1 : Nat) : Int) = 1 := rfl
  have k0 : (Nat.ble 1 (qs 0).length && Nat.ble (qs 0).length 1000 && Nat.ble w 10000) = true := by simp only [Bool.and_eq_true, Nat.ble_eq, q0]; omega
  have k9 : (Nat.ble 1 (qs (n - 1)).length && Nat.ble (qs (n - 1)).length 1000 && Nat.ble w 10000) = true := by simp only [Bool.and_eq_true, Nat.ble_eq, q9]; omega
  have e9 : (((n : Nat) : Int) - 1).toNat = n - 1 := by omega
  by_cases hall : ∀ j, 1 ≤ j → j < 1 + (n - 1) → okAt tk tick j = true
  · have g := Goes.count (R := Rnd Tryd.prog G Tryd.f20.ntmps 0 [0, 1, 4, 5] b17) (fun j => o17 w n tk qs tick ((j : Nat) : Int)) (e := .exit 0) (ls' := o17 w n tk qs tick ((n : Nat) : Int)) (by simp) (n - 1) 1 (fun j a b => step j (by omega) (hall j a b)) (by rw [show 1 + (n - 1) = n by omega]; exact fin)
    refine (evF_pc (r := .fr 3 (.rats (w + 65) (at17 m n tk qs tick))) hG (orc17 hG hT) mix enter17 (L := [(6, lcst (o17 w n tk qs tick 1) (.exit 0) (o17 w n tk qs tick (n : Nat)))]) (pol := pol17) (lps1n (b := b17) (b' := b17i) (live := [0, 1, 4, 5]) (m := 0) (by kernel_rfl) (by kernel_rfl) (by kernel_rfl) (by kernel_rfl) (lcst_ok g)) ?_).le (frrats_le 3 _ hsw) (.refl _)
    rw [e17a, show Int.toNat 0 = 0 from rfl, Tr.run_f (decide_eq_false (by omega)), Tr.run_t c0]
    unfold at17
    by_cases ht : tick ≤ tk 0
    · rw [if_pos ht, Tr.run_t (decide_eq_true ht), Tr.run_t c0, Tr.run_t (by exact k0), Tr.run_t (by rw [Nat.ble_eq]; exact Nat.le_refl _), Tr.run_ok, List.drop_zero]
      show some (Res.ret (.fr 3 (.rats (w + 65) (List.take (qs 0).length (qs 0)))) []) = _
      rw [List.take_length]
    · rw [if_neg ht, if_pos (by rw [fbad_all _ _ _ hall]; omega), Tr.run_f (decide_eq_false ht), Tr.run_t isLS_t, Tr.run_t (by simp only [Bool.and_eq_true, decide_eq_true_eq]; omega), Tr.run_t (by simp only [Bool.and_eq_true, decide_eq_true_eq]; omega), Tr.run_t (by rw [e9]; exact k9),
        Tr.run_t (by rw [Nat.ble_eq]; exact Nat.le_refl _), Tr.run_ok, List.drop_zero]
      show some (Res.ret (.fr 3 (.rats (w + 65) (List.take (qs (((n : Nat) : Int) - 1).toNat).length (qs (((n : Nat) : Int) - 1).toNat)))) []) = _
      rw [List.take_length, e9]
  · obtain ⟨f1, f2, f3, f4⟩ := fbad_some (okAt tk tick) (n - 1) 1 hall
    by_cases ht : tick ≤ tk 0
    · have g := Goes.count (R := Rnd Tryd.prog G Tryd.f20.ntmps 0 [0, 1, 4, 5] b17) (fun j => o17 w n tk qs tick ((n : Nat) : Int)) (e := .exit 0) (ls' := o17 w n tk qs tick ((n : Nat) : Int)) (by simp) 0 0 (fun j a b => by omega) fin
      refine (evF_pc (r := .fr 3 (.rats (w + 65) (at17 m n tk qs tick))) hG (orc17 hG hT) mix enter17 (L := [(6, lno)]) (pol := pol17) (lps1n (b := b17) (b' := b17i) (live := [0, 1, 4, 5]) (m := 0) (by kernel_rfl) (by kernel_rfl) (by kernel_rfl) (by kernel_rfl) lno_ok) ?_).le (frrats_le 3 _ hsw) (.refl _)
      rw [e17c, show Int.toNat 0 = 0 from rfl, Tr.run_f (decide_eq_false (by omega)), Tr.run_t c0]
      unfold at17
      rw [if_pos ht, Tr.run_t (decide_eq_true ht), Tr.run_t c0, Tr.run_t (by exact k0), Tr.run_t (by rw [Nat.ble_eq]; exact Nat.le_refl _), Tr.run_ok, List.drop_zero]
      show some (Res.ret (.fr 3 (.rats (w + 65) (List.take (qs 0).length (qs 0)))) []) = _
      rw [List.take_length]
    · have hprev : okAt tk tick (fbad (okAt tk tick) (n - 1) 1 - 1) = true := by
        rcases Nat.lt_or_ge 1 (fbad (okAt tk tick) (n - 1) 1) with a | a
        · exact f4 _ (by omega) (by omega)
        · rw [show fbad (okAt tk tick) (n - 1) 1 - 1 = 0 by omega]; exact decide_eq_true (by omega)
      unfold at17
      rw [if_neg ht, if_neg (by omega)]
      generalize fbad (okAt tk tick) (n - 1) 1 = i at *
      have g := Goes.count (R := Rnd Tryd.prog G Tryd.f20.ntmps 0 [0, 1, 4, 5] b17) (fun j => o17 w n tk qs tick ((j : Nat) : Int)) (e := .ret) (ls' := o17r w (parL (qs (i - 1)) (qs i) (prt tk tick i) m)) (by simp) (i - 1) 1 (fun j a b => step j (by omega) (f4 j a (by omega))) (by rw [show 1 + (i - 1) = i by omega]; exact bad i f1 (by omega) f3 hprev)
      refine evF_pc hG (orc17 hG hT) mix enter17 (L := [(6, lcst (o17 w n tk qs tick 1) .ret (o17r w (parL (qs (i - 1)) (qs i) (prt tk tick i) m)))]) (pol := pol17) (lps1n (b := b17) (b' := b17i) (live := [0, 1, 4, 5]) (m := 0) (by kernel_rfl) (by kernel_rfl) (by kernel_rfl) (by kernel_rfl) (lcst_ok g)) ?_
      rw [e17b, show Int.toNat 0 = 0 from rfl, Tr.run_f (decide_eq_false (by omega)), Tr.run_t c0, Tr.run_f (decide_eq_false ht), Tr.run_t isLS_t, Tr.run_t (by rw [Nat.ble_eq]; exact Nat.le_refl _), Tr.run_ok, List.drop_zero, List.take_length]
end Go.Proofs.YtgaokohhkdeomaaDoor.PE
namespace Go.Proofs.YtgaokohhkdeomaaDoor.PE
open Go
set_option maxRecDepth 100000
variable {G : World → (Nat → Prop) → Prop} (hG : GOk G)
noncomputable def s84 : Spec := evF Tryd.prog [(29, s23)] [] {} Tryd.f57
end Go.Proofs.YtgaokohhkdeomaaDoor.PE
namespace Go.Proofs.YtgaokohhkdeomaaDoor.PE
open Go
set_option maxRecDepth 100000
variable {G : World → (Nat → Prop) → Prop} (hG : GOk G)
noncomputable def b32 : Code := (loopsOf (bodyC Tryd.f47)).getD 0 .skip
def pol32 : Pol := { live := [(3, [2, 3, 11, 12, 13])] }
noncomputable def O32 : Orc := [(29, s23), (57, s84)]
noncomputable def l32 : LSpec := unr Tryd.prog O32 [] pol32 Tryd.f47.ntmps 0 [2, 3, 11, 12, 13] b32 3
theorem e32 (x : Unit) : evF Tryd.prog O32 [(3, l32)] pol32 Tryd.f47 [.lst 1 (.ints .i64 [3, 2])] [] retK =
  Tr.br (decide ((0 : Int) < (1 : Int)) && decide ((1 : Int) < (4611686018427387904 : Int)) && decide ((-4611686018427387904 : Int) < (0 : Int)) && decide ((0 : Int) < (4611686018427387904 : Int))) (.br (decide ((0 : Int) < (1 : Int)) && decide ((1 : Int) < (4611686018427387904 : Int)) && decide ((-4611686018427387904 : Int) < (0 : Int)) && decide ((0 : Int) < (4611686018427387904 : Int))) (.br (decide ((0 : Int) < (1 : Int)) && decide ((1 : Int) < (4611686018427387904 : Int)) && decide ((-4611686018427387904 : Int) < (0 : Int)) && decide ((0 : Int) < (4611686018427387904 : Int))) (.br (decide ((0 : Int) < (↑[(3 : Int), (2 : Int)].length : Int))) (.br (ix ((0 : Int)) ((↑[(3 : Int), (2 : Int)].length : Int))) (.br (decide ((0 : Int) < (1 : Int)) && decide ((1 : Int) < (4611686018427387904 : Int)) && decide ((-4611686018427387904 : Int) < [(3 : Int), (2 : Int)].getD (Int.toNat 0) (0 : Int)) && decide ([(3 : Int), (2 : Int)].getD (Int.toNat 0) (0 : Int) < (4611686018427387904 : Int))) (.br (decide ((0 : Int) < (1 : Int)) && decide ((1 : Int) < (4611686018427387904 : Int)) && decide ((-4611686018427387904 : Int) < (-2 : Int)) && decide ((-2 : Int) < (4611686018427387904 : Int))) (.br (decide ((0 : Int) < (1 : Int)) && decide ((1 : Int) < (4611686018427387904 : Int)) && decide ((-4611686018427387904 : Int) < (2 : Int)) && decide ((2 : Int) < (4611686018427387904 : Int))) (.br (decide ((0 : Int) < (4 : Int)) && decide ((4 : Int) < (4611686018427387904 : Int)) && decide ((-4611686018427387904 : Int) < (1 : Int)) && decide ((1 : Int) < (4611686018427387904 : Int))) (.br (decide ((0 : Int) < (10 : Int)) && decide ((10 : Int) < (4611686018427387904 : Int)) && decide ((-4611686018427387904 : Int) < (1 : Int)) && decide ((1 : Int) < (4611686018427387904 : Int))) (.br (decide ((0 : Int) < (1 : Int)) && decide ((1 : Int) < (4611686018427387904 : Int)) && decide ((-4611686018427387904 : Int) < (0 : Int)) && decide ((0 : Int) < (4611686018427387904 : Int))) (.br (decide ((0 : Int) < (1 : Int)) && decide ((1 : Int) < (4611686018427387904 : Int)) && decide ((-4611686018427387904 : Int) < (-1 : Int)) && decide ((-1 : Int) < (4611686018427387904 : Int))) (.br (decide ((0 : Int) < (1 : Int)) && decide ((1 : Int) < (4611686018427387904 : Int)) && decide ((-4611686018427387904 : Int) < [(3 : Int), (2 : Int)].getD (Int.toNat 0) (0 : Int)) && decide ([(3 : Int), (2 : Int)].getD (Int.toNat 0) (0 : Int) < (4611686018427387904 : Int))) (.br (decide ((0 : Int) < (1 : Int)) && decide ((1 : Int) < (4611686018427387904 : Int)) && decide ((-4611686018427387904 : Int) < (-1 : Int)) && decide ((-1 : Int) < (4611686018427387904 : Int))) (.br (decide ((0 : Int) < (1 : Int)) && decide ((1 : Int) < (4611686018427387904 : Int)) && decide ((-4611686018427387904 : Int) < [(3 : Int), (2 : Int)].getD (Int.toNat 0) (0 : Int)) && decide ([(3 : Int), (2 : Int)].getD (Int.toNat 0) (0 : Int) < (4611686018427387904 : Int))) (.br (decide ((0 : Int) < (1 : Int)) && decide ((1 : Int) < (4611686018427387904 : Int)) && decide ((-4611686018427387904 : Int) < (1 : Int)) && decide ((1 : Int) < (4611686018427387904 : Int))) (.br (decide ((0 : Int) < (1 : Int)) && decide ((1 : Int) < (4611686018427387904 : Int)) && decide ((-4611686018427387904 : Int) < (0 : Int)) && decide ((0 : Int) < (4611686018427387904 : Int))) (.br (decide ((0 : Int) < (1 : Int)) && decide ((1 : Int) < (4611686018427387904 : Int)) && decide ((-4611686018427387904 : Int) < (1 : Int)) && decide ((1 : Int) < (4611686018427387904 : Int))) (.br (Nat.blt (0 : Nat) [PV.agg [PV.q (mkRat ([(3 : Int), (2 : Int)].getD (Int.toNat 0) (0 : Int)) (Int.toNat (1 : Int))) 64, PV.q (mkRat (-2 : Int) (Int.toNat (1 : Int))) 64, PV.q (mkRat (2 : Int) (Int.toNat (1 : Int))) 64, PV.q (mkRat (1 : Int) (Int.toNat (4 : Int))) 64, PV.q (mkRat (1 : Int) (Int.toNat (10 : Int))) 64, PV.lst 6 (.vals [PV.agg [PV.q (mkRat (0 : Int) (Int.toNat (1 : Int))) 64, PV.q (mkRat (-1 : Int) (Int.toNat (1 : Int))) 64], PV.agg [PV.q (mkRat ([(3 : Int), (2 : Int)].getD (Int.toNat 0) (0 : Int)) (Int.toNat (1 : Int))) 64, PV.q (mkRat (-1 : Int) (Int.toNat (1 : Int))) 64], PV.agg [PV.q (mkRat ([(3 : Int), (2 : Int)].getD (Int.toNat 0) (0 : Int)) (Int.toNat (1 : Int))) 64, PV.q (mkRat (1 : Int) (Int.toNat (1 : Int))) 64], PV.agg [PV.q (mkRat (0 : Int) (Int.toNat (1 : Int))) 64, PV.q (mkRat (1 : Int) (Int.toNat (1 : Int))) 64]])]].length && [PV.agg [PV.q (mkRat ([(3 : Int), (2 : Int)].getD (Int.toNat 0) (0 : Int)) (Int.toNat (1 : Int))) 64, PV.q (mkRat (-2 : Int) (Int.toNat (1 : Int))) 64, PV.q (mkRat (2 : Int) (Int.toNat (1 : Int))) 64, PV.q (mkRat (1 : Int) (Int.toNat (4 : Int))) 64, PV.q (mkRat (1 : Int) (Int.toNat (10 : Int))) 64, PV.lst 6 (.vals [PV.agg [PV.q (mkRat (0 : Int) (Int.toNat (1 : Int))) 64, PV.q (mkRat (-1 : Int) (Int.toNat (1 : Int))) 64], PV.agg [PV.q (mkRat ([(3 : Int), (2 : Int)].getD (Int.toNat 0) (0 : Int)) (Int.toNat (1 : Int))) 64, PV.q (mkRat (-1 : Int) (Int.toNat (1 : Int))) 64], PV.agg [PV.q (mkRat ([(3 : Int), (2 : Int)].getD (Int.toNat 0) (0 : Int)) (Int.toNat (1 : Int))) 64, PV.q (mkRat (1 : Int) (Int.toNat (1 : Int))) 64], PV.agg [PV.q (mkRat (0 : Int) (Int.toNat (1 : Int))) 64, PV.q (mkRat (1 : Int) (Int.toNat (1 : Int))) 64]])]].length.ble 4294967296) (.br (ib ((0 : Int) + (1 : Int))) (.br (decide ((0 : Int) + (1 : Int) < (↑[(3 : Int), (2 : Int)].length : Int))) (.br (ix ((0 : Int) + (1 : Int)) ((↑[(3 : Int), (2 : Int)].length : Int))) (.br (decide ((0 : Int) < (1 : Int)) && decide ((1 : Int) < (4611686018427387904 : Int)) && decide ((-4611686018427387904 : Int) < [(3 : Int), (2 : Int)].getD ((0 : Int) + (1 : Int)).toNat (0 : Int)) && decide ([(3 : Int), (2 : Int)].getD ((0 : Int) + (1 : Int)).toNat (0 : Int) < (4611686018427387904 : Int))) (.br (decide ((0 : Int) < (1 : Int)) && decide ((1 : Int) < (4611686018427387904 : Int)) && decide ((-4611686018427387904 : Int) < (-2 : Int)) && decide ((-2 : Int) < (4611686018427387904 : Int))) (.br (decide ((0 : Int) < (1 : Int)) && decide ((1 : Int) < (4611686018427387904 : Int)) && decide ((-4611686018427387904 : Int) < (2 : Int)) && decide ((2 : Int) < (4611686018427387904 : Int))) (.br (decide ((0 : Int) < (4 : Int)) && decide ((4 : Int) < (4611686018427387904 : Int)) && decide ((-4611686018427387904 : Int) < (1 : Int)) && decide ((1 : Int) < (4611686018427387904 : Int))) (.br (decide ((0 : Int) < (10 : Int)) && decide ((10 : Int) < (4611686018427387904 : Int)) && decide ((-4611686018427387904 : Int) < (1 : Int)) && decide ((1 : Int) < (4611686018427387904 : Int))) (.br (decide ((0 : Int) < (1 : Int)) && decide ((1 : Int) < (4611686018427387904 : Int)) && decide ((-4611686018427387904 : Int) < (0 : Int)) && decide ((0 : Int) < (4611686018427387904 : Int))) (.br (decide ((0 : Int) < (1 : Int)) && decide ((1 : Int) < (4611686018427387904 : Int)) && decide ((-4611686018427387904 : Int) < (-1 : Int)) && decide ((-1 : Int) < (4611686018427387904 : Int))) (.br (decide ((0 : Int) < (1 : Int)) && decide ((1 : Int) < (4611686018427387904 : Int)) && decide ((-4611686018427387904 : Int) < [(3 : Int), (2 : Int)].getD ((0 : Int) + (1 : Int)).toNat (0 : Int)) && decide ([(3 : Int), (2 : Int)].getD ((0 : Int) + (1 : Int)).toNat (0 : Int) < (4611686018427387904 : Int))) (.br (decide ((0 : Int) < (1 : Int)) && decide ((1 : Int) < (4611686018427387904 : Int)) && decide ((-4611686018427387904 : Int) < (-1 : Int)) && decide ((-1 : Int) < (4611686018427387904 : Int))) (.br (decide ((0 : Int) < (1 : Int)) && decide ((1 : Int) < (4611686018427387904 : Int)) && decide ((-4611686018427387904 : Int) < [(3 : Int), (2 : Int)].getD ((0 : Int) + (1 : Int)).toNat (0 : Int)) && decide ([(3 : Int), (2 : Int)].getD ((0 : Int) + (1 : Int)).toNat (0 : Int) < (4611686018427387904 : Int))) (.br (decide ((0 : Int) < (1 : Int)) && decide ((1 : Int) < (4611686018427387904 : Int)) && decide ((-4611686018427387904 : Int) < (1 : Int)) && decide ((1 : Int) < (4611686018427387904 : Int))) (.br (decide ((0 : Int) < (1 : Int)) && decide ((1 : Int) < (4611686018427387904 : Int)) && decide ((-4611686018427387904 : Int) < (0 : Int)) && decide ((0 : Int) < (4611686018427387904 : Int))) (.br (decide ((0 : Int) < (1 : Int)) && decide ((1 : Int) < (4611686018427387904 : Int)) && decide ((-4611686018427387904 : Int) < (1 : Int)) && decide ((1 : Int) < (4611686018427387904 : Int))) (.br (([PV.agg [PV.q (mkRat ([(3 : Int), (2 : Int)].getD (Int.toNat 0) (0 : Int)) (Int.toNat (1 : Int))) 64, PV.q (mkRat (-2 : Int) (Int.toNat (1 : Int))) 64, PV.q (mkRat (2 : Int) (Int.toNat (1 : Int))) 64, PV.q (mkRat (1 : Int) (Int.toNat (4 : Int))) 64, PV.q (mkRat (1 : Int) (Int.toNat (10 : Int))) 64, PV.lst 6 (.vals [PV.agg [PV.q (mkRat (0 : Int) (Int.toNat (1 : Int))) 64, PV.q (mkRat (-1 : Int) (Int.toNat (1 : Int))) 64], PV.agg [PV.q (mkRat ([(3 : Int), (2 : Int)].getD (Int.toNat 0) (0 : Int)) (Int.toNat (1 : Int))) 64, PV.q (mkRat (-1 : Int) (Int.toNat (1 : Int))) 64], PV.agg [PV.q (mkRat ([(3 : Int), (2 : Int)].getD (Int.toNat 0) (0 : Int)) (Int.toNat (1 : Int))) 64, PV.q (mkRat (1 : Int) (Int.toNat (1 : Int))) 64], PV.agg [PV.q (mkRat (0 : Int) (Int.toNat (1 : Int))) 64, PV.q (mkRat (1 : Int) (Int.toNat (1 : Int))) (nat_lit 64)]])]].length + [PV.agg [PV.q (mkRat ([(3 : Int), (2 : Int)].getD ((0 : Int) + (1 : Int)).toNat (0 : Int)) (Int.toNat (1 : Int))) 64, PV.q (mkRat (-2 : Int) (Int.toNat (1 : Int))) 64, PV.q (mkRat (2 : Int) (Int.toNat (1 : Int))) 64, PV.q (mkRat (1 : Int) (Int.toNat (4 : Int))) 64, PV.q (mkRat (1 : Int) (Int.toNat (10 : Int))) 64, PV.lst 6 (.vals [PV.agg [PV.q (mkRat (0 : Int) (Int.toNat (1 : Int))) 64, PV.q (mkRat (-1 : Int) (Int.toNat (1 : Int))) 64], PV.agg [PV.q (mkRat ([(3 : Int), (2 : Int)].getD ((0 : Int) + (1 : Int)).toNat (0 : Int)) (Int.toNat (1 : Int))) 64, PV.q (mkRat (-1 : Int) (Int.toNat (1 : Int))) 64], PV.agg [PV.q (mkRat ([(3 : Int), (2 : Int)].getD ((0 : Int) + (1 : Int)).toNat (0 : Int)) (Int.toNat (1 : Int))) 64, PV.q (mkRat (1 : Int) (Int.toNat (1 : Int))) 64], PV.agg [PV.q (mkRat (0 : Int) (Int.toNat (1 : Int))) 64, PV.q (mkRat (1 : Int) (Int.toNat (1 : Int))) (nat_lit 64)]])]].length).ble 4294967296) (.br (ib ((0 : Int) + (1 : Int) + (1 : Int))) (.br (decide ((0 : Int) + (1 : Int) + (1 : Int) < (↑[(3 : Int), (2 : Int)].length : Int))) (.br (ix ((0 : Int) + (1 : Int) + (1 : Int)) ((↑[(3 : Int), (2 : Int)].length : Int))) (.br (decide ((0 : Int) < (1 : Int)) && decide ((1 : Int) < (4611686018427387904 : Int)) && decide ((-4611686018427387904 : Int) < [(3 : Int), (2 : Int)].getD ((0 : Int) + (1 : Int) + (1 : Int)).toNat (0 : Int)) && decide ([(3 : Int), (2 : Int)].getD ((0 : Int) + (1 : Int) + (1 : Int)).toNat (0 : Int) < (4611686018427387904 : Int))) (.br (decide ((0 : Int) < (1 : Int)) && decide ((1 : Int) < (4611686018427387904 : Int)) && decide ((-4611686018427387904 : Int) < (-2 : Int)) && decide ((-2 : Int) < (4611686018427387904 : Int))) (.br (decide ((0 : Int) < (1 : Int)) && decide ((1 : Int) < (4611686018427387904 : Int)) && decide ((-4611686018427387904 : Int) < (2 : Int)) && decide ((2 : Int) < (4611686018427387904 : Int))) (.br (decide ((0 : Int) < (4 : Int)) && decide ((4 : Int) < (4611686018427387904 : Int)) && decide ((-4611686018427387904 : Int) < (1 : Int)) && decide ((1 : Int) < (4611686018427387904 : Int))) (.br (decide ((0 : Int) < (10 : Int)) && decide ((10 : Int) < (4611686018427387904 : Int)) && decide ((-4611686018427387904 : Int) < (1 : Int)) && decide ((1 : Int) < (4611686018427387904 : Int))) (.br (decide ((0 : Int) < (1 : Int)) && decide ((1 : Int) < (4611686018427387904 : Int)) && decide ((-4611686018427387904 : Int) < (0 : Int)) && decide ((0 : Int) < (4611686018427387904 : Int))) (.br (decide ((0 : Int) < (1 : Int)) && decide ((1 : Int) < (4611686018427387904 : Int)) && decide ((-4611686018427387904 : Int) < (-1 : Int)) && decide ((-1 : Int) < (4611686018427387904 : Int))) (.br (decide ((0 : Int) < (1 : Int)) && decide ((1 : Int) < (4611686018427387904 : Int)) && decide ((-4611686018427387904 : Int) < [(3 : Int), (2 : Int)].getD ((0 : Int) + (1 : Int) + (1 : Int)).toNat (0 : Int)) && decide ([(3 : Int), (2 : Int)].getD ((0 : Int) + (1 : Int) + (1 : Int)).toNat (0 : Int) < (4611686018427387904 : Int))) (.br (decide ((0 : Int) < (1 : Int)) && decide ((1 : Int) < (4611686018427387904 : Int)) && decide ((-4611686018427387904 : Int) < (-1 : Int)) && decide ((-1 : Int) < (4611686018427387904 : Int))) (.br (decide ((0 : Int) < (1 : Int)) && decide ((1 : Int) < (4611686018427387904 : Int)) && decide ((-4611686018427387904 : Int) < [(3 : Int), (2 : Int)].getD ((0 : Int) + (1 : Int) + (1 : Int)).toNat (0 : Int)) && decide ([(3 : Int), (2 : Int)].getD ((0 : Int) + (1 : Int) + (1 : Int)).toNat (0 : Int) < (4611686018427387904 : Int))) (.br (decide ((0 : Int) < (1 : Int)) && decide ((1 : Int) < (4611686018427387904 : Int)) && decide ((-4611686018427387904 : Int) < (1 : Int)) && decide ((1 : Int) < (4611686018427387904 : Int))) (.br (decide ((0 : Int) < (1 : Int)) && decide ((1 : Int) < (4611686018427387904 : Int)) && decide ((-4611686018427387904 : Int) < (0 : Int)) && decide ((0 : Int) < (4611686018427387904 : Int))) (.br (decide ((0 : Int) < (1 : Int)) && decide ((1 : Int) < (4611686018427387904 : Int)) && decide ((-4611686018427387904 : Int) < (1 : Int)) && decide ((1 : Int) < (4611686018427387904 : Int))) (.br (([PV.agg [PV.q (mkRat ([(3 : Int), (2 : Int)].getD (Int.toNat 0) (0 : Int)) (Int.toNat (1 : Int))) (nat_lit 64), PV.q (mkRat (-2 : Int) (Int.toNat (1 : Int))) (nat_lit 64), PV.q (mkRat (2 : Int) (Int.toNat (1 : Int))) (nat_lit 64), PV.q (mkRat (1 : Int) (Int.toNat (4 : Int))) (nat_lit 64), PV.q (mkRat (1 : Int) (Int.toNat (10 : Int))) (nat_lit 64), PV.lst (nat_lit 6) (Cont.vals [PV.agg [PV.q (mkRat (0 : Int) (Int.toNat (1 : Int))) (nat_lit 64), PV.q (mkRat (-1 : Int) (Int.toNat (1 : Int))) (nat_lit 64)], PV.agg [PV.q (mkRat ([(3 : Int), (2 : Int)].getD (Int.toNat 0) (0 : Int)) (Int.toNat (1 : Int))) (nat_lit 64), PV.q (mkRat (-1 : Int) (Int.toNat (1 : Int))) (nat_lit 64)], PV.agg [PV.q (mkRat ([(3 : Int), (2 : Int)].getD (Int.toNat 0) (0 : Int)) (Int.toNat (1 : Int))) (nat_lit 64), PV.q (mkRat (1 : Int) (Int.toNat (1 : Int))) (nat_lit 64)], PV.agg [PV.q (mkRat (0 : Int) (Int.toNat (1 : Int))) (nat_lit 64), PV.q (mkRat (1 : Int) (Int.toNat (1 : Int))) (nat_lit 64)]])]].length + [PV.agg [PV.q (mkRat ([(3 : Int), (2 : Int)].getD ((0 : Int) + (1 : Int)).toNat (0 : Int)) (Int.toNat (1 : Int))) (nat_lit 64), PV.q (mkRat (-2 : Int) (Int.toNat (1 : Int))) (nat_lit 64), PV.q (mkRat (2 : Int) (Int.toNat (1 : Int))) (nat_lit 64), PV.q (mkRat (1 : Int) (Int.toNat (4 : Int))) (nat_lit 64), PV.q (mkRat (1 : Int) (Int.toNat (10 : Int))) (nat_lit 64), PV.lst (nat_lit 6) (Cont.vals [PV.agg [PV.q (mkRat (0 : Int) (Int.toNat (1 : Int))) (nat_lit 64), PV.q (mkRat (-1 : Int) (Int.toNat (1 : Int))) (nat_lit 64)], PV.agg [PV.q (mkRat ([(3 : Int), (2 : Int)].getD ((0 : Int) + (1 : Int)).toNat (0 : Int)) (Int.toNat (1 : Int))) (nat_lit 64), PV.q (mkRat (-1 : Int) (Int.toNat (1 : Int))) (nat_lit 64)], PV.agg [PV.q (mkRat ([(3 : Int), (2 : Int)].getD ((0 : Int) + (1 : Int)).toNat (0 : Int)) (Int.toNat (1 : Int))) (nat_lit 64), PV.q (mkRat (1 : Int) (Int.toNat (1 : Int))) (nat_lit 64)], PV.agg [PV.q (mkRat (0 : Int) (Int.toNat (1 : Int))) (nat_lit 64), PV.q (mkRat (1 : Int) (Int.toNat (1 : Int))) (nat_lit 64)]])]].length + [PV.agg [PV.q (mkRat ([(3 : Int), (2 : Int)].getD ((0 : Int) + (1 : Int) + (1 : Int)).toNat (0 : Int)) (Int.toNat (1 : Int))) (nat_lit 64), PV.q (mkRat (-2 : Int) (Int.toNat (1 : Int))) (nat_lit 64), PV.q (mkRat (2 : Int) (Int.toNat (1 : Int))) (nat_lit 64), PV.q (mkRat (1 : Int) (Int.toNat (4 : Int))) (nat_lit 64), PV.q (mkRat (1 : Int) (Int.toNat (10 : Int))) (nat_lit 64), PV.lst (nat_lit 6) (Cont.vals [PV.agg [PV.q (mkRat (0 : Int) (Int.toNat (1 : Int))) (nat_lit 64), PV.q (mkRat (-1 : Int) (Int.toNat (1 : Int))) (nat_lit 64)], PV.agg [PV.q (mkRat ([(3 : Int), (2 : Int)].getD ((0 : Int) + (1 : Int) + (1 : Int)).toNat (0 : Int)) (Int.toNat (1 : Int))) (nat_lit 64), PV.q (mkRat (-1 : Int) (Int.toNat (1 : Int))) (nat_lit 64)], PV.agg [PV.q (mkRat ([(3 : Int), (2 : Int)].getD ((0 : Int) + (1 : Int) + (1 : Int)).toNat (0 : Int)) (Int.toNat (1 : Int))) (nat_lit 64), PV.q (mkRat (1 : Int) (Int.toNat (1 : Int))) (nat_lit 64)], PV.agg [PV.q (mkRat (0 : Int) (Int.toNat (1 : Int))) (nat_lit 64), PV.q (mkRat (1 : Int) (Int.toNat (1 : Int))) (nat_lit 64)]])]].length).ble 4294967296) (.br (ib ((0 : Int) + (1 : Int) + (1 : Int) + (1 : Int))) (.no (nat_lit 16)) (.no (nat_lit 7002))) (.no (nat_lit 6003))) (.no 1)) (.no 1)) (.no 1)) (.no 1)) (.no 1)) (.no 1)) (.no 1)) (.no 1)) (.no 1)) (.no 1)) (.no 1)) (.no 1)) (.no 1)) (.no 5003)) (.ok (.ret (PV.agg [PV.s (ByteArray.mk #[(111 : UInt8), (110 : UInt8), (101 : UInt8)]), PV.agg [PV.agg [PV.q (mkRat (0 : Int) (Int.toNat (1 : Int))) 64, PV.q (mkRat (0 : Int) (Int.toNat (1 : Int))) 64], PV.agg [PV.bl false, PV.q (mkRat (0 : Int) (Int.toNat (1 : Int))) 64]], PV.fr 16 (.vals [PV.agg [PV.q (mkRat ([(3 : Int), (2 : Int)].getD (Int.toNat 0) (0 : Int)) (Int.toNat (1 : Int))) 64, PV.q (mkRat (-2 : Int) (Int.toNat (1 : Int))) 64, PV.q (mkRat (2 : Int) (Int.toNat (1 : Int))) 64, PV.q (mkRat (1 : Int) (Int.toNat (4 : Int))) 64, PV.q (mkRat (1 : Int) (Int.toNat (10 : Int))) 64, PV.lst 6 (.vals [PV.agg [PV.q (mkRat (0 : Int) (Int.toNat (1 : Int))) 64, PV.q (mkRat (-1 : Int) (Int.toNat (1 : Int))) 64], PV.agg [PV.q (mkRat ([(3 : Int), (2 : Int)].getD (Int.toNat 0) (0 : Int)) (Int.toNat (1 : Int))) 64, PV.q (mkRat (-1 : Int) (Int.toNat (1 : Int))) 64], PV.agg [PV.q (mkRat ([(3 : Int), (2 : Int)].getD (Int.toNat 0) (0 : Int)) (Int.toNat (1 : Int))) 64, PV.q (mkRat (1 : Int) (Int.toNat (1 : Int))) 64], PV.agg [PV.q (mkRat (0 : Int) (Int.toNat (1 : Int))) 64, PV.q (mkRat (1 : Int) (Int.toNat (1 : Int))) (nat_lit 64)]])], PV.agg [PV.q (mkRat ([(3 : Int), (2 : Int)].getD ((0 : Int) + (1 : Int)).toNat (0 : Int)) (Int.toNat (1 : Int))) 64, PV.q (mkRat (-2 : Int) (Int.toNat (1 : Int))) 64, PV.q (mkRat (2 : Int) (Int.toNat (1 : Int))) 64, PV.q (mkRat (1 : Int) (Int.toNat (4 : Int))) 64, PV.q (mkRat (1 : Int) (Int.toNat (10 : Int))) 64, PV.lst 6 (.vals [PV.agg [PV.q (mkRat (0 : Int) (Int.toNat (1 : Int))) 64, PV.q (mkRat (-1 : Int) (Int.toNat (1 : Int))) 64], PV.agg [PV.q (mkRat ([(3 : Int), (2 : Int)].getD ((0 : Int) + (1 : Int)).toNat (0 : Int)) (Int.toNat (1 : Int))) 64, PV.q (mkRat (-1 : Int) (Int.toNat (1 : Int))) 64], PV.agg [PV.q (mkRat ([(3 : Int), (2 : Int)].getD ((0 : Int) + (1 : Int)).toNat (0 : Int)) (Int.toNat (1 : Int))) 64, PV.q (mkRat (1 : Int) (Int.toNat (1 : Int))) 64], PV.agg [PV.q (mkRat (0 : Int) (Int.toNat (1 : Int))) 64, PV.q (mkRat (1 : Int) (Int.toNat (1 : Int))) (nat_lit 64)]])]])]) []))) (.no 7002)) (.no 6003)) (.no 1)) (.no 1)) (.no 1)) (.no 1)) (.no 1)) (.no 1)) (.no 1)) (.no 1)) (.no 1)) (.no 1)) (.no 1)) (.no 1)) (.no 1)) (.no 5003)) (.ok (.ret (PV.agg [PV.s (ByteArray.mk #[(111 : UInt8), (110 : UInt8), (101 : UInt8)]), PV.agg [PV.agg [PV.q (mkRat (0 : Int) (Int.toNat (1 : Int))) 64, PV.q (mkRat (0 : Int) (Int.toNat (1 : Int))) 64], PV.agg [PV.bl false, PV.q (mkRat (0 : Int) (Int.toNat (1 : Int))) 64]], PV.fr 16 (.vals [PV.agg [PV.q (mkRat ([(3 : Int), (2 : Int)].getD (Int.toNat 0) (0 : Int)) (Int.toNat (1 : Int))) 64, PV.q (mkRat (-2 : Int) (Int.toNat (1 : Int))) 64, PV.q (mkRat (2 : Int) (Int.toNat (1 : Int))) 64, PV.q (mkRat (1 : Int) (Int.toNat (4 : Int))) 64, PV.q (mkRat (1 : Int) (Int.toNat (10 : Int))) 64, PV.lst 6 (.vals [PV.agg [PV.q (mkRat (0 : Int) (Int.toNat (1 : Int))) 64, PV.q (mkRat (-1 : Int) (Int.toNat (1 : Int))) 64], PV.agg [PV.q (mkRat ([(3 : Int), (2 : Int)].getD (Int.toNat 0) (0 : Int)) (Int.toNat (1 : Int))) 64, PV.q (mkRat (-1 : Int) (Int.toNat (1 : Int))) 64], PV.agg [PV.q (mkRat ([(3 : Int), (2 : Int)].getD (Int.toNat 0) (0 : Int)) (Int.toNat (1 : Int))) 64, PV.q (mkRat (1 : Int) (Int.toNat (1 : Int))) 64], PV.agg [PV.q (mkRat (0 : Int) (Int.toNat (1 : Int))) 64, PV.q (mkRat (1 : Int) (Int.toNat (1 : Int))) 64]])]])]) []))) (.no 7002)) (.no 6003)) (.no 1)) (.no 1)) (.no 1)) (.no 1)) (.no 1)) (.no 1)) (.no 1)) (.no 1)) (.no 1)) (.no 1)) (.no 1)) (.no 1)) (.no 1)) (.no 5003)) (.ok (.ret (PV.agg [PV.s (ByteArray.mk #[(111 : UInt8), (110 : UInt8), (101 : UInt8)]), PV.agg [PV.agg [PV.q (mkRat (0 : Int) (Int.toNat (1 : Int))) 64, PV.q (mkRat (0 : Int) (Int.toNat (1 : Int))) 64], PV.agg [PV.bl false, PV.q (mkRat (0 : Int) (Int.toNat (1 : Int))) 64]], PV.nil]) []))) (.no 1)) (.no 1)) (.no 1) := by kernel_rfl
end Go.Proofs.YtgaokohhkdeomaaDoor.PE
namespace Go.Proofs.YtgaokohhkdeomaaDoor.PE
open Go
set_option maxRecDepth 100000
variable {G : World → (Nat → Prop) → Prop} (hG : GOk G)
noncomputable def OV : Orc := [(24, g21), (38, g27), (83, g29), (51, g43), (150, g133), (151, g134)]
noncomputable def g41 : Spec := evF Tryd.prog OV [] {} Tryd.f49
noncomputable def g42 : Spec := evF Tryd.prog OV [] {} Tryd.f50
end Go.Proofs.YtgaokohhkdeomaaDoor.PE
namespace Go.Proofs.YtgaokohhkdeomaaDoor.PE
open Go
set_option maxRecDepth 100000
variable {G : World → (Nat → Prop) → Prop} (hG : GOk G)
structure Fr where
  x : Rat
  y : Rat
  h : Bool
  t : Rat
noncomputable def qf (qs : List Rat) (i : Nat) : Rat := qs.getD i 0
section
variable (qs : List Rat) (n : Nat) (lk : Nat → Lk) (b : Fr)
end
theorem frs_le0 (e n : Nat) (f : Nat → PV) (vs : List PV) (hl : vs.length = n) (h : ∀ (i : Nat) (v : PV), vs[i]? = some v → noRef 8 v = true ∧ VLe v (f i)) :
    RLe (.tup [.fr e (.vals vs), .i .i64 0]) (.tup [.fr e (.fn n f), .i .i64 0]) := by
  subst hl
  exact ⟨fun m => .refl _, fun m => KsLe.one (KLe.fn rfl h)⟩
section
variable (qs : List Rat) (n : Nat) (lk : Nat → Lk) (b : Fr)
end
end Go.Proofs.YtgaokohhkdeomaaDoor.PE
namespace Go.Proofs.YtgaokohhkdeomaaDoor.PE
open Go
set_option maxRecDepth 100000
variable {G : World → (Nat → Prop) → Prop} (hG : GOk G)
theorem cf0_eq (l h : Rat) (k : Int) : cf0 l h k = l + (h - l) * (k : Rat) / 8 := by
  have d1 : 0 < (l.den : Int) := by have := l.den_pos; omega
  have d2 : 0 < (h.den : Int) := by have := h.den_pos; omega
  have e1 : (((8 : Int) * (l.den : Int) * (h.den : Int)).toNat : Int) = 8 * (l.den : Int) * (h.den : Int) := Int.toNat_of_nonneg (Int.le_of_lt (Int.mul_pos (by omega) d2))
  have r1 : (l.den : Rat) ≠ 0 := by have := l.den_nz; exact_mod_cast this
  have r2 : (h.den : Rat) ≠ 0 := by have := h.den_nz; exact_mod_cast this
  have hl := (Rat.mkRat_eq_div l.num l.den).symm.trans (Rat.mkRat_self l)
  have hh := (Rat.mkRat_eq_div h.num h.den).symm.trans (Rat.mkRat_self h)
  unfold cf0
  rw [Rat.mkRat_eq_div]
  have e2 : ((((8 : Int) * (l.den : Int) * (h.den : Int)).toNat : Nat) : Rat) = 8 * (l.den : Rat) * (h.den : Rat) := by
    have : ((((8 : Int) * (l.den : Int) * (h.den : Int)).toNat : Int) : Rat) = ((8 * (l.den : Int) * (h.den : Int) : Int) : Rat) := by rw [e1]
    push_cast at this
    exact this
  rw [e2]
  push_cast
  generalize (l.num : Rat) = n at *
  generalize (h.num : Rat) = m at *
  generalize (l.den : Rat) = d at *
  generalize (h.den : Rat) = e at *
  rw [← hl, ← hh]
  grind
theorem cf0_in {l h : Rat} {k : Int} (hlh : l ≤ h) (h0 : 0 ≤ k) (h8 : k ≤ 8) : l ≤ cf0 l h k ∧ cf0 l h k ≤ h := by
  have k0 : (0 : Rat) ≤ (k : Rat) := by exact_mod_cast h0
  have k8 : (k : Rat) ≤ 8 := by exact_mod_cast h8
  have p0 : 0 ≤ (h - l) * (k : Rat) := Rat.mul_nonneg (by grind) k0
  have p1 : 0 ≤ (h - l) * (8 - (k : Rat)) := Rat.mul_nonneg (by grind) (by grind)
  have p2 : (h - l) * (8 - (k : Rat)) = 8 * (h - l) - (h - l) * (k : Rat) := by grind
  rw [p2] at p1
  rw [cf0_eq]
  generalize (h - l) * (k : Rat) = p at *
  exact ⟨by grind, by grind⟩
theorem getD_map_range (f : Nat → Rat) {n j : Nat} (h : j < n) : ((List.range n).map f).getD j 0 = f j := by
  rw [List.getD_eq_getElem?_getD, List.getElem?_map, List.getElem?_range h]; rfl
theorem fitB_iff {A : Am} {qs : List Rat} : fitB A qs = true ↔ ∀ j, j < A.n → (A.lk j).low ≤ qs.getD j 0 ∧ qs.getD j 0 ≤ (A.lk j).high := by
  simp [fitB, fit1]
theorem cfL_fit {A : Am} {m : PV} (h : armB A = true) : fitB A (cfL A.lk m A.n) = true := by
  obtain ⟨-, -, -, -, -, -, h7⟩ := armB_c h
  refine fitB_iff.2 fun j hj => ?_
  unfold cfL
  rw [getD_map_range _ hj]
  have g := nx_range (itRs j m) (show (0 : Int) < 9 by omega)
  exact cf0_in (Rat.le_of_lt (lkB_c (h7 j hj)).2.2.2.2.2.2.1) g.1 (by omega)
theorem limX_V (v : PV) : limX (armD v) = true := by
  refine List.all_eq_true.2 fun j _ => ?_
  rw [Bool.and_eq_true]
  have small : ∀ (n : Int), n.natAbs < 1000 → smX (mkRat n (Int.toNat 3)) = true := fun n hn => smX_iff.2 ⟨Nat.lt_of_le_of_lt (mkRat_num_le n (by decide)) hn, Nat.lt_of_le_of_lt (mkRat_den_le n (by decide)) (by decide)⟩
  have g1 := nx_range (rs (itR6 j (rs (rs (rs v))))) (show (0 : Int) < 6 by omega)
  have g2 := nx_range (rs (rs (itR6 j (rs (rs (rs v)))))) (show (0 : Int) < 6 by omega)
  exact ⟨small _ (by omega), small _ (by omega)⟩
end Go.Proofs.YtgaokohhkdeomaaDoor.PE
namespace Go.Proofs.YtgaokohhkdeomaaDoor.PE
open Go
set_option maxRecDepth 100000
variable {G : World → (Nat → Prop) → Prop} (hG : GOk G)
noncomputable def R6 : Orc := [(38, g27), (49, g41), (50, g42), (51, g43)]
theorem cst_t {P : Program} {G : World → (Nat → Prop) → Prop} {g : Nat} {as' : List PV} {r : PV} (h : PC P G g as' [] r []) : SpecOK P G g (cst as' True r) := cst_ok fun _ => h
end Go.Proofs.YtgaokohhkdeomaaDoor.PE
namespace Go.Proofs.YtgaokohhkdeomaaDoor.PE
open Go
set_option maxRecDepth 100000
variable {G : World → (Nat → Prop) → Prop} (hG : GOk G)
noncomputable def b35w : Code := (loopsOf (bodyC Tryd.f37)).getD 0 .skip
noncomputable def R35w : Orc := [(38, g27)]
noncomputable def O35w (A : Am) (n : Int) : Orc := [(38, g27), (97, cst [armPV A, .i .i64 n] True (.i .i64 0))]
def st35w (w : Nat) (qs : List Rat) (n : Nat) (lk : Nat → Lk) (e i : Int) : LS := ⟨[.lst 3 (.rats w qs), .i .i64 e, .lst 16 (.fn n (fun j => lkPV (lk j))), .i .i64 n, .i .i64 i], []⟩
theorem r35w (w : Nat) (qs : List Rat) (n : Nat) (lk : Nat → Lk) (e i : Int) : evRound Tryd.prog R35w [] pol35 Tryd.f37.ntmps 0 [1, 4, 16, 17, 18] b35w (st35w w qs n lk e i) =
  Tr.br (decide (i < (↑n : Int))) (.br (ix (i) ((↑n : Int))) (.br (ix (i) ((↑qs.length : Int))) (.br ((w + (64 : Nat)).ble 800000) (.br (decide (rcmp (qs.getD i.toNat 0) (lk i.toNat).low < (0 : Int))) (.ok (.out .ret (LS.mk [.lst 3 (.rats w qs), .i .i64 (17 : Int), .lst 16 (.fn n fun (j : Nat) => .agg [.q (lk j).len 64, .q (lk j).low 64, .q (lk j).high 64, .q (lk j).spd 64, .q (lk j).brk 64, .lst 6 (.fn (lk j).np fun (a : Nat) => .agg [.q ((lk j).px a) 64, .q ((lk j).py a) 64])]), .i .i64 (↑n : Int), .i .i64 i] []))) (.br (ix (i) ((↑qs.length : Int))) (.br ((w + (64 : Nat)).ble 800000) (.br (decide ((0 : Int) < rcmp (qs.getD i.toNat 0) (lk i.toNat).high)) (.ok (.out .ret (LS.mk [.lst 3 (.rats w qs), .i .i64 (17 : Int), .lst 16 (.fn n fun (j : Nat) => .agg [.q (lk j).len 64, .q (lk j).low 64, .q (lk j).high 64, .q (lk j).spd 64, .q (lk j).brk 64, .lst 6 (.fn (lk j).np fun (a : Nat) => .agg [.q ((lk j).px a) 64, .q ((lk j).py a) 64])]), .i .i64 (↑n : Int), .i .i64 i] []))) (.br (ib (i + (1 : Int))) (.ok (.out .normal (LS.mk [.lst 3 (.rats w qs), .i .i64 e, .lst 16 (.fn n fun (j : Nat) => .agg [.q (lk j).len 64, .q (lk j).low 64, .q (lk j).high 64, .q (lk j).spd 64, .q (lk j).brk 64, .lst 6 (.fn (lk j).np fun (a : Nat) => .agg [.q ((lk j).px a) 64, .q ((lk j).py a) 64])]), .i .i64 (↑n : Int), .i .i64 (i + (1 : Int))] []))) (.no 10002))) (.no 1)) (.no 8007))) (.no 1)) (.no 8016)) (.no 7005)) (.ok (.out (.exit 0) (LS.mk [.lst 3 (.rats w qs), .i .i64 e, .lst 16 (.fn n fun (j : Nat) => .agg [.q (lk j).len 64, .q (lk j).low 64, .q (lk j).high 64, .q (lk j).spd 64, .q (lk j).brk 64, .lst 6 (.fn (lk j).np fun (a : Nat) => .agg [.q ((lk j).px a) 64, .q ((lk j).py a) 64])]), .i .i64 (↑n : Int), .i .i64 i] []))) := by kernel_rfl
theorem e35w (w : Nat) (A : Am) (qs : List Rat) (n e i : Int) (x : Exit) : evF Tryd.prog (O35w A qs.length) [(5, lcst (st35w w qs A.n A.lk 0 0) (.exit 0) (st35w w qs A.n A.lk 0 i))] pol35 Tryd.f37 [armPV A, .lst 3 (.rats w qs)] [] retK =
  Tr.br (decP (isA [armPV A, .i .i64 (↑qs.length : Int)] True [armPV A, .i .i64 (↑qs.length : Int)])) (.br (!decide ((0 : Int) = (0 : Int))) (.ok (.ret (.i .i64 (0 : Int)) [])) (.br (decP (isLS (LS.mk [.lst 3 (.rats w qs), .i .i64 (0 : Int), .lst 16 (.fn A.n fun (j : Nat) => .agg [.q (A.lk j).len 64, .q (A.lk j).low 64, .q (A.lk j).high 64, .q (A.lk j).spd 64, .q (A.lk j).brk 64, .lst 6 (.fn (A.lk j).np fun (a : Nat) => .agg [.q ((A.lk j).px a) 64, .q ((A.lk j).py a) 64])]), .i .i64 (↑A.n : Int), .i .i64 (0 : Int)] []) (LS.mk [.lst 3 (.rats w qs), .i .i64 (0 : Int), .lst 16 (.fn A.n fun (j : Nat) => .agg [.q (A.lk j).len 64, .q (A.lk j).low 64, .q (A.lk j).high 64, .q (A.lk j).spd 64, .q (A.lk j).brk 64, .lst 6 (.fn (A.lk j).np fun (a : Nat) => .agg [.q ((A.lk j).px a) 64, .q ((A.lk j).py a) 64])]), .i .i64 (↑A.n : Int), .i .i64 (0 : Int)] []))) (.ok (.ret (.i .i64 (0 : Int)) [])) (.no 1))) (.no 1) := by kernel_rfl
theorem e35b (w : Nat) (A : Am) (qs : List Rat) (n e i : Int) (x : Exit) : evF Tryd.prog (O35w A qs.length) [(5, lcst (st35w w qs A.n A.lk 0 0) .ret (st35w w qs A.n A.lk 17 i))] pol35 Tryd.f37 [armPV A, .lst 3 (.rats w qs)] [] retK =
  Tr.br (decP (isA [armPV A, .i .i64 (↑qs.length : Int)] True [armPV A, .i .i64 (↑qs.length : Int)])) (.br (!decide ((0 : Int) = (0 : Int))) (.ok (.ret (.i .i64 (0 : Int)) [])) (.br (decP (isLS (LS.mk [.lst 3 (.rats w qs), .i .i64 (0 : Int), .lst 16 (.fn A.n fun (j : Nat) => .agg [.q (A.lk j).len 64, .q (A.lk j).low 64, .q (A.lk j).high 64, .q (A.lk j).spd 64, .q (A.lk j).brk 64, .lst 6 (.fn (A.lk j).np fun (a : Nat) => .agg [.q ((A.lk j).px a) 64, .q ((A.lk j).py a) 64])]), .i .i64 (↑A.n : Int), .i .i64 (0 : Int)] []) (LS.mk [.lst 3 (.rats w qs), .i .i64 (0 : Int), .lst 16 (.fn A.n fun (j : Nat) => .agg [.q (A.lk j).len 64, .q (A.lk j).low 64, .q (A.lk j).high 64, .q (A.lk j).spd 64, .q (A.lk j).brk 64, .lst 6 (.fn (A.lk j).np fun (a : Nat) => .agg [.q ((A.lk j).px a) 64, .q ((A.lk j).py a) 64])]), .i .i64 (↑A.n : Int), .i .i64 (0 : Int)] []))) (.ok (.ret (.i .i64 (17 : Int)) [])) (.no 1))) (.no 1) := by kernel_rfl
include hG in
theorem pc85 (A : Am) (hA : armB A = true) (k : Nat) (hk : k = A.n) : PC Tryd.prog G 97 [armPV A, .i .i64 (k : Nat)] [] (.i .i64 0) [] := by
  obtain ⟨r, hs', p, e⟩ := ok85 hG [armPV A, .i .i64 (k : Nat)] [] (fun r hs' => .ok (.ret r hs')) (.ret (.i .i64 0) []) (by
    show (Tr.br _ _ _).run = _
    rw [Tr.run_t (decP_iff.2 ⟨_, A, by rw [hk], .refl _, hA⟩)]; rfl)
  cases e
  exact p
include hG in
theorem orcR35 (hT : TabG G) : OrcOK Tryd.prog G R35w := .cons (gk27 hG hT) .nil
include hG in
theorem pc35w (hT : TabG G) (w : Nat) (hw : w ≤ 100000) (A : Am) (hA : armB A = true) (qs : List Rat) (hl : qs.length = A.n) : PC Tryd.prog G 37 [armPV A, .lst 3 (.rats w qs)] [] (.i .i64 (if fitB A qs = true then 0 else 17)) [] := by
  obtain ⟨h1, h2, h3, h4, h5, h6, h7⟩ := armB_c hA
  have hstep : ∀ j, j < A.n → fit1 A.lk qs j = true → Rnd Tryd.prog G Tryd.f37.ntmps 0 [1, 4, 16, 17, 18] b35w (st35w w qs A.n A.lk 0 ((j : Nat) : Int)) .normal (st35w w qs A.n A.lk 0 ((j + 1 : Nat) : Int)) := by
    intro j hj hf
    refine round_ok hG (orcR35 hG hT) mix (L := []) (pol := pol35) (O := R35w) (LpsOK.none (by kernel_rfl)) (Nat.zero_le _) ?_
    simp only [fit1, Bool.and_eq_true, decide_eq_true_eq] at hf
    rw [r35w, Int.toNat_natCast, Tr.run_t (decide_eq_true (by omega)), Tr.run_t (by simp only [Bool.and_eq_true, decide_eq_true_eq]; omega), Tr.run_t (by simp only [Bool.and_eq_true, decide_eq_true_eq]; omega), Tr.run_t (by rw [Nat.ble_eq]; omega), Tr.run_f (decide_eq_false (by rw [rcmp_lt]; exact Rat.not_lt.2 hf.1)),
      Tr.run_t (by simp only [Bool.and_eq_true, decide_eq_true_eq]; omega), Tr.run_t (by rw [Nat.ble_eq]; omega), Tr.run_f (decide_eq_false (by rw [rcmp_gt]; exact Rat.not_lt.2 hf.2)), Tr.run_t (by simp only [Bool.and_eq_true, decide_eq_true_eq]; omega), Tr.run_ok]
    rfl
  have hbad : ∀ j, j < A.n → fit1 A.lk qs j = false → Rnd Tryd.prog G Tryd.f37.ntmps 0 [1, 4, 16, 17, 18] b35w (st35w w qs A.n A.lk 0 ((j : Nat) : Int)) .ret (st35w w qs A.n A.lk 17 ((j : Nat) : Int)) := by
    intro j hj hf
    refine round_ok hG (orcR35 hG hT) mix (L := []) (pol := pol35) (O := R35w) (LpsOK.none (by kernel_rfl)) (Nat.zero_le _) ?_
    simp only [fit1, Bool.and_eq_false_iff, decide_eq_false_iff_not] at hf
    rw [r35w, Int.toNat_natCast, Tr.run_t (decide_eq_true (by omega)), Tr.run_t (by simp only [Bool.and_eq_true, decide_eq_true_eq]; omega), Tr.run_t (by simp only [Bool.and_eq_true, decide_eq_true_eq]; omega), Tr.run_t (by rw [Nat.ble_eq]; omega)]
    by_cases h1 : (A.lk j).low ≤ qs.getD j 0
    · rw [Tr.run_f (decide_eq_false (by rw [rcmp_lt]; exact Rat.not_lt.2 h1)),
        Tr.run_t (by simp only [Bool.and_eq_true, decide_eq_true_eq]; omega), Tr.run_t (by rw [Nat.ble_eq]; omega), Tr.run_t (decide_eq_true (by rw [rcmp_gt]; exact Rat.not_le.1 (hf.resolve_left (fun h => h h1)))), Tr.run_ok]
      rfl
    · rw [Tr.run_t (decide_eq_true (by rw [rcmp_lt]; exact Rat.not_le.1 h1)), Tr.run_ok]
      rfl
  have hend : Rnd Tryd.prog G Tryd.f37.ntmps 0 [1, 4, 16, 17, 18] b35w (st35w w qs A.n A.lk 0 ((A.n : Nat) : Int)) (.exit 0) (st35w w qs A.n A.lk 0 ((A.n : Nat) : Int)) := by
    refine round_ok hG (orcR35 hG hT) mix (L := []) (pol := pol35) (O := R35w) (LpsOK.none (by kernel_rfl)) (Nat.zero_le _) ?_
    rw [r35w, Tr.run_f (decide_eq_false (by omega)), Tr.run_ok]
    rfl
  obtain ⟨g1, g2⟩ := Goes.search (fun j => st35w w qs A.n A.lk 0 ((j : Nat) : Int)) (fun j => st35w w qs A.n A.lk 17 ((j : Nat) : Int)) (fit1 A.lk qs) A.n (by simp) (by simp) hstep hbad hend A.n 0 (by omega)
  have oc : OrcOK Tryd.prog G (O35w A qs.length) := .cons (gk27 hG hT) (.cons (cst_t (pc85 hG A hA qs.length hl)) .nil)
  cases hall : fitB A qs with
  | true =>
    rw [if_pos rfl]
    refine evF_pc hG oc mix enter35 (L := [(5, lcst (st35w w qs A.n A.lk 0 0) (.exit 0) (st35w w qs A.n A.lk 0 (A.n : Nat)))]) (pol := pol35) (lps1 (b := b35w) (live := [1, 4, 16, 17, 18]) (m := 0) (by kernel_rfl) (by kernel_rfl) (by kernel_rfl) (lcst_ok (g1 fun j _ hj => List.all_eq_true.1 hall j (List.mem_range.2 hj)))) ?_
    rw [e35w w A qs 0 0 (A.n : Nat) .ret, Tr.run_t (decP_iff.2 ⟨rfl, trivial⟩), Tr.run_f (by decide), Tr.run_t isLS_t, Tr.run_ok]
  | false =>
    rw [if_neg (by decide)]
    have hn : ¬ ∀ j, 0 ≤ j → j < A.n → fit1 A.lk qs j = true := by
      intro hh
      have : fitB A qs = true := List.all_eq_true.2 fun j hj => hh j (Nat.zero_le _) (List.mem_range.1 hj)
      rw [hall] at this; cases this
    refine evF_pc hG oc mix enter35 (L := [(5, lcst (st35w w qs A.n A.lk 0 0) .ret (st35w w qs A.n A.lk 17 ((fbad (fit1 A.lk qs) A.n 0 : Nat) : Int)))]) (pol := pol35) (lps1 (b := b35w) (live := [1, 4, 16, 17, 18]) (m := 0) (by kernel_rfl) (by kernel_rfl) (by kernel_rfl) (lcst_ok (g2 hn))) ?_
    rw [e35b w A qs 0 0 _ .ret, Tr.run_t (decP_iff.2 ⟨rfl, trivial⟩), Tr.run_f (by decide), Tr.run_t isLS_t, Tr.run_ok]
def P35A (A : Am) (a : PV) (w : Nat) (q : List Rat) : Prop := a = armPV A ∧ q.length = A.n ∧ w ≤ 10000
noncomputable def c35 (A : Am) : Spec := fun args hs K => match args, hs with
  | [a, .lst 3 (.rats w q)], [] => .br (decP (P35A A a w q)) (.br (fitB A q) (K (.i .i64 0) []) (K (.i .i64 17) [])) (.no 1)
  | _, _ => .no 1
include hG in
theorem ck35 (hT : TabG G) (A : Am) (hA : armB A = true) : SpecOK Tryd.prog G 37 (c35 A) := by
  intro args hs K x h
  unfold c35 at h
  split at h
  case h_2 => cases h
  rename_i a w q
  obtain ⟨hc, hr⟩ := Tr.of_br h
  obtain ⟨rfl, hl, hw⟩ := decP_iff.1 hc
  have p := pc35w hG hT w (by omega) A hA q hl
  cases hf : fitB A q with
  | true => rw [hf, if_pos rfl] at p; rw [Tr.run_t hf] at hr; exact ⟨_, _, p, hr⟩
  | false => rw [hf, if_neg (by decide)] at p; rw [Tr.run_f hf] at hr; exact ⟨_, _, p, hr⟩
def P98A (A : Am) (a : PV) (p q : List Rat) (t u : Int) (w v : Nat) : Prop := a = armPV A ∧ p.length = A.n ∧ q.length = A.n ∧ -100000 ≤ u - t ∧ u - t ≤ 100000 ∧ w ≤ 10000 ∧ v ≤ 10000
noncomputable def c98A (A : Am) : Spec := fun args hs K => match args, hs with
  | [a, .agg [.i .i64 t, .lst 3 (.rats w p)], .agg [.i .i64 u, .lst 3 (.rats v q)]], [] => .br (decP (P98A A a p q t u w v)) (.br (slowB A (u - t) p q) (K (.bl true) []) (K (.bl false) [])) (.no 1)
  | _, _ => .no 1
include hG in
theorem ck98A (hT : TabG G) (A : Am) (hA : armB A = true) : SpecOK Tryd.prog G 98 (c98A A) := by
  intro args hs K x h
  unfold c98A at h
  split at h
  case h_2 => cases h
  rename_i a t w p u v q
  obtain ⟨hc, hr⟩ := Tr.of_br h
  obtain ⟨rfl, h1, h2, h3, h4, h5, h6⟩ := decP_iff.1 hc
  have pc := pc98 hG hT w v h5 h6 A hA t u p q h1 h2 h3 h4
  cases hf : slowB A (u - t) p q with
  | true => rw [hf] at pc; rw [Tr.run_t hf] at hr; exact ⟨_, _, pc, hr⟩
  | false => rw [hf] at pc; rw [Tr.run_f hf] at hr; exact ⟨_, _, pc, hr⟩
noncomputable def b58 : Code := (loopsOf (bodyC Tryd.f36)).getD 0 .skip
def pol58 : Pol := { live := [(9, [1, 2, 4, 20, 21, 22])] }
noncomputable def R58 (A : Am) : Orc := [(37, c35 A), (98, c98A A)]
noncomputable def O58 (A : Am) : Orc := [(37, c35 A), (32, cst [armPV A] True (.i .i64 0)), (98, c98A A)]
theorem enter58 : Enters Tryd.prog 36 Tryd.f36 (bodyC Tryd.f36) := ⟨Tryd.func36, by kernel_rfl, rfl⟩
def st58 (A : Am) (w n : Nat) (tk : Nat → Int) (qs : Nat → List Rat) (e i : Int) : LS := ⟨[trC w n tk qs, .ptr 0 12 0 0 [], .i .i64 e, trC w n tk qs, .i .i64 n, .i .i64 i], [some ⟨12, .vals [armPV A]⟩]⟩
theorem r58 (A : Am) (w n : Nat) (tk : Nat → Int) (qs : Nat → List Rat) (e i : Int) : (evRound Tryd.prog (R58 A) [] pol58 Tryd.f36.ntmps 0 [1, 2, 4, 20, 21, 22] b58 (st58 A w n tk qs e i)).run =
  (Tr.br (decide (i < (↑n : Int))) (.br (ix (i) ((↑n : Int))) (.br (decide (tk i.toNat < (0 : Int))) (.ok (.out .ret (LS.mk [.lst 2 (.fn n fun (j : Nat) => .agg [.i .i64 (tk j), .lst 3 (.rats w (qs j))]), .ptr 0 12 0 0 [], .i .i64 (1 : Int), .lst 2 (.fn n fun (j : Nat) => .agg [.i .i64 (tk j), .lst 3 (.rats w (qs j))]), .i .i64 (↑n : Int), .i .i64 i] [some (.mk 12 (.vals [armPV A]))]))) (.br (decide ((2000 : Int) < tk i.toNat)) (.ok (.out .ret (LS.mk [.lst 2 (.fn n fun (j : Nat) => .agg [.i .i64 (tk j), .lst 3 (.rats w (qs j))]), .ptr 0 12 0 0 [], .i .i64 (1 : Int), .lst 2 (.fn n fun (j : Nat) => .agg [.i .i64 (tk j), .lst 3 (.rats w (qs j))]), .i .i64 (↑n : Int), .i .i64 i] [some (.mk 12 (.vals [armPV A]))]))) (.br (decP (P35A A (armPV A) w (qs i.toNat))) (.br (fitB A (qs i.toNat)) (.br (decide (i = (0 : Int))) (.br (ib (i + (1 : Int))) (.ok (.out .normal (LS.mk [.lst 2 (.fn n fun (j : Nat) => .agg [.i .i64 (tk j), .lst 3 (.rats w (qs j))]), .ptr 0 12 0 0 [], .i .i64 e, .lst 2 (.fn n fun (j : Nat) => .agg [.i .i64 (tk j), .lst 3 (.rats w (qs j))]), .i .i64 (↑n : Int), .i .i64 (i + (1 : Int))] [some (.mk 12 (.vals [armPV A]))]))) (.no 22002)) (.br (ib (i - (1 : Int))) (.br (ix (i - (1 : Int)) ((↑n : Int))) (.br (decide (tk i.toNat ≤ tk (i - (1 : Int)).toNat)) (.ok (.out .ret (LS.mk [.lst 2 (.fn n fun (j : Nat) => .agg [.i .i64 (tk j), .lst 3 (.rats w (qs j))]), .ptr 0 12 0 0 [], .i .i64 (9 : Int), .lst 2 (.fn n fun (j : Nat) => .agg [.i .i64 (tk j), .lst 3 (.rats w (qs j))]), .i .i64 (↑n : Int), .i .i64 i] [some (.mk 12 (.vals [armPV A]))]))) (.br (ib (i - (1 : Int))) (.br (ix (i - (1 : Int)) ((↑n : Int))) (.br (decP (P98A A (armPV A) (qs (i - (1 : Int)).toNat) (qs i.toNat) (tk (i - (1 : Int)).toNat) (tk i.toNat) w w)) (.br (slowB A (tk i.toNat - tk (i - (1 : Int)).toNat) (qs (i - (1 : Int)).toNat) (qs i.toNat)) (.br (ib (i + (1 : Int))) (.ok (.out .normal (LS.mk [.lst 2 (.fn n fun (j : Nat) => .agg [.i .i64 (tk j), .lst 3 (.rats w (qs j))]), .ptr 0 12 0 0 [], .i .i64 e, .lst 2 (.fn n fun (j : Nat) => .agg [.i .i64 (tk j), .lst 3 (.rats w (qs j))]), .i .i64 (↑n : Int), .i .i64 (i + (1 : Int))] [some (.mk 12 (.vals [armPV A]))]))) (.no 22002)) (.ok (.out .ret (LS.mk [.lst 2 (.fn n fun (j : Nat) => .agg [.i .i64 (tk j), .lst 3 (.rats w (qs j))]), .ptr 0 12 0 0 [], .i .i64 (19 : Int), .lst 2 (.fn n fun (j : Nat) => .agg [.i .i64 (tk j), .lst 3 (.rats w (qs j))]), .i .i64 (↑n : Int), .i .i64 i] [some (.mk 12 (.vals [armPV A]))])))) (.no 1)) (.no 20005)) (.no 20006))) (.no 18004)) (.no 18005))) (.ok (.out .ret (LS.mk [.lst 2 (.fn n fun (j : Nat) => .agg [.i .i64 (tk j), .lst 3 (.rats w (qs j))]), .ptr 0 12 0 0 [], .i .i64 (17 : Int), .lst 2 (.fn n fun (j : Nat) => .agg [.i .i64 (tk j), .lst 3 (.rats w (qs j))]), .i .i64 (↑n : Int), .i .i64 i] [some (.mk 12 (.vals [armPV A]))])))) (.no 1)))) (.no 11005)) (.ok (.out (.exit 0) (LS.mk [.lst 2 (.fn n fun (j : Nat) => .agg [.i .i64 (tk j), .lst 3 (.rats w (qs j))]), .ptr 0 12 0 0 [], .i .i64 e, .lst 2 (.fn n fun (j : Nat) => .agg [.i .i64 (tk j), .lst 3 (.rats w (qs j))]), .i .i64 (↑n : Int), .i .i64 i] [some (.mk 12 (.vals [armPV A]))])))).run := by kernel_rfl
theorem e58 (A : Am) (w n : Nat) (tk : Nat → Int) (qs : Nat → List Rat) (i : Int) : (evF Tryd.prog (O58 A) [(9, lcst (st58 A w n tk qs 0 0) (.exit 0) (st58 A w n tk qs 0 i))] pol58 Tryd.f36 [armPV A, trC w n tk qs] [] retK).run =
  (Tr.br (decP (isA [armPV A] True [armPV A])) (.br (decide ((↑n : Int) = (0 : Int))) (.ok (.ret (.i .i64 (14 : Int)) [])) (.br (decide ((60 : Int) < (↑n : Int))) (.ok (.ret (.i .i64 (2 : Int)) [])) (.br (decP (isLS (LS.mk [.lst 2 (.fn n fun (j : Nat) => .agg [.i .i64 (tk j), .lst 3 (.rats w (qs j))]), .ptr 0 12 0 0 [], .i .i64 (0 : Int), .lst 2 (.fn n fun (j : Nat) => .agg [.i .i64 (tk j), .lst 3 (.rats w (qs j))]), .i .i64 (↑n : Int), .i .i64 (0 : Int)] [some (.mk 12 (.vals [armPV A]))]) (LS.mk [.lst 2 (.fn n fun (j : Nat) => .agg [.i .i64 (tk j), .lst 3 (.rats w (qs j))]), .ptr 0 12 0 0 [], .i .i64 (0 : Int), .lst 2 (.fn n fun (j : Nat) => .agg [.i .i64 (tk j), .lst 3 (.rats w (qs j))]), .i .i64 (↑n : Int), .i .i64 (0 : Int)] [some (.mk 12 (.vals [armPV A]))]))) (.ok (.ret (.i .i64 (0 : Int)) [])) (.no 1)))) (.no 1)).run := by kernel_rfl
theorem e58b (A : Am) (w n : Nat) (tk : Nat → Int) (qs : Nat → List Rat) (e i : Int) : (evF Tryd.prog (O58 A) [(9, lcst (st58 A w n tk qs 0 0) .ret (st58 A w n tk qs e i))] pol58 Tryd.f36 [armPV A, trC w n tk qs] [] retK).run =
  (Tr.br (decP (isA [armPV A] True [armPV A])) (.br (decide ((↑n : Int) = (0 : Int))) (.ok (.ret (.i .i64 (14 : Int)) [])) (.br (decide ((60 : Int) < (↑n : Int))) (.ok (.ret (.i .i64 (2 : Int)) [])) (.br (decP (isLS (LS.mk [.lst 2 (.fn n fun (j : Nat) => .agg [.i .i64 (tk j), .lst 3 (.rats w (qs j))]), .ptr 0 12 0 0 [], .i .i64 (0 : Int), .lst 2 (.fn n fun (j : Nat) => .agg [.i .i64 (tk j), .lst 3 (.rats w (qs j))]), .i .i64 (↑n : Int), .i .i64 (0 : Int)] [some (.mk 12 (.vals [armPV A]))]) (LS.mk [.lst 2 (.fn n fun (j : Nat) => .agg [.i .i64 (tk j), .lst 3 (.rats w (qs j))]), .ptr 0 12 0 0 [], .i .i64 (0 : Int), .lst 2 (.fn n fun (j : Nat) => .agg [.i .i64 (tk j), .lst 3 (.rats w (qs j))]), .i .i64 (↑n : Int), .i .i64 (0 : Int)] [some (.mk 12 (.vals [armPV A]))]))) (.ok (.ret (.i .i64 e) [])) (.no 1)))) (.no 1)).run := by kernel_rfl
def ck1 (A : Am) (tk : Nat → Int) (qs : Nat → List Rat) (j : Nat) : Int :=
  if tk j < 0 ∨ 2000 < tk j then 1 else if fitB A (qs j) = false then 17 else if j = 0 then 0 else if tk j ≤ tk (j - 1) then 9 else if slowB A (tk j - tk (j - 1)) (qs (j - 1)) (qs j) = false then 19 else 0
def ckB (A : Am) (tk : Nat → Int) (qs : Nat → List Rat) (j : Nat) : Bool := decide (ck1 A tk qs j = 0)
def ckR (A : Am) (n : Nat) (tk : Nat → Int) (qs : Nat → List Rat) : Int := if (List.range n).all (ckB A tk qs) = true then 0 else ck1 A tk qs (fbad (ckB A tk qs) n 0)
include hG in
theorem pc58 (hT : TabG G) (A : Am) (hA : armB A = true) (w : Nat) (hw : w ≤ 9000) (n : Nat) (h1 : 1 ≤ n) (h60 : n ≤ 60) (tk : Nat → Int) (qs : Nat → List Rat) (hl : ∀ j, j < n → (qs j).length = A.n) (hr : ∀ j, j < n → -50000 ≤ tk j ∧ tk j ≤ 50000) :
    PC Tryd.prog G 36 [armPV A, trC w n tk qs] [] (.i .i64 (ckR A n tk qs)) [] := by
  have oc : OrcOK Tryd.prog G (R58 A) := .cons (ck35 hG hT A hA) (.cons (ck98A hG hT A hA) .nil)
  have rd : ∀ j, j < n → (evRound Tryd.prog (R58 A) [] pol58 Tryd.f36.ntmps 0 [1, 2, 4, 20, 21, 22] b58 (st58 A w n tk qs 0 ((j : Nat) : Int))).run =
      some (if ck1 A tk qs j = 0 then .out .normal (st58 A w n tk qs 0 ((j + 1 : Nat) : Int)) else .out .ret (st58 A w n tk qs (ck1 A tk qs j) ((j : Nat) : Int))) := by
    intro j hj
    have hlj := hl j hj
    have hrj := hr j hj
    have p1 : decP (P35A A (armPV A) w (qs j)) = true := decP_iff.2 ⟨rfl, hlj, by omega⟩
    have leaf : ∀ (k : Int) (t : Tr), ck1 A tk qs j = k → t.run = some (if k = 0 then .out .normal (st58 A w n tk qs 0 ((j + 1 : Nat) : Int)) else .out .ret (st58 A w n tk qs k ((j : Nat) : Int))) → t.run = some (if ck1 A tk qs j = 0 then .out .normal (st58 A w n tk qs 0 ((j + 1 : Nat) : Int)) else .out .ret (st58 A w n tk qs (ck1 A tk qs j) ((j : Nat) : Int))) := by
      rintro k t rfl h
      exact h
    rw [r58, Int.toNat_natCast]
    by_cases c1 : tk j < 0 ∨ 2000 < tk j
    · refine leaf 1 _ (by unfold ck1; rw [if_pos c1]) ?_
      rw [if_neg (by decide)]
      rcases c1 with c | c
      · repeat first | rw [Tr.run_t (by first | (simp only [Bool.and_eq_true, Bool.or_eq_true, decide_eq_true_eq, Nat.ble_eq, Nat.blt_eq, List.length_cons, List.length_nil, Bool.not_eq_true', decide_eq_false_iff_not]; omega) | exact decP_iff.2 ⟨rfl, trivial⟩ | exact decP_iff.2 rfl | decide)] | rw [Tr.run_f (by first | (simp only [Bool.and_eq_false_iff, Bool.not_eq_false', decide_eq_true_eq, decide_eq_false_iff_not]; omega) | decide)]
        rw [Tr.run_ok]
        rfl
      · by_cases c' : tk j < 0
        · repeat first | rw [Tr.run_t (by first | (simp only [Bool.and_eq_true, Bool.or_eq_true, decide_eq_true_eq, Nat.ble_eq, Nat.blt_eq, List.length_cons, List.length_nil, Bool.not_eq_true', decide_eq_false_iff_not]; omega) | exact decP_iff.2 ⟨rfl, trivial⟩ | exact decP_iff.2 rfl | decide)] | rw [Tr.run_f (by first | (simp only [Bool.and_eq_false_iff, Bool.not_eq_false', decide_eq_true_eq, decide_eq_false_iff_not]; omega) | decide)]
          rw [Tr.run_ok]
          rfl
        · repeat first | rw [Tr.run_t (by first | (simp only [Bool.and_eq_true, Bool.or_eq_true, decide_eq_true_eq, Nat.ble_eq, Nat.blt_eq, List.length_cons, List.length_nil, Bool.not_eq_true', decide_eq_false_iff_not]; omega) | exact decP_iff.2 ⟨rfl, trivial⟩ | exact decP_iff.2 rfl | decide)] | rw [Tr.run_f (by first | (simp only [Bool.and_eq_false_iff, Bool.not_eq_false', decide_eq_true_eq, decide_eq_false_iff_not]; omega) | decide)]
          rw [Tr.run_ok]
          rfl
    · cases hf : fitB A (qs j) with
      | false =>
        refine leaf 17 _ (by unfold ck1; rw [if_neg c1, if_pos hf]) ?_
        rw [if_neg (by decide)]
        repeat first | rw [Tr.run_t (by first | (simp only [Bool.and_eq_true, Bool.or_eq_true, decide_eq_true_eq, Nat.ble_eq, Nat.blt_eq, List.length_cons, List.length_nil, Bool.not_eq_true', decide_eq_false_iff_not]; omega) | exact p1 | exact hf | exact decP_iff.2 ⟨rfl, trivial⟩ | exact decP_iff.2 rfl | decide)] | rw [Tr.run_f (by first | (simp only [Bool.and_eq_false_iff, Bool.not_eq_false', decide_eq_true_eq, decide_eq_false_iff_not]; omega) | exact p1 | exact hf | decide)]
        rw [Tr.run_ok]
        rfl
      | true =>
        have hf' : ¬ fitB A (qs j) = false := by rw [hf]; decide
        by_cases c3 : j = 0
        · refine leaf 0 _ (by unfold ck1; rw [if_neg c1, if_neg hf', if_pos c3]) ?_
          rw [if_pos rfl]
          repeat first | rw [Tr.run_t (by first | (simp only [Bool.and_eq_true, Bool.or_eq_true, decide_eq_true_eq, Nat.ble_eq, Nat.blt_eq, List.length_cons, List.length_nil, Bool.not_eq_true', decide_eq_false_iff_not]; omega) | exact p1 | exact hf | exact decP_iff.2 ⟨rfl, trivial⟩ | exact decP_iff.2 rfl | decide)] | rw [Tr.run_f (by first | (simp only [Bool.and_eq_false_iff, Bool.not_eq_false', decide_eq_true_eq, decide_eq_false_iff_not]; omega) | exact p1 | exact hf | decide)]
          rw [Tr.run_ok]
          rfl
        · have e1 : (((j : Nat) : Int) - 1).toNat = j - 1 := by omega
          rw [e1]
          have hlk := hl (j - 1) (by omega)
          have hrk := hr (j - 1) (by omega)
          have p2 : decP (P98A A (armPV A) (qs (j - 1)) (qs j) (tk (j - 1)) (tk j) w w) = true := decP_iff.2 ⟨rfl, hlk, hlj, by omega, by omega, by omega, by omega⟩
          by_cases c4 : tk j ≤ tk (j - 1)
          · refine leaf 9 _ (by unfold ck1; rw [if_neg c1, if_neg hf', if_neg c3, if_pos c4]) ?_
            rw [if_neg (by decide)]
            repeat first | rw [Tr.run_t (by first | (simp only [Bool.and_eq_true, Bool.or_eq_true, decide_eq_true_eq, Nat.ble_eq, Nat.blt_eq, List.length_cons, List.length_nil, Bool.not_eq_true', decide_eq_false_iff_not]; omega) | exact p1 | exact hf | exact decP_iff.2 ⟨rfl, trivial⟩ | exact decP_iff.2 rfl | decide)] | rw [Tr.run_f (by first | (simp only [Bool.and_eq_false_iff, Bool.not_eq_false', decide_eq_true_eq, decide_eq_false_iff_not]; omega) | exact p1 | exact hf | decide)]
            rw [Tr.run_ok]
            rfl
          · cases hs : slowB A (tk j - tk (j - 1)) (qs (j - 1)) (qs j) with
            | false =>
              refine leaf 19 _ (by unfold ck1; rw [if_neg c1, if_neg hf', if_neg c3, if_neg c4, if_pos hs]) ?_
              rw [if_neg (by decide)]
              repeat first | rw [Tr.run_t (by first | (simp only [Bool.and_eq_true, Bool.or_eq_true, decide_eq_true_eq, Nat.ble_eq, Nat.blt_eq, List.length_cons, List.length_nil, Bool.not_eq_true', decide_eq_false_iff_not]; omega) | exact p1 | exact hf | exact p2 | exact hs | exact decP_iff.2 ⟨rfl, trivial⟩ | exact decP_iff.2 rfl | decide)] | rw [Tr.run_f (by first | (simp only [Bool.and_eq_false_iff, Bool.not_eq_false', decide_eq_true_eq, decide_eq_false_iff_not]; omega) | exact p1 | exact hf | exact p2 | exact hs | decide)]
              rw [Tr.run_ok]
              rfl
            | true =>
              refine leaf 0 _ (by unfold ck1; rw [if_neg c1, if_neg hf', if_neg c3, if_neg c4, if_neg (by rw [hs]; decide)]) ?_
              rw [if_pos rfl]
              repeat first | rw [Tr.run_t (by first | (simp only [Bool.and_eq_true, Bool.or_eq_true, decide_eq_true_eq, Nat.ble_eq, Nat.blt_eq, List.length_cons, List.length_nil, Bool.not_eq_true', decide_eq_false_iff_not]; omega) | exact p1 | exact hf | exact p2 | exact hs | exact decP_iff.2 ⟨rfl, trivial⟩ | exact decP_iff.2 rfl | decide)] | rw [Tr.run_f (by first | (simp only [Bool.and_eq_false_iff, Bool.not_eq_false', decide_eq_true_eq, decide_eq_false_iff_not]; omega) | exact p1 | exact hf | exact p2 | exact hs | decide)]
              rw [Tr.run_ok]
              rfl
  obtain ⟨g1, g2⟩ := Goes.search (R := Rnd Tryd.prog G Tryd.f36.ntmps 0 [1, 2, 4, 20, 21, 22] b58) (fun j => st58 A w n tk qs 0 ((j : Nat) : Int)) (fun j => st58 A w n tk qs (ck1 A tk qs j) ((j : Nat) : Int)) (ckB A tk qs) n
    (e0 := .exit 0) (e1 := .ret) (fin := st58 A w n tk qs 0 ((n : Nat) : Int)) (by simp) (by simp)
    (fun j hj hf => by
      refine round_ok hG oc mix (L := []) (pol := pol58) (O := R58 A) (LpsOK.none (by kernel_rfl)) (by simp [st58]) ?_
      rw [rd j hj, if_pos (of_decide_eq_true hf)])
    (fun j hj hf => by
      refine round_ok hG oc mix (L := []) (pol := pol58) (O := R58 A) (LpsOK.none (by kernel_rfl)) (by simp [st58]) ?_
      rw [rd j hj, if_neg (of_decide_eq_false hf)])
    (by
      refine round_ok hG oc mix (L := []) (pol := pol58) (O := R58 A) (LpsOK.none (by kernel_rfl)) (by simp [st58]) ?_
      rw [r58, Tr.run_f (decide_eq_false (by omega)), Tr.run_ok]
      rfl) n 0 (by omega)
  have p52 : PC Tryd.prog G 32 [armPV A] [] (.i .i64 0) [] := by
    obtain ⟨r, hs', p, e⟩ := ok52 hG [armPV A] [] (fun r hs' => .ok (.ret r hs')) (.ret (.i .i64 0) []) (by
      show (Tr.br _ _ _).run = _
      rw [Tr.run_t (decP_iff.2 ⟨_, A, rfl, .refl _, hA⟩)]; rfl)
    cases e
    exact p
  have oc2 : OrcOK Tryd.prog G (O58 A) := .cons (ck35 hG hT A hA) (.cons (cst_t p52) (.cons (ck98A hG hT A hA) .nil))
  unfold ckR
  cases hall : (List.range n).all (ckB A tk qs) with
  | true =>
    rw [if_pos rfl]
    refine evF_pc hG oc2 mix enter58 (L := [(9, lcst (st58 A w n tk qs 0 0) (.exit 0) (st58 A w n tk qs 0 (n : Nat)))]) (pol := pol58) (lps1 (b := b58) (live := [1, 2, 4, 20, 21, 22]) (m := 0) (by kernel_rfl) (by kernel_rfl) (by kernel_rfl) (lcst_ok (g1 fun j _ hj => List.all_eq_true.1 hall j (List.mem_range.2 hj)))) ?_
    rw [e58]
    repeat first | rw [Tr.run_t (by first | (simp only [Bool.and_eq_true, Bool.or_eq_true, decide_eq_true_eq, Nat.ble_eq, Nat.blt_eq, List.length_cons, List.length_nil, Bool.not_eq_true', decide_eq_false_iff_not]; omega) | exact decP_iff.2 ⟨rfl, trivial⟩ | exact decP_iff.2 rfl | decide)] | rw [Tr.run_f (by first | (simp only [Bool.and_eq_false_iff, Bool.not_eq_false', decide_eq_true_eq, decide_eq_false_iff_not]; omega) | decide)]
    rw [Tr.run_ok]
  | false =>
    rw [if_neg (by decide)]
    have hn : ¬ ∀ j, 0 ≤ j → j < n → ckB A tk qs j = true := by
      intro hh
      have : (List.range n).all (ckB A tk qs) = true := List.all_eq_true.2 fun j hj => hh j (Nat.zero_le _) (List.mem_range.1 hj)
      rw [hall] at this; cases this
    refine evF_pc hG oc2 mix enter58 (L := [(9, lcst (st58 A w n tk qs 0 0) .ret (st58 A w n tk qs (ck1 A tk qs (fbad (ckB A tk qs) n 0)) ((fbad (ckB A tk qs) n 0 : Nat) : Int)))]) (pol := pol58) (lps1 (b := b58) (live := [1, 2, 4, 20, 21, 22]) (m := 0) (by kernel_rfl) (by kernel_rfl) (by kernel_rfl) (lcst_ok (g2 hn))) ?_
    rw [e58b]
    repeat first | rw [Tr.run_t (by first | (simp only [Bool.and_eq_true, Bool.or_eq_true, decide_eq_true_eq, Nat.ble_eq, Nat.blt_eq, List.length_cons, List.length_nil, Bool.not_eq_true', decide_eq_false_iff_not]; omega) | exact decP_iff.2 ⟨rfl, trivial⟩ | exact decP_iff.2 rfl | decide)] | rw [Tr.run_f (by first | (simp only [Bool.and_eq_false_iff, Bool.not_eq_false', decide_eq_true_eq, decide_eq_false_iff_not]; omega) | decide)]
    rw [Tr.run_ok]
end Go.Proofs.YtgaokohhkdeomaaDoor.PE
namespace Go.Proofs.YtgaokohhkdeomaaDoor.PE
open Go
set_option maxRecDepth 100000
variable {G : World → (Nat → Prop) → Prop} (hG : GOk G)
theorem enter16 : Enters Tryd.prog 19 Tryd.f19 (bodyC Tryd.f19) := ⟨Tryd.func19, by kernel_rfl, rfl⟩
noncomputable def b16 : Code := (loopsOf (bodyC Tryd.f19)).getD 0 .skip
def pol16 : Pol := { live := [(5, [2, 5, 6, 7, 16, 17])], wr := [(78, [0]), (79, [1])] }
def W69 (A : Am) (a v : PV) : Prop := a = armPV A ∧ okW v = true
noncomputable def w69 (A : Am) (CF : PV → List Rat) (IT : PV → PV) : Spec := fun args hs K => match args, hs with
  | [a, .ptr 0 1 0 0 []], [⟨1, .vals [.agg [.w v]]⟩] => .br (decP (W69 A a v)) (K (.fr 3 (.rats 64 (CF v))) [⟨1, .vals [.agg [.w (IT v)]]⟩]) (.no 1)
  | _, _ => .no 1
noncomputable def O16 (A : Am) (CF : PV → List Rat) (IT : PV → PV) : Orc := [(78, s45), (79, w69 A CF IT)]
noncomputable def l16 (A : Am) (CF : PV → List Rat) (IT : PV → PV) : LSpec := unr Tryd.prog (O16 A CF IT) [] pol16 Tryd.f19.ntmps 0 [2, 5, 6, 7, 16, 17] b16 5
theorem e16 (A : Am) (CF : PV → List Rat) (IT : PV → PV) (m : PV) : (evF Tryd.prog (O16 A CF IT) [(5, l16 A CF IT)] pol16 Tryd.f19 [armPV A, .w m] [] retK).run =
  (Tr.br (okW m && decide ((0 : Int) < (10 : Int)) && decide ((10 : Int) ≤ (4294967296 : Int))) (.br (okW (rs m) && decide ((0 : Int) < (4 : Int)) && decide ((4 : Int) ≤ (4294967296 : Int))) (.br (ib ((1 : Int) + nx (rs m) (4 : Int))) (.br (decide ((0 : Int) < (1 : Int) + nx (rs m) (4 : Int))) (.br (decP (W69 A (armPV A) (rs (rs m)))) (.br (((0 : Nat) + (CF (rs (rs m))).length).ble (CF (rs (rs m))).length) (.br (decide ((0 : Int) + (1 : Int) < (1 : Int) + nx (rs m) (4 : Int))) (.br (okW (IT (rs (rs m))) && decide ((0 : Int) < (20 : Int)) && decide ((20 : Int) ≤ (4294967296 : Int))) (.br (ib ((48 : Int) + nx (IT (rs (rs m))) (20 : Int))) (.br (ib (nx m (10 : Int) + ((48 : Int) + nx (IT (rs (rs m))) (20 : Int)))) (.br (decP (W69 A (armPV A) (rs (IT (rs (rs m)))))) (.br (((0 : Nat) + (CF (rs (IT (rs (rs m))))).length).ble (CF (rs (IT (rs (rs m))))).length) (.br (decide ((0 : Int) + (1 : Int) + (1 : Int) < (1 : Int) + nx (rs m) (4 : Int))) (.br (okW (IT (rs (IT (rs (rs m))))) && decide ((0 : Int) < (20 : Int)) && decide ((20 : Int) ≤ (4294967296 : Int))) (.br (ib ((48 : Int) + nx (IT (rs (IT (rs (rs m))))) (20 : Int))) (.br (ib (nx m (10 : Int) + ((48 : Int) + nx (IT (rs (rs m))) (20 : Int)) + ((48 : Int) + nx (IT (rs (IT (rs (rs m))))) (20 : Int)))) (.br (decP (W69 A (armPV A) (rs (IT (rs (IT (rs (rs m)))))))) (.br (((0 : Nat) + (CF (rs (IT (rs (IT (rs (rs m))))))).length).ble (CF (rs (IT (rs (IT (rs (rs m))))))).length) (.br (decide ((0 : Int) + (1 : Int) + (1 : Int) + (1 : Int) < (1 : Int) + nx (rs m) (4 : Int))) (.br (okW (IT (rs (IT (rs (IT (rs (rs m))))))) && decide ((0 : Int) < (20 : Int)) && decide ((20 : Int) ≤ (4294967296 : Int))) (.br (ib ((48 : Int) + nx (IT (rs (IT (rs (IT (rs (rs m))))))) (20 : Int))) (.br (ib (nx m (10 : Int) + ((48 : Int) + nx (IT (rs (rs m))) (20 : Int)) + ((48 : Int) + nx (IT (rs (IT (rs (rs m))))) (20 : Int)) + ((48 : Int) + nx (IT (rs (IT (rs (IT (rs (rs m))))))) (20 : Int)))) (.br (decP (W69 A (armPV A) (rs (IT (rs (IT (rs (IT (rs (rs m)))))))))) (.br (((0 : Nat) + (CF (rs (IT (rs (IT (rs (IT (rs (rs m))))))))).length).ble (CF (rs (IT (rs (IT (rs (IT (rs (rs m))))))))).length) (.br (decide ((0 : Int) + (1 : Int) + (1 : Int) + (1 : Int) + (1 : Int) < (1 : Int) + nx (rs m) (4 : Int))) (.br (okW (IT (rs (IT (rs (IT (rs (IT (rs (rs m))))))))) && decide ((0 : Int) < (20 : Int)) && decide ((20 : Int) ≤ (4294967296 : Int))) (.br (ib ((48 : Int) + nx (IT (rs (IT (rs (IT (rs (IT (rs (rs m))))))))) (20 : Int))) (.br (ib (nx m (10 : Int) + ((48 : Int) + nx (IT (rs (rs m))) (20 : Int)) + ((48 : Int) + nx (IT (rs (IT (rs (rs m))))) (20 : Int)) + ((48 : Int) + nx (IT (rs (IT (rs (IT (rs (rs m))))))) (20 : Int)) + ((48 : Int) + nx (IT (rs (IT (rs (IT (rs (IT (rs (rs m))))))))) (20 : Int)))) (.br (decP (W69 A (armPV A) (rs (IT (rs (IT (rs (IT (rs (IT (rs (rs m)))))))))))) (.br (((0 : Nat) + (CF (rs (IT (rs (IT (rs (IT (rs (IT (rs (rs m))))))))))).length).ble (CF (rs (IT (rs (IT (rs (IT (rs (IT (rs (rs m))))))))))).length) (.no 16) (.no 10005)) (.no 1)) (.no 9002)) (.no 9003)) (.no 1)) (.ok (.ret (.fr 2 (.vals [.agg [.i .i64 (nx m (10 : Int)), .lst 3 (.rats 64 (List.take (CF (rs (rs m))).length (List.drop (0 : Nat) (CF (rs (rs m))))))], .agg [.i .i64 (nx m (10 : Int) + ((48 : Int) + nx (IT (rs (rs m))) (20 : Int))), .lst 3 (.rats 64 (List.take (CF (rs (IT (rs (rs m))))).length (List.drop (0 : Nat) (CF (rs (IT (rs (rs m))))))))], .agg [.i .i64 (nx m (10 : Int) + ((48 : Int) + nx (IT (rs (rs m))) (20 : Int)) + ((48 : Int) + nx (IT (rs (IT (rs (rs m))))) (20 : Int))), .lst 3 (.rats 64 (List.take (CF (rs (IT (rs (IT (rs (rs m))))))).length (List.drop (0 : Nat) (CF (rs (IT (rs (IT (rs (rs m))))))))))], .agg [.i .i64 (nx m (10 : Int) + ((48 : Int) + nx (IT (rs (rs m))) (20 : Int)) + ((48 : Int) + nx (IT (rs (IT (rs (rs m))))) (20 : Int)) + ((48 : Int) + nx (IT (rs (IT (rs (IT (rs (rs m))))))) (20 : Int))), .lst 3 (.rats 64 (List.take (CF (rs (IT (rs (IT (rs (IT (rs (rs m))))))))).length (List.drop (0 : Nat) (CF (rs (IT (rs (IT (rs (IT (rs (rs m))))))))))))]])) []))) (.no 10005)) (.no 1)) (.no 9002)) (.no 9003)) (.no 1)) (.ok (.ret (.fr 2 (.vals [.agg [.i .i64 (nx m (10 : Int)), .lst 3 (.rats 64 (List.take (CF (rs (rs m))).length (List.drop (0 : Nat) (CF (rs (rs m))))))], .agg [.i .i64 (nx m (10 : Int) + ((48 : Int) + nx (IT (rs (rs m))) (20 : Int))), .lst 3 (.rats 64 (List.take (CF (rs (IT (rs (rs m))))).length (List.drop (0 : Nat) (CF (rs (IT (rs (rs m))))))))], .agg [.i .i64 (nx m (10 : Int) + ((48 : Int) + nx (IT (rs (rs m))) (20 : Int)) + ((48 : Int) + nx (IT (rs (IT (rs (rs m))))) (20 : Int))), .lst 3 (.rats 64 (List.take (CF (rs (IT (rs (IT (rs (rs m))))))).length (List.drop (0 : Nat) (CF (rs (IT (rs (IT (rs (rs m))))))))))]])) []))) (.no 10005)) (.no 1)) (.no 9002)) (.no 9003)) (.no 1)) (.ok (.ret (.fr 2 (.vals [.agg [.i .i64 (nx m (10 : Int)), .lst 3 (.rats 64 (List.take (CF (rs (rs m))).length (List.drop (0 : Nat) (CF (rs (rs m))))))], .agg [.i .i64 (nx m (10 : Int) + ((48 : Int) + nx (IT (rs (rs m))) (20 : Int))), .lst 3 (.rats 64 (List.take (CF (rs (IT (rs (rs m))))).length (List.drop (0 : Nat) (CF (rs (IT (rs (rs m))))))))]])) []))) (.no 10005)) (.no 1)) (.no 9002)) (.no 9003)) (.no 1)) (.ok (.ret (.fr 2 (.vals [.agg [.i .i64 (nx m (10 : Int)), .lst 3 (.rats 64 (List.take (CF (rs (rs m))).length (List.drop (0 : Nat) (CF (rs (rs m))))))]])) []))) (.no 10005)) (.no 1)) (.ok (.ret .nil []))) (.no 5002)) (.no 1)) (.no 1)).run := by kernel_rfl
def kyV (IT : PV → PV) (v : PV) : Nat → PV
  | 0 => rs (rs v)
  | k + 1 => rs (IT (kyV IT v k))
def kyT (IT : PV → PV) (v : PV) : Nat → Int
  | 0 => nx v 10
  | k + 1 => kyT IT v k + (48 + nx (IT (kyV IT v k)) 20)
include hG in
theorem ck69 (A : Am) (hA : armB A = true) (hX : limX A = true) : SpecOK Tryd.prog G 79 (w69 A (fun v => cfL A.lk v A.n) (fun v => itRs A.n v)) := by
  intro args hs K x h
  unfold w69 at h
  split at h
  case h_2 => cases h
  rename_i a v
  obtain ⟨hc, hr⟩ := Tr.of_br h
  obtain ⟨rfl, hv⟩ := decP_iff.1 hc
  obtain ⟨r, hs', p, e⟩ := ok69 hG [armPV A, .ptr 0 1 0 0 []] [⟨1, .vals [.agg [.w v]]⟩] (fun r hs' => .ok (.ret r hs')) (.ret (.fr 3 (.rats 64 (cfL A.lk v A.n))) [⟨1, .vals [.agg [.w (itRs A.n v)]]⟩]) (by
    show (Tr.br _ _ _).run = _
    rw [Tr.run_t (decP_iff.2 ⟨okA_arm hA, hX, hv⟩)]; rfl)
  cases e
  exact ⟨_, _, p, hr⟩
theorem fr_fn (e n : Nat) (f : Nat → PV) (vs : List PV) (hl : vs.length = n) (h : ∀ (i : Nat) (v : PV), vs[i]? = some v → noRef 8 v = true ∧ VLe v (f i)) : RLe (.fr e (.vals vs)) (.fr e (.fn n f)) := by
  subst hl
  exact ⟨fun m => .refl _, fun m => KsLe.one (KLe.fn rfl h)⟩
include hG in
theorem pc16' (A : Am) (CF : PV → List Rat) (IT : PV → PV) (hO : SpecOK Tryd.prog G 79 (w69 A CF IT)) (oIT : ∀ v, okW v = true → okW (IT v) = true) (m : PV) (hm : okW m = true) :
    PC Tryd.prog G 19 [armPV A, .w m] [] (.fr 2 (.fn (1 + nx (rs m) 4).toNat (fun k => kyPV 64 (kyT IT m k) (CF (kyV IT m k))))) [] := by
  have key : ∃ vs : List PV, (evF Tryd.prog (O16 A CF IT) [(5, l16 A CF IT)] pol16 Tryd.f19 [armPV A, .w m] [] retK).run = some (.ret (.fr 2 (.vals vs)) []) ∧ vs.length = (1 + nx (rs m) 4).toNat ∧
      ∀ (i : Nat) (v : PV), vs[i]? = some v → noRef 8 v = true ∧ VLe v (kyPV 64 (kyT IT m i) (CF (kyV IT m i))) := by
    have g0 := nx_range m (show (0 : Int) < 10 by omega)
    have g := nx_range (rs m) (show (0 : Int) < 4 by omega)
    have gn : ∀ v, 0 ≤ nx v 20 ∧ nx v 20 < 20 := fun v => nx_range v (by omega)
    have g1 := gn (IT (rs (rs m)))
    have g2 := gn (IT (rs (IT (rs (rs m)))))
    have g3 := gn (IT (rs (IT (rs (IT (rs (rs m)))))))
    rw [e16]
    simp only [List.drop_zero, List.take_length]
    have hcs : nx (rs m) 4 = 0 ∨ nx (rs m) 4 = 1 ∨ nx (rs m) 4 = 2 ∨ nx (rs m) 4 = 3 := by omega
    rcases hcs with hx | hx | hx | hx <;> simp only [hx]
    · repeat first | rw [Tr.run_t (by first | (simp only [Bool.and_eq_true, Bool.or_eq_true, decide_eq_true_eq, Nat.ble_eq, Nat.blt_eq, List.length_cons, List.length_nil, Bool.not_eq_true', decide_eq_false_iff_not]; omega) | (simp only [Bool.and_eq_true, decide_eq_true_eq]; refine ⟨⟨?_, by omega⟩, by omega⟩; repeat first | exact hm | apply okW_rs | apply oIT) | exact decP_iff.2 ⟨rfl, by repeat first | exact hm | apply okW_rs | apply oIT⟩ | exact decP_iff.2 ⟨rfl, trivial⟩ | exact decP_iff.2 rfl | decide)] | rw [Tr.run_f (by first | (simp only [Bool.and_eq_false_iff, Bool.not_eq_false', decide_eq_true_eq, decide_eq_false_iff_not]; omega) | (simp only [Bool.and_eq_true, decide_eq_true_eq]; refine ⟨⟨?_, by omega⟩, by omega⟩; repeat first | exact hm | apply okW_rs | apply oIT) | exact decP_iff.2 ⟨rfl, by repeat first | exact hm | apply okW_rs | apply oIT⟩ | decide)]
      refine ⟨_, rfl, rfl, fun i v hi => ?_⟩
      match i, hi with
      | 0, hi => obtain rfl := Option.some.inj hi; exact ⟨rfl, .refl _⟩
      | i + 1, hi => simp at hi
    · repeat first | rw [Tr.run_t (by first | (simp only [Bool.and_eq_true, Bool.or_eq_true, decide_eq_true_eq, Nat.ble_eq, Nat.blt_eq, List.length_cons, List.length_nil, Bool.not_eq_true', decide_eq_false_iff_not]; omega) | (simp only [Bool.and_eq_true, decide_eq_true_eq]; refine ⟨⟨?_, by omega⟩, by omega⟩; repeat first | exact hm | apply okW_rs | apply oIT) | exact decP_iff.2 ⟨rfl, by repeat first | exact hm | apply okW_rs | apply oIT⟩ | exact decP_iff.2 ⟨rfl, trivial⟩ | exact decP_iff.2 rfl | decide)] | rw [Tr.run_f (by first | (simp only [Bool.and_eq_false_iff, Bool.not_eq_false', decide_eq_true_eq, decide_eq_false_iff_not]; omega) | (simp only [Bool.and_eq_true, decide_eq_true_eq]; refine ⟨⟨?_, by omega⟩, by omega⟩; repeat first | exact hm | apply okW_rs | apply oIT) | exact decP_iff.2 ⟨rfl, by repeat first | exact hm | apply okW_rs | apply oIT⟩ | decide)]
      refine ⟨_, rfl, rfl, fun i v hi => ?_⟩
      match i, hi with
      | 0, hi => obtain rfl := Option.some.inj hi; exact ⟨rfl, .refl _⟩
      | 1, hi => obtain rfl := Option.some.inj hi; exact ⟨rfl, .refl _⟩
      | i + 2, hi => simp at hi
    · repeat first | rw [Tr.run_t (by first | (simp only [Bool.and_eq_true, Bool.or_eq_true, decide_eq_true_eq, Nat.ble_eq, Nat.blt_eq, List.length_cons, List.length_nil, Bool.not_eq_true', decide_eq_false_iff_not]; omega) | (simp only [Bool.and_eq_true, decide_eq_true_eq]; refine ⟨⟨?_, by omega⟩, by omega⟩; repeat first | exact hm | apply okW_rs | apply oIT) | exact decP_iff.2 ⟨rfl, by repeat first | exact hm | apply okW_rs | apply oIT⟩ | exact decP_iff.2 ⟨rfl, trivial⟩ | exact decP_iff.2 rfl | decide)] | rw [Tr.run_f (by first | (simp only [Bool.and_eq_false_iff, Bool.not_eq_false', decide_eq_true_eq, decide_eq_false_iff_not]; omega) | (simp only [Bool.and_eq_true, decide_eq_true_eq]; refine ⟨⟨?_, by omega⟩, by omega⟩; repeat first | exact hm | apply okW_rs | apply oIT) | exact decP_iff.2 ⟨rfl, by repeat first | exact hm | apply okW_rs | apply oIT⟩ | decide)]
      refine ⟨_, rfl, rfl, fun i v hi => ?_⟩
      match i, hi with
      | 0, hi => obtain rfl := Option.some.inj hi; exact ⟨rfl, .refl _⟩
      | 1, hi => obtain rfl := Option.some.inj hi; exact ⟨rfl, .refl _⟩
      | 2, hi => obtain rfl := Option.some.inj hi; exact ⟨rfl, .refl _⟩
      | i + 3, hi => simp at hi
    · repeat first | rw [Tr.run_t (by first | (simp only [Bool.and_eq_true, Bool.or_eq_true, decide_eq_true_eq, Nat.ble_eq, Nat.blt_eq, List.length_cons, List.length_nil, Bool.not_eq_true', decide_eq_false_iff_not]; omega) | (simp only [Bool.and_eq_true, decide_eq_true_eq]; refine ⟨⟨?_, by omega⟩, by omega⟩; repeat first | exact hm | apply okW_rs | apply oIT) | exact decP_iff.2 ⟨rfl, by repeat first | exact hm | apply okW_rs | apply oIT⟩ | exact decP_iff.2 ⟨rfl, trivial⟩ | exact decP_iff.2 rfl | decide)] | rw [Tr.run_f (by first | (simp only [Bool.and_eq_false_iff, Bool.not_eq_false', decide_eq_true_eq, decide_eq_false_iff_not]; omega) | (simp only [Bool.and_eq_true, decide_eq_true_eq]; refine ⟨⟨?_, by omega⟩, by omega⟩; repeat first | exact hm | apply okW_rs | apply oIT) | exact decP_iff.2 ⟨rfl, by repeat first | exact hm | apply okW_rs | apply oIT⟩ | decide)]
      refine ⟨_, rfl, rfl, fun i v hi => ?_⟩
      match i, hi with
      | 0, hi => obtain rfl := Option.some.inj hi; exact ⟨rfl, .refl _⟩
      | 1, hi => obtain rfl := Option.some.inj hi; exact ⟨rfl, .refl _⟩
      | 2, hi => obtain rfl := Option.some.inj hi; exact ⟨rfl, .refl _⟩
      | 3, hi => obtain rfl := Option.some.inj hi; exact ⟨rfl, .refl _⟩
      | i + 4, hi => simp at hi
  obtain ⟨vs, k1, k2, k3⟩ := key
  have oc : OrcOK Tryd.prog G (O16 A CF IT) := .cons (ok45 hG) (.cons hO .nil)
  exact (evF_pc hG oc mix enter16 (L := [(5, l16 A CF IT)]) (pol := pol16) (lps1 (b := b16) (live := [2, 5, 6, 7, 16, 17]) (sp := l16 A CF IT) (m := 0) (by kernel_rfl) (by kernel_rfl) (by kernel_rfl) (unr_ok hG oc mix (LpsOK.none (by kernel_rfl)) 5)) k1).le (fr_fn _ _ _ _ k2 k3) (.refl _)
include hG in
theorem pc16 (A : Am) (hA : armB A = true) (hX : limX A = true) (m : PV) (hm : okW m = true) :
    PC Tryd.prog G 19 [armPV A, .w m] [] (.fr 2 (.fn (1 + nx (rs m) 4).toNat (fun k => kyPV 64 (kyT (fun v => itRs A.n v) m k) (cfL A.lk (kyV (fun v => itRs A.n v) m k) A.n)))) [] :=
  pc16' hG A _ _ (ck69 hG A hA hX) (fun v h => okW_itRs h A.n) m hm
end Go.Proofs.YtgaokohhkdeomaaDoor.PE
namespace Go.Proofs.YtgaokohhkdeomaaDoor.PE
open Go
set_option maxRecDepth 100000
theorem list_ext0 {p q : List Rat} {m : Nat} (hp : p.length = m) (hq : q.length = m) (h : ∀ i, i < m → p.getD i 0 = q.getD i 0) : p = q := by
  apply List.ext_getElem (by omega)
  intro i h1 h2
  have := h i (by omega)
  rwa [List.getD_eq_getElem?_getD, List.getD_eq_getElem?_getD, List.getElem?_eq_getElem h1, List.getElem?_eq_getElem h2] at this
theorem parL_get {p q : List Rat} {s : Rat} {m i : Nat} (h : i < m) : (parL p q s m).getD i 0 = p.getD i 0 + s * (q.getD i 0 - p.getD i 0) := by
  unfold parL
  rw [getD_map_range _ h]
  rfl
theorem parL_0 {p q : List Rat} {m : Nat} (hp : p.length = m) : parL p q 0 m = p :=
  list_ext0 (parL_len _ _ _ _) hp fun i hi => by rw [parL_get hi]; grind
theorem parL_1 {p q : List Rat} {m : Nat} (hq : q.length = m) : parL p q 1 m = q :=
  list_ext0 (parL_len _ _ _ _) hq fun i hi => by rw [parL_get hi]; grind
section
variable {m n : Nat} {tk : Nat → Int} {qs : Nat → List Rat} (h : TrC m n tk qs)
include h
theorem at_lo {tick : Int} (ht : tick ≤ tk 0) : at17 m n tk qs tick = qs 0 := by unfold at17; rw [if_pos ht]
theorem at_len (tick : Int) : (at17 m n tk qs tick).length = m := by
  unfold at17
  split
  · exact h.len 0 h.n1
  · split
    · exact h.len (n - 1) (by have := h.n1; omega)
    · exact parL_len _ _ _ _
theorem fbad_at {tick : Int} {i : Nat} (h1 : 1 ≤ i) (hi : i ≤ n) (ha : ∀ j, j < i → tk j ≤ tick) (hb : i < n → tick < tk i) : fbad (okAt tk tick) (n - 1) 1 = i := by
  have hn := h.n1
  by_cases hall : ∀ j, 1 ≤ j → j < 1 + (n - 1) → okAt tk tick j = true
  · rw [fbad_all _ _ _ hall]
    rcases Nat.lt_or_ge i n with g | g
    · have := of_decide_eq_true (hall i h1 (by omega))
      have := hb g
      omega
    · omega
  · obtain ⟨f1, f2, f3, f4⟩ := fbad_some (okAt tk tick) (n - 1) 1 hall
    generalize fbad (okAt tk tick) (n - 1) 1 = k at *
    have g3 := of_decide_eq_false f3
    rcases Nat.lt_trichotomy k i with g | g | g
    · exact absurd (ha k g) g3
    · exact g
    · have := of_decide_eq_true (f4 i h1 g)
      have := hb (by omega)
      omega
theorem at_hi {tick : Int} (ht : tk (n - 1) ≤ tick) : at17 m n tk qs tick = qs (n - 1) := by
  have hn := h.n1
  unfold at17
  split
  · rename_i g
    have := h.mono (n - 1) 0 (by omega)
    rw [Nat.zero_add] at this
    rcases Nat.lt_or_ge 1 n with g1 | g1
    · have a := h.inc 0 (by omega)
      have b := h.mono (n - 2) 1 (by omega)
      rw [show 1 + (n - 2) = n - 1 by omega] at b
      rw [Nat.zero_add] at a
      omega
    · rw [show n - 1 = 0 by omega]
  · rw [if_pos]
    exact fbad_at h (by omega) (Nat.le_refl _) (fun j hj => by
      have := h.mono (n - 1 - j) j (by omega)
      rw [show j + (n - 1 - j) = n - 1 by omega] at this
      omega) (fun g => by omega)
theorem at_seg {tick : Int} {i : Nat} (hi : i + 1 < n) (ha : tk i ≤ tick) (hb : tick ≤ tk (i + 1)) :
    at17 m n tk qs tick = parL (qs i) (qs (i + 1)) (((tick : Rat) - (tk i : Rat)) / ((tk (i + 1) : Rat) - (tk i : Rat))) m := by
  have hn := h.n1
  have l0 := h.len i (by omega)
  have l1 := h.len (i + 1) hi
  have z0 : ∀ x : Rat, ((tick : Rat) - (tick : Rat)) / x = 0 := fun x => by rw [show (tick : Rat) - (tick : Rat) = 0 by grind, Rat.div_def, Rat.zero_mul]
  have hne : (tk (i + 1) : Rat) - (tk i : Rat) ≠ 0 := by
    rw [← Rat.intCast_sub]
    intro h0
    have := Rat.intCast_eq_zero_iff.1 h0
    have := h.inc i hi
    omega
  by_cases e1 : tick = tk (i + 1)
  · have e2 : ((tick : Rat) - (tk i : Rat)) / ((tk (i + 1) : Rat) - (tk i : Rat)) = 1 := by rw [e1, Rat.div_def]; exact Rat.mul_inv_cancel _ hne
    rw [e2, parL_1 l1]
    rcases Nat.lt_or_ge (i + 2) n with g | g
    · have a1 := h.inc (i + 1) g
      have hf := fbad_at h (tick := tick) (i := i + 2) (by omega) (by omega) (fun j hj => by
        have := h.mono (i + 1 - j) j (by omega)
        rw [show j + (i + 1 - j) = i + 1 by omega] at this
        omega) (fun _ => by rw [e1]; exact a1)
      have hlt : ¬ tick ≤ tk 0 := by
        have := h.mono i 0 (by omega)
        have := h.inc i hi
        rw [Nat.zero_add] at *
        omega
      unfold at17
      rw [if_neg hlt, if_neg (by omega), hf]
      show parL (qs (i + 1)) (qs (i + 2)) (((tick : Rat) - (tk (i + 1) : Rat)) / _) m = _
      rw [← e1, z0, parL_0 l1]
    · rw [at_hi h (by rw [show n - 1 = i + 1 by omega]; omega), show n - 1 = i + 1 by omega]
  · by_cases e0 : tick ≤ tk 0
    · have : i = 0 := by
        rcases Nat.eq_zero_or_pos i with g | g
        · exact g
        · have := h.mono (i - 1) 1 (by omega)
          have := h.inc 0 (by omega)
          rw [show 1 + (i - 1) = i by omega] at *
          rw [Nat.zero_add] at *
          omega
      subst this
      have e2 : tick = tk 0 := by omega
      rw [at_lo h e0, ← e2, z0, parL_0 l0]
    · have hf := fbad_at h (tick := tick) (i := i + 1) (by omega) (by omega) (fun j hj => by
        have := h.mono (i - j) j (by omega)
        rw [show j + (i - j) = i by omega] at this
        omega) (fun _ => by omega)
      unfold at17
      rw [if_neg e0, if_neg (by omega), hf]
      rfl
theorem at_cases (tick : Int) : tick < tk 0 ∨ tk (n - 1) ≤ tick ∨ ∃ i, i + 1 < n ∧ tk i ≤ tick ∧ tick < tk (i + 1) := by
  have hn := h.n1
  by_cases h0 : tick < tk 0
  · exact .inl h0
  · refine .inr ?_
    have key : ∀ d, d < n → tk d ≤ tick ∨ ∃ i, i + 1 < n ∧ tk i ≤ tick ∧ tick < tk (i + 1) := by
      intro d
      induction d with
      | zero => intro _; exact .inl (by omega)
      | succ d ih =>
        intro hd
        rcases ih (by omega) with g | g
        · by_cases g1 : tk (d + 1) ≤ tick
          · exact .inl g1
          · exact .inr ⟨d, hd, g, by omega⟩
        · exact .inr g
    rcases key (n - 1) (by omega) with g | g
    · exact .inl g
    · exact .inr g
end
end Go.Proofs.YtgaokohhkdeomaaDoor.PE
namespace Go.Proofs.YtgaokohhkdeomaaDoor.PE
open Go
set_option maxRecDepth 100000
variable {G : World → (Nat → Prop) → Prop} (hG : GOk G)
end Go.Proofs.YtgaokohhkdeomaaDoor.PE
namespace Go.Proofs.YtgaokohhkdeomaaDoor.PE
open Go
set_option maxRecDepth 100000
theorem rabs_le {x c : Rat} : rabs x ≤ c ↔ x ≤ c ∧ -x ≤ c := by
  unfold rabs
  split <;> constructor <;> intro h <;> grind
def armL (A : Am) : Prop := ∀ j, -2 ≤ (A.lk j).low ∧ (A.lk j).high ≤ 2 ∧ 1 ≤ 11 * (A.lk j).spd
theorem low_all : ∀ k, k < 6 → (-2 : Rat) ≤ mkRat (-1 - ((k : Nat) : Int)) (Int.toNat 3) := by decide +kernel
theorem high_all : ∀ k, k < 6 → mkRat (1 + ((k : Nat) : Int)) (Int.toNat 3) ≤ (2 : Rat) := by decide +kernel
theorem spd_all : ∀ k, k < 8 → (1 : Rat) ≤ 11 * mkRat 1 (4 + ((k : Nat) : Int)).toNat := by decide +kernel
theorem armL_V (v : PV) : armL (armD v) := by
  intro j
  have g1 := nx_range (rs (itR6 j (rs (rs (rs v))))) (show (0 : Int) < 6 by omega)
  have g2 := nx_range (rs (rs (itR6 j (rs (rs (rs v)))))) (show (0 : Int) < 6 by omega)
  have g3 := nx_range (rs (rs (rs (itR6 j (rs (rs (rs v))))))) (show (0 : Int) < 8 by omega)
  have a := low_all (nx (rs (itR6 j (rs (rs (rs v))))) 6).toNat (by omega)
  have b := high_all (nx (rs (rs (itR6 j (rs (rs (rs v)))))) 6).toNat (by omega)
  have c := spd_all (nx (rs (rs (rs (itR6 j (rs (rs (rs v))))))) 8).toNat (by omega)
  rw [Int.toNat_of_nonneg g1.1] at a
  rw [Int.toNat_of_nonneg g2.1] at b
  rw [Int.toNat_of_nonneg g3.1] at c
  exact ⟨a, b, c⟩
theorem slow_ok {A : Am} (hL : armL A) {p q : List Rat} (hp : fitB A p = true) (hq : fitB A q = true) {d : Int} (hd : 44 ≤ d) : slowB A d p q = true := by
  refine List.all_eq_true.2 fun j hj => decide_eq_true ?_
  have hj' := List.mem_range.1 hj
  obtain ⟨a1, a2, a3⟩ := hL j
  have b := fitB_iff.1 hp j hj'
  have c := fitB_iff.1 hq j hj'
  have hd' : (44 : Rat) ≤ (d : Rat) := by
    have : ((44 : Int) : Rat) ≤ (d : Rat) := Rat.intCast_le_intCast.2 hd
    exact this
  have h1 : (A.lk j).spd * 44 ≤ (A.lk j).spd * (d : Rat) := Rat.mul_le_mul_of_nonneg_left hd' (by grind)
  exact rabs_le.2 ⟨by grind, by grind⟩
theorem ck_zero {A : Am} {n : Nat} {tk : Nat → Int} {qs : Nat → List Rat} (h1 : ∀ j, j < n → 0 ≤ tk j ∧ tk j ≤ 2000 ∧ fitB A (qs j) = true) (h2 : ∀ j, j + 1 < n → tk j < tk (j + 1) ∧ slowB A (tk (j + 1) - tk j) (qs j) (qs (j + 1)) = true) : ckR A n tk qs = 0 := by
  have h : (List.range n).all (ckB A tk qs) = true := List.all_eq_true.2 fun j hj => decide_eq_true (by
    have hj' := List.mem_range.1 hj
    obtain ⟨a, b, c⟩ := h1 j hj'
    unfold ck1
    rw [if_neg (by omega), if_neg (by rw [c]; decide)]
    by_cases h0 : j = 0
    · rw [if_pos h0]
    · obtain ⟨d, e⟩ := h2 (j - 1) (by omega)
      rw [show j - 1 + 1 = j by omega] at d e
      rw [if_neg h0, if_neg (by omega), if_neg (by rw [e]; decide)])
  unfold ckR
  rw [if_pos h]
def tkN (m : PV) : Nat := (1 + nx (rs m) 4).toNat
def tkK (A : Am) (m : PV) (k : Nat) : Int := kyT (fun v => itRs A.n v) m k
def tkQ (A : Am) (m : PV) (k : Nat) : List Rat := cfL A.lk (kyV (fun v => itRs A.n v) m k) A.n
theorem tkN_range (m : PV) : 1 ≤ tkN m ∧ tkN m ≤ 4 := by
  have g := nx_range (rs m) (show (0 : Int) < 4 by omega)
  unfold tkN
  omega
theorem tkK_0 (A : Am) (m : PV) : 0 ≤ tkK A m 0 ∧ tkK A m 0 < 10 := nx_range m (by omega)
theorem tkK_s (A : Am) (m : PV) (k : Nat) : tkK A m k + 48 ≤ tkK A m (k + 1) ∧ tkK A m (k + 1) ≤ tkK A m k + 67 := by
  have g := nx_range (itRs A.n (kyV (fun v => itRs A.n v) m k)) (show (0 : Int) < 20 by omega)
  have e : tkK A m (k + 1) = tkK A m k + (48 + nx (itRs A.n (kyV (fun v => itRs A.n v) m k)) 20) := rfl
  omega
theorem tkK_le (A : Am) (m : PV) : ∀ k : Nat, 48 * (k : Int) ≤ tkK A m k ∧ tkK A m k ≤ 9 + 67 * (k : Int)
  | 0 => by have := tkK_0 A m; omega
  | k + 1 => by have := tkK_le A m k; have := tkK_s A m k; omega
theorem tkTrC {A : Am} (hA : armB A = true) (m : PV) : TrC A.n (tkN m) (tkK A m) (tkQ A m) where
  n1 := (tkN_range m).1
  n60 := by have := (tkN_range m).2; omega
  m1 := (armB_c hA).2.2.2.2.1
  m3 := (armB_c hA).2.2.2.2.2.1
  len := fun j _ => cfL_len _ _ _
  rng := fun j hj => by have := tkK_le A m j; have := (tkN_range m).2; omega
  inc := fun j _ => by have := tkK_s A m j; omega
theorem tkQ_fit {A : Am} (hA : armB A = true) (m : PV) (k : Nat) : fitB A (tkQ A m k) = true := cfL_fit hA
theorem tk_ck {A : Am} (hA : armB A = true) (hL : armL A) (m : PV) : ckR A (tkN m) (tkK A m) (tkQ A m) = 0 :=
  ck_zero (fun j hj => by have := tkK_le A m j; have := (tkN_range m).2; exact ⟨by omega, by omega, tkQ_fit hA m j⟩)
    (fun j _ => by have := tkK_s A m j; exact ⟨by omega, slow_ok hL (tkQ_fit hA m j) (tkQ_fit hA m (j + 1)) (by omega)⟩)
theorem prt01 {a b t : Int} (h1 : a ≤ t) (h2 : t ≤ b) (h3 : a < b) : 0 ≤ ((t : Rat) - (a : Rat)) / ((b : Rat) - (a : Rat)) ∧ ((t : Rat) - (a : Rat)) / ((b : Rat) - (a : Rat)) ≤ 1 := by
  have e1 : (0 : Rat) ≤ (t : Rat) - (a : Rat) := by have := Rat.intCast_le_intCast.2 h1; grind
  have e2 : (t : Rat) - (a : Rat) ≤ (b : Rat) - (a : Rat) := by have := Rat.intCast_le_intCast.2 h2; grind
  have e3 : (0 : Rat) < (b : Rat) - (a : Rat) := by have := Rat.intCast_lt_intCast.2 h3; grind
  generalize (t : Rat) - (a : Rat) = x at *
  generalize (b : Rat) - (a : Rat) = y at *
  have hi : 0 < y⁻¹ := Rat.inv_pos.2 e3
  have hm : y * y⁻¹ = 1 := Rat.mul_inv_cancel _ (by intro h; rw [h] at e3; exact absurd e3 (by decide))
  rw [Rat.div_def]
  refine ⟨Rat.mul_nonneg e1 (Rat.le_of_lt hi), ?_⟩
  rw [← hm]
  exact Rat.mul_le_mul_of_nonneg_right e2 (Rat.le_of_lt hi)
theorem mid_in {l h p q s : Rat} (hp : l ≤ p ∧ p ≤ h) (hq : l ≤ q ∧ q ≤ h) (hs : 0 ≤ s ∧ s ≤ 1) : l ≤ p + s * (q - p) ∧ p + s * (q - p) ≤ h := by
  have a1 : 0 ≤ s * (q - l) := Rat.mul_nonneg hs.1 (by grind)
  have a2 : 0 ≤ (1 - s) * (p - l) := Rat.mul_nonneg (by grind) (by grind)
  have a3 : 0 ≤ s * (h - q) := Rat.mul_nonneg hs.1 (by grind)
  have a4 : 0 ≤ (1 - s) * (h - p) := Rat.mul_nonneg (by grind) (by grind)
  constructor <;> grind
section
variable {A : Am} {n : Nat} {tk : Nat → Int} {qs : Nat → List Rat} (h : TrC A.n n tk qs)
include h
theorem at_fit (hf : ∀ j, j < n → fitB A (qs j) = true) (t : Int) : fitB A (at17 A.n n tk qs t) = true := by
  have hn := h.n1
  rcases at_cases h t with g | g | ⟨i, hi, g1, g2⟩
  · rw [at_lo h (by omega)]; exact hf 0 hn
  · rw [at_hi h g]; exact hf (n - 1) (by omega)
  · rw [at_seg h hi g1 (by omega)]
    refine fitB_iff.2 fun j hj => ?_
    rw [parL_get hj]
    exact mid_in (fitB_iff.1 (hf i (by omega)) j hj) (fitB_iff.1 (hf (i + 1) hi) j hj) (prt01 g1 (by omega) (h.inc i hi))
theorem at_speed (hs : ∀ j, j + 1 < n → slowB A (tk (j + 1) - tk j) (qs j) (qs (j + 1)) = true) (hp : ∀ j, j < A.n → 0 ≤ (A.lk j).spd) (t : Int) (j : Nat) (hj : j < A.n) :
    rabs ((at17 A.n n tk qs (t + 1)).getD j 0 - (at17 A.n n tk qs t).getD j 0) ≤ (A.lk j).spd := by
  have hn := h.n1
  have z : ∀ x : Rat, rabs (x - x) ≤ (A.lk j).spd := fun x => by
    have := hp j hj
    exact rabs_le.2 ⟨by grind, by grind⟩
  rcases at_cases h t with g | g | ⟨i, hi, g1, g2⟩
  · rw [at_lo h (by omega), at_lo h (by omega)]; exact z _
  · rw [at_hi h g, at_hi h (by omega)]; exact z _
  · rw [at_seg h hi g1 (by omega), at_seg h hi (by omega) (by omega), parL_get hj, parL_get hj]
    have s := List.all_eq_true.1 (hs i hi) j (List.mem_range.2 hj)
    have s' := rabs_le.1 (of_decide_eq_true s)
    have e3 : (0 : Rat) < (tk (i + 1) : Rat) - (tk i : Rat) := by have := Rat.intCast_lt_intCast.2 (h.inc i hi); grind
    rw [Rat.intCast_sub] at s'
    rw [show ((t + 1 : Int) : Rat) = (t : Rat) + 1 from Rat.intCast_add _ _]
    generalize (tk (i + 1) : Rat) - (tk i : Rat) = y at *
    generalize (qs i).getD j 0 = p at *
    generalize (qs (i + 1)).getD j 0 = q at *
    have hi : 0 < y⁻¹ := Rat.inv_pos.2 e3
    have hm : y * y⁻¹ = 1 := Rat.mul_inv_cancel _ (by intro h; rw [h] at e3; exact absurd e3 (by decide))
    have e : p + ((t : Rat) + 1 - (tk i : Rat)) / y * (q - p) - (p + ((t : Rat) - (tk i : Rat)) / y * (q - p)) = (q - p) * y⁻¹ := by
      rw [Rat.div_def, Rat.div_def]
      grind
    rw [e]
    have u1 : (q - p) * y⁻¹ ≤ ((A.lk j).spd * y) * y⁻¹ := Rat.mul_le_mul_of_nonneg_right s'.1 (Rat.le_of_lt hi)
    have u2 : (-(q - p)) * y⁻¹ ≤ ((A.lk j).spd * y) * y⁻¹ := Rat.mul_le_mul_of_nonneg_right s'.2 (Rat.le_of_lt hi)
    have u3 : ((A.lk j).spd * y) * y⁻¹ = (A.lk j).spd := by rw [Rat.mul_assoc, hm, Rat.mul_one]
    rw [u3] at u1 u2
    exact rabs_le.2 ⟨u1, by grind⟩
end
end Go.Proofs.YtgaokohhkdeomaaDoor.PE
namespace Go.Proofs.YtgaokohhkdeomaaDoor.PE
open Go
set_option maxRecDepth 100000
variable {G : World → (Nat → Prop) → Prop} (hG : GOk G)
noncomputable def b19w : Code := (loopsOf (bodyC Tryd.f22)).getD 0 .skip
def st19w (w v : Nat) (xs ys : List Rat) (n i : Int) : LS := ⟨[.lst 3 (.rats w xs), .lst 3 (.rats v ys), .bl false, .i .i64 n, .i .i64 i], []⟩
theorem r19w (w v : Nat) (xs ys : List Rat) (n i : Int) : (evRound Tryd.prog [] [] pol19 Tryd.f22.ntmps 0 [0, 1, 4, 12, 13] b19w (st19w w v xs ys n i)).run =
  (Tr.br (decide (i < n)) (.br (ix (i) ((↑xs.length : Int))) (.br (ix (i) ((↑ys.length : Int))) (.br (!decide (xs.getD i.toNat 0 = ys.getD i.toNat 0)) (.ok (.out .ret (LS.mk [.lst 3 (.rats w xs), .lst 3 (.rats v ys), .bl false, .i .i64 n, .i .i64 i] []))) (.br (ib (i + (1 : Int))) (.ok (.out .normal (LS.mk [.lst 3 (.rats w xs), .lst 3 (.rats v ys), .bl false, .i .i64 n, .i .i64 (i + (1 : Int))] []))) (.no 9002))) (.no 7003)) (.no 7007)) (.ok (.out (.exit 0) (LS.mk [.lst 3 (.rats w xs), .lst 3 (.rats v ys), .bl false, .i .i64 n, .i .i64 i] [])))).run := by kernel_rfl
theorem e19w (w v : Nat) (xs ys : List Rat) (x : Exit) (i : Int) : (evF Tryd.prog [] [(4, lcst (st19w w v xs ys xs.length 0) (.exit 0) (st19w w v xs ys xs.length i))] pol19 Tryd.f22 [.lst 3 (.rats w xs), .lst 3 (.rats v ys)] [] retK).run =
  (Tr.br (!decide ((↑xs.length : Int) = (↑ys.length : Int))) (.ok (.ret (.bl false) [])) (.br (decP (isLS (LS.mk [.lst 3 (.rats w xs), .lst 3 (.rats v ys), .bl false, .i .i64 (↑xs.length : Int), .i .i64 (0 : Int)] []) (LS.mk [.lst 3 (.rats w xs), .lst 3 (.rats v ys), .bl false, .i .i64 (↑xs.length : Int), .i .i64 (0 : Int)] []))) (.ok (.ret (.bl true) [])) (.no 1))).run := by kernel_rfl
theorem e19b (w v : Nat) (xs ys : List Rat) (x : Exit) (i : Int) : (evF Tryd.prog [] [(4, lcst (st19w w v xs ys xs.length 0) .ret (st19w w v xs ys xs.length i))] pol19 Tryd.f22 [.lst 3 (.rats w xs), .lst 3 (.rats v ys)] [] retK).run =
  (Tr.br (!decide ((↑xs.length : Int) = (↑ys.length : Int))) (.ok (.ret (.bl false) [])) (.br (decP (isLS (LS.mk [.lst 3 (.rats w xs), .lst 3 (.rats v ys), .bl false, .i .i64 (↑xs.length : Int), .i .i64 (0 : Int)] []) (LS.mk [.lst 3 (.rats w xs), .lst 3 (.rats v ys), .bl false, .i .i64 (↑xs.length : Int), .i .i64 (0 : Int)] []))) (.ok (.ret (.bl false) [])) (.no 1))).run := by kernel_rfl
def eqJ (xs ys : List Rat) (j : Nat) : Bool := decide (xs.getD j 0 = ys.getD j 0)
def c19 : Spec := fun args hs K => match args, hs with
  | [.lst 3 (.rats w xs), .lst 3 (.rats v ys)], [] => .br (Nat.ble xs.length ys.length && Nat.ble ys.length xs.length && Nat.ble xs.length 1000) (.br (decide (xs = ys)) (K (.bl true) []) (K (.bl false) [])) (.no 1)
  | _, _ => .no 1
include hG in
theorem ck19 : SpecOK Tryd.prog G 22 c19 := by
  intro args hs K x h
  unfold c19 at h
  split at h
  case h_2 => cases h
  rename_i w xs v ys
  obtain ⟨hc, hr⟩ := Tr.of_br h
  simp only [Bool.and_eq_true, Nat.ble_eq] at hc
  obtain ⟨⟨a1, a2⟩, a3⟩ := hc
  have hl : ys.length = xs.length := by omega
  obtain ⟨g1, g2⟩ := Goes.search (R := Rnd Tryd.prog G Tryd.f22.ntmps 0 [0, 1, 4, 12, 13] b19w) (fun j => st19w w v xs ys xs.length ((j : Nat) : Int)) (fun j => st19w w v xs ys xs.length ((j : Nat) : Int)) (eqJ xs ys) xs.length
    (e0 := .exit 0) (e1 := .ret) (fin := st19w w v xs ys xs.length ((xs.length : Nat) : Int)) (by simp) (by simp)
    (fun j hj hf => by
      refine round_ok hG .nil mix (L := []) (pol := pol19) (O := []) (LpsOK.none (by kernel_rfl)) (Nat.zero_le _) ?_
      have hb : (!decide (xs.getD j 0 = ys.getD j 0)) = false := by rw [show decide (xs.getD j 0 = ys.getD j 0) = true from hf]; rfl
      rw [r19w, Int.toNat_natCast]
      repeat first | rw [Tr.run_t (by first | (simp only [Bool.and_eq_true, Bool.or_eq_true, decide_eq_true_eq, Nat.ble_eq, Nat.blt_eq, List.length_cons, List.length_nil, Bool.not_eq_true', decide_eq_false_iff_not]; omega) | exact hb | exact decP_iff.2 ⟨rfl, trivial⟩ | exact decP_iff.2 rfl | decide)] | rw [Tr.run_f (by first | (simp only [Bool.and_eq_false_iff, Bool.not_eq_false', decide_eq_true_eq, decide_eq_false_iff_not]; omega) | exact hb | decide)]
      rw [Tr.run_ok]
      rfl)
    (fun j hj hf => by
      refine round_ok hG .nil mix (L := []) (pol := pol19) (O := []) (LpsOK.none (by kernel_rfl)) (Nat.zero_le _) ?_
      have hb : (!decide (xs.getD j 0 = ys.getD j 0)) = true := by rw [show decide (xs.getD j 0 = ys.getD j 0) = false from hf]; rfl
      rw [r19w, Int.toNat_natCast]
      repeat first | rw [Tr.run_t (by first | (simp only [Bool.and_eq_true, Bool.or_eq_true, decide_eq_true_eq, Nat.ble_eq, Nat.blt_eq, List.length_cons, List.length_nil, Bool.not_eq_true', decide_eq_false_iff_not]; omega) | exact hb | exact decP_iff.2 ⟨rfl, trivial⟩ | exact decP_iff.2 rfl | decide)] | rw [Tr.run_f (by first | (simp only [Bool.and_eq_false_iff, Bool.not_eq_false', decide_eq_true_eq, decide_eq_false_iff_not]; omega) | exact hb | decide)]
      rw [Tr.run_ok]
      rfl)
    (by
      refine round_ok hG .nil mix (L := []) (pol := pol19) (O := []) (LpsOK.none (by kernel_rfl)) (Nat.zero_le _) ?_
      rw [r19w, Tr.run_f (decide_eq_false (by omega)), Tr.run_ok]
      rfl) xs.length 0 (by omega)
  by_cases he : xs = ys
  · rw [Tr.run_t (decide_eq_true he)] at hr
    refine ⟨_, _, evF_pc hG .nil mix enter19 (O := []) (L := [(4, lcst (st19w w v xs ys xs.length 0) (.exit 0) (st19w w v xs ys xs.length xs.length))]) (pol := pol19) (lps1 (b := b19w) (live := [0, 1, 4, 12, 13]) (m := 0) (by kernel_rfl) (by kernel_rfl) (by kernel_rfl) (lcst_ok (g1 fun j _ _ => by rw [he]; exact decide_eq_true rfl))) ?_, hr⟩
    refine (e19w w v xs ys .ret _).trans ?_
    repeat first | rw [Tr.run_t (by first | (simp only [Bool.and_eq_true, Bool.or_eq_true, decide_eq_true_eq, Nat.ble_eq, Nat.blt_eq, List.length_cons, List.length_nil, Bool.not_eq_true', decide_eq_false_iff_not]; omega) | exact decP_iff.2 ⟨rfl, trivial⟩ | exact decP_iff.2 rfl | decide)] | rw [Tr.run_f (by first | (simp only [Bool.and_eq_false_iff, Bool.not_eq_false', decide_eq_true_eq, decide_eq_false_iff_not]; omega) | decide)]
    rw [Tr.run_ok]
  · rw [Tr.run_f (decide_eq_false he)] at hr
    have hn : ¬ ∀ j, 0 ≤ j → j < xs.length → eqJ xs ys j = true := fun hh => he (list_ext0 rfl hl fun i hi => of_decide_eq_true (hh i (Nat.zero_le _) hi))
    refine ⟨_, _, evF_pc hG .nil mix enter19 (O := []) (L := [(4, lcst (st19w w v xs ys xs.length 0) .ret (st19w w v xs ys xs.length (fbad (eqJ xs ys) xs.length 0 : Nat)))]) (pol := pol19) (lps1 (b := b19w) (live := [0, 1, 4, 12, 13]) (m := 0) (by kernel_rfl) (by kernel_rfl) (by kernel_rfl) (lcst_ok (g2 hn))) ?_, hr⟩
    refine (e19b w v xs ys .ret _).trans ?_
    repeat first | rw [Tr.run_t (by first | (simp only [Bool.and_eq_true, Bool.or_eq_true, decide_eq_true_eq, Nat.ble_eq, Nat.blt_eq, List.length_cons, List.length_nil, Bool.not_eq_true', decide_eq_false_iff_not]; omega) | exact decP_iff.2 ⟨rfl, trivial⟩ | exact decP_iff.2 rfl | decide)] | rw [Tr.run_f (by first | (simp only [Bool.and_eq_false_iff, Bool.not_eq_false', decide_eq_true_eq, decide_eq_false_iff_not]; omega) | decide)]
    rw [Tr.run_ok]
end Go.Proofs.YtgaokohhkdeomaaDoor.PE
namespace Go.Proofs.YtgaokohhkdeomaaDoor.PE
open Go
set_option maxRecDepth 100000
variable {G : World → (Nat → Prop) → Prop} (hG : GOk G)
end Go.Proofs.YtgaokohhkdeomaaDoor.PE
namespace Go.Proofs.YtgaokohhkdeomaaDoor.PE
open Go
set_option maxRecDepth 100000
variable {G : World → (Nat → Prop) → Prop} (hG : GOk G)
end Go.Proofs.YtgaokohhkdeomaaDoor.PE
namespace Go.Proofs.YtgaokohhkdeomaaDoor.PE
open Go
set_option maxRecDepth 100000
variable {G : World → (Nat → Prop) → Prop} (hG : GOk G)
theorem ArgsLe.ofL : ∀ {us vs : List PV}, VLeL us vs → ArgsLe us vs
  | [], [], _ => .nil
  | [], v :: vs, h => by have := h.1; simp at this
  | u :: us, [], h => by have := h.1; simp at this
  | u :: us, v :: vs, h => .cons (h.2 0 u v rfl rfl) (ArgsLe.ofL ⟨by have := h.1; simpa using this, fun j a b e1 e2 => h.2 (j + 1) a b e1 e2⟩)
theorem VLe.tup {us vs : List PV} (h : VLeL us vs) : VLe (.tup us) (.tup vs) := by
  refine ⟨rfl, fun w S μ => ⟨fun cs hc => (by cases hc), fun x hx => ?_⟩⟩
  cases hx with
  | cell _ _ _ _ hc => cases hc
  | agg _ _ _ hv _ => cases hv
  | tup _ _ xs hl => exact .tup _ _ _ (ArgsLe.ofL h w S μ xs hl)
end Go.Proofs.YtgaokohhkdeomaaDoor.PE
namespace Go.Proofs.YtgaokohhkdeomaaDoor.PE
open Go
set_option maxRecDepth 100000
variable {G : World → (Nat → Prop) → Prop} (hG : GOk G)
end Go.Proofs.YtgaokohhkdeomaaDoor.PE
namespace Go.Proofs.YtgaokohhkdeomaaDoor.PE
open Go
end Go.Proofs.YtgaokohhkdeomaaDoor.PE
namespace Go.Proofs.YtgaokohhkdeomaaDoor.PE
open Go
set_option maxRecDepth 100000
variable {G : World → (Nat → Prop) → Prop} (hG : GOk G)
end Go.Proofs.YtgaokohhkdeomaaDoor.PE
namespace Go.Proofs.YtgaokohhkdeomaaDoor.PE
open Go
set_option maxRecDepth 100000
variable {G : World → (Nat → Prop) → Prop} (hG : GOk G)
include hG in
theorem p18_ok (l : PV) (hl : okW l = true) : PC Tryd.prog G 18 [.w l] [] (armFr (armD l)) [] := by
  obtain ⟨r, hs', p, e⟩ := ok15 hG [.w l] [] (fun r hs' => .ok (.ret r hs')) (.ret (armFr (armD l)) []) (by show (Tr.br _ _ _).run = _; rw [Tr.run_t hl]; rfl)
  cases e
  exact p
end Go.Proofs.YtgaokohhkdeomaaDoor.PE
namespace Go.Proofs.YtgaokohhkdeomaaDoor.PE
open Go
set_option maxRecDepth 100000
variable {G : World → (Nat → Prop) → Prop} (hG : GOk G)
def apP (P : PV → Prop) (a : PV) : Prop := P a
theorem enterTks : Enters Tryd.prog 17 Tryd.f17 (bodyC Tryd.f17) := ⟨Tryd.func17, by kernel_rfl, rfl⟩
noncomputable def vTks (P : PV → Prop) (ys : List Rat) : Spec := fun args hs K => match args, hs with
  | [a, .i .i64 15], [] => .br (decP (apP P a)) (K (.fr 3 (.rats 452 ys)) []) (.no 1)
  | _, _ => .no 1
theorem eTks (P : PV → Prop) (ys : List Rat) : (evF Tryd.prog [(20, vTks P ys), (29, s23)] [] {} Tryd.f17 [] [] retK).run =
  (Tr.br (decP (apP P (.lst 2 (.vals [.agg [.i .i64 (10 : Int), .lst 3 (.rats 64 [mkRat (0 : Int) (Int.toNat (1 : Int))])], .agg [.i .i64 (20 : Int), .lst 3 (.rats 64 [mkRat (1 : Int) (Int.toNat (1 : Int))])]])))) (.br (((0 : Nat) + ys.length).ble ys.length) (.br (decide ((↑(List.take ys.length (List.drop (0 : Nat) ys)).length : Int) = (1 : Int))) (.br (ix ((0 : Int)) ((↑(List.take ys.length (List.drop (0 : Nat) ys)).length : Int))) (.ok (.ret (.b (decide ((List.take ys.length (List.drop (0 : Nat) ys)).getD (Int.toNat 0) (0 : Rat) = mkRat (1 : Int) (Int.toNat (2 : Int))))) [])) (.no 4006)) (.ok (.ret (.bl false) []))) (.no 3002)) (.no 1)).run := by kernel_rfl
def S1 (w n : Nat) (tk : Nat → Int) (qs : Nat → List Rat) (a : PV) (tick : Int) : Prop := a = trC w n tk qs ∧ -50000 ≤ tick ∧ tick ≤ 50000
noncomputable def sp1 (w n : Nat) (tk : Nat → Int) (qs : Nat → List Rat) (F : Int → List Rat) (W : Nat) : Spec := fun args hs K => match args, hs with
  | [a, .i .i64 tick], [] => .br (decP (S1 w n tk qs a tick)) (K (.fr 3 (.rats W (F tick))) []) (.no 1)
  | _, _ => .no 1
def tksK (j : Nat) : Int := if j = 0 then 10 else 20
def tksQ (j : Nat) : List Rat := if j = 0 then [mkRat (0 : Int) (Int.toNat (1 : Int))] else [mkRat (1 : Int) (Int.toNat (1 : Int))]
theorem tksC : TrC 1 2 tksK tksQ where
  n1 := by decide
  n60 := by decide
  m1 := by decide
  m3 := by decide
  len := fun j hj => by unfold tksQ; split <;> rfl
  rng := fun j hj => by unfold tksK; split <;> omega
  inc := fun j hj => by obtain rfl : j = 0 := by omega
                        decide
theorem tksA : at17 1 2 tksK tksQ 15 = [mkRat (1 : Int) (Int.toNat (2 : Int))] := by kernel_rfl
theorem tks_le : VLe (PV.lst 2 (.vals [.agg [.i .i64 10, .lst 3 (.rats 64 [mkRat (0 : Int) (Int.toNat (1 : Int))])], .agg [.i .i64 20, .lst 3 (.rats 64 [mkRat (1 : Int) (Int.toNat (1 : Int))])]])) (trC 64 2 tksK tksQ) := by
  refine VLe.lst rfl fun i hi => ?_
  have hi' : i < 2 := hi
  match i, hi' with
  | 0, _ => exact .refl _
  | 1, _ => exact .refl _
  | i + 2, h => omega
include hG in
theorem pcTks (hT : TabG G) : PC Tryd.prog G 17 [] [] (.bl true) [] := by
  have p := pc17 hG hT 64 (by omega) tksC 15 (by omega) (by omega)
  rw [tksA] at p
  have hO : SpecOK Tryd.prog G 20 (vTks (fun a => VLe a (trC 64 2 tksK tksQ)) [mkRat (1 : Int) (Int.toNat (2 : Int))]) := by
    intro args hs K x hh
    unfold vTks at hh
    split at hh
    case h_2 => cases hh
    obtain ⟨hc, hr⟩ := Tr.of_br hh
    exact ⟨_, _, PC.args (.cons (decP_iff.1 hc) (.refl _)) p, hr⟩
  refine (evF_pc hG (.cons hO (.cons (ok23 hG) .nil)) mix enterTks (L := []) (pol := {}) (LpsOK.none (by kernel_rfl)) (r := .b true) (hs' := []) ?_).le (rle_b rfl) (.refl _)
  refine (eTks _ _).trans ?_
  repeat first | rw [Tr.run_t (by first | (simp only [Bool.and_eq_true, Bool.or_eq_true, decide_eq_true_eq, Nat.ble_eq, Nat.blt_eq, List.length_cons, List.length_nil, Bool.not_eq_true', decide_eq_false_iff_not]; omega) | exact decP_iff.2 tks_le | exact decP_iff.2 ⟨rfl, trivial⟩ | exact decP_iff.2 rfl | decide)] | rw [Tr.run_f (by first | (simp only [Bool.and_eq_false_iff, Bool.not_eq_false', decide_eq_true_eq, decide_eq_false_iff_not]; omega) | exact decP_iff.2 tks_le | decide)]
  rw [Tr.run_ok]
  rfl
include hG in
theorem pcTkm (A : Am) (hA : armB A = true) (hX : limX A = true) (m : PV) (hm : okW m = true) : PC Tryd.prog G 19 [armPV A, .w m] [] (.fr 2 (.fn (tkN m) (fun k => kyPV 64 (tkK A m k) (tkQ A m k)))) [] := pc16 hG A hA hX m hm
theorem mod_rng (x k : Int) (hk : 0 < k) : 0 ≤ x % k ∧ x % k < k := ⟨Int.emod_nonneg _ (by omega), Int.emod_lt_of_pos _ hk⟩
end Go.Proofs.YtgaokohhkdeomaaDoor.PE
namespace Go.Proofs.YtgaokohhkdeomaaDoor.PE
open Go
set_option maxRecDepth 100000
variable {G : World → (Nat → Prop) → Prop} (hG : GOk G)
def kT : PV → Int
  | .agg [.i _ n, _] => n
  | _ => 0
def kQ : PV → List Rat
  | .agg [_, .lst _ (.rats _ xs)] => xs
  | _ => []
def elT' : PV → Nat → PV
  | .lst _ c, j => c.get j
  | _, _ => .any
def lnT : PV → Nat
  | .lst _ c => c.len
  | _ => 0
def trF (m : Nat) (a : PV) (t : Int) : List Rat := at17 m (lnT a) (fun j => kT (elT' a j)) (fun j => kQ (elT' a j)) t
def PtrF (m : Nat) (a : PV) (t : Int) : Prop := -100000 ≤ t ∧ t ≤ 100000 ∧ ∃ w n f, a = PV.lst 2 (.fn n f) ∧ w ≤ 900 ∧ (∀ j, j < n → VLe (f j) (kyPV w (kT (f j)) (kQ (f j)))) ∧ TrC m n (fun j => kT (f j)) (fun j => kQ (f j))
noncomputable def vAt (m : Nat) : Spec := fun args hs K => match args, hs with
  | [a, .i .i64 t], [] => .br (decP (PtrF m a t)) (K (.fr 3 (.rats 3000 (trF m a t))) []) (.no 1)
  | _, _ => .no 1
include hG in
theorem vAt_ok (hT : TabG G) (m : Nat) : SpecOK Tryd.prog G 20 (vAt m) := by
  intro args hs K x hh
  unfold vAt at hh
  split at hh
  case h_2 => cases hh
  obtain ⟨hc, hr⟩ := Tr.of_br hh
  obtain ⟨h0, h9, w, n, f, rfl, hw, hv, h⟩ := decP_iff.1 hc
  exact ⟨_, _, (PC.args (.cons (VLe.lst (e := 2) (c := .fn n f) (d := .fn n fun j => kyPV w (kT (f j)) (kQ (f j))) rfl hv) (.refl _)) (pc17 hG hT w (by omega) h _ h0 h9)).le (frrats_le 3 _ (by unfold segW; omega)) (.refl _), hr⟩
end Go.Proofs.YtgaokohhkdeomaaDoor.PE
namespace Go.Proofs.YtgaokohhkdeomaaDoor.PE
open Go
set_option maxRecDepth 100000
section
variable {m n : Nat} {tk : Nat → Int} {qs : Nat → List Rat} (h : TrC m n tk qs)
include h
theorem at_key {i : Nat} (hi : i < n) : at17 m n tk qs (tk i) = qs i := by
  rcases Nat.lt_or_ge (i + 1) n with g | g
  · rw [at_seg h g (Int.le_refl _) (by have := h.inc i g; omega), show ((tk i : Rat) - (tk i : Rat)) = 0 by grind, Rat.div_def, Rat.zero_mul, parL_0 (h.len i hi)]
  · rw [show i = n - 1 by omega]
    exact at_hi h (Int.le_refl _)
theorem at_straight {a b t : Int} (hab : a < b) (h1 : a ≤ t) (h2 : t ≤ b) (hk : ∀ i, i < n → tk i ≤ a ∨ b ≤ tk i) :
    at17 m n tk qs t = parL (at17 m n tk qs a) (at17 m n tk qs b) (((t : Rat) - (a : Rat)) / ((b : Rat) - (a : Rat))) m := by
  have hn := h.n1
  have la := at_len h a
  have lb := at_len h b
  have lt := at_len h t
  have hy : (0 : Rat) < (b : Rat) - (a : Rat) := by have := Rat.intCast_lt_intCast.2 hab; grind
  have hm : ((b : Rat) - (a : Rat)) * ((b : Rat) - (a : Rat))⁻¹ = 1 := Rat.mul_inv_cancel _ (by intro g; rw [g] at hy; exact absurd hy (by decide))
  rcases at_cases h a with g | g | ⟨i, hi, g1, g2⟩
  · have hb : b ≤ tk 0 := by
      rcases hk 0 hn with k | k
      · omega
      · exact k
    rw [at_lo h (show t ≤ tk 0 by omega), at_lo h (show a ≤ tk 0 by omega), at_lo h hb]
    refine list_ext0 (h.len 0 hn) (parL_len _ _ _ _) fun j hj => ?_
    rw [parL_get hj]
    grind
  · rw [at_hi h (show tk (n - 1) ≤ t by omega), at_hi h g, at_hi h (show tk (n - 1) ≤ b by omega)]
    refine list_ext0 (h.len (n - 1) (by omega)) (parL_len _ _ _ _) fun j hj => ?_
    rw [parL_get hj]
    grind
  · have hb : b ≤ tk (i + 1) := by
      rcases hk (i + 1) hi with k | k
      · omega
      · exact k
    rw [at_seg h hi (show tk i ≤ t by omega) (by omega), at_seg h hi g1 (by omega), at_seg h hi (show tk i ≤ b by omega) hb]
    refine list_ext0 (parL_len _ _ _ _) (parL_len _ _ _ _) fun j hj => ?_
    rw [parL_get hj, parL_get hj, parL_get hj, parL_get hj]
    rw [Rat.div_def, Rat.div_def, Rat.div_def, Rat.div_def]
    generalize ((tk (i + 1) : Rat) - (tk i : Rat))⁻¹ = z
    generalize hinv : ((b : Rat) - (a : Rat))⁻¹ = y at *
    generalize (qs i).getD j 0 = p
    generalize (qs (i + 1)).getD j 0 = q
    have e : ((t : Rat) - (a : Rat)) * y * ((b : Rat) - (a : Rat)) = (t : Rat) - (a : Rat) := by grind
    grind
end
theorem at_lip {A : Am} {n : Nat} {tk : Nat → Int} {qs : Nat → List Rat} (h : TrC A.n n tk qs) (hs : ∀ j, j + 1 < n → slowB A (tk (j + 1) - tk j) (qs j) (qs (j + 1)) = true) (hp : ∀ j, j < A.n → 0 ≤ (A.lk j).spd) (a : Int) (j : Nat) (hj : j < A.n) :
    ∀ d : Nat, rabs ((at17 A.n n tk qs (a + d)).getD j 0 - (at17 A.n n tk qs a).getD j 0) ≤ (A.lk j).spd * (((d : Nat) : Int) : Rat)
  | 0 => by
    rw [show a + ((0 : Nat) : Int) = a by omega]
    exact rabs_le.2 ⟨by have : (((0 : Nat) : Int) : Rat) = 0 := rfl
                        rw [this]; grind, by have : (((0 : Nat) : Int) : Rat) = 0 := rfl
                                             rw [this]; grind⟩
  | d + 1 => by
    have ih := rabs_le.1 (at_lip h hs hp a j hj d)
    have s := rabs_le.1 (at_speed h hs hp (a + d) j hj)
    rw [show a + ((d : Nat) : Int) + 1 = a + ((d + 1 : Nat) : Int) by omega] at s
    have e : (((d + 1 : Nat) : Int) : Rat) = (((d : Nat) : Int) : Rat) + 1 := by
      rw [show ((d + 1 : Nat) : Int) = ((d : Nat) : Int) + 1 by omega]
      exact Rat.intCast_add _ _
    rw [e]
    exact rabs_le.2 ⟨by grind, by grind⟩
theorem at_slow {A : Am} {n : Nat} {tk : Nat → Int} {qs : Nat → List Rat} (h : TrC A.n n tk qs) (hs : ∀ j, j + 1 < n → slowB A (tk (j + 1) - tk j) (qs j) (qs (j + 1)) = true) (hp : ∀ j, j < A.n → 0 ≤ (A.lk j).spd) (a b : Int) (hab : a ≤ b) :
    slowB A (b - a) (at17 A.n n tk qs a) (at17 A.n n tk qs b) = true := by
  refine List.all_eq_true.2 fun j hj => decide_eq_true ?_
  have := at_lip h hs hp a j (List.mem_range.1 hj) (b - a).toNat
  rw [show a + ((b - a).toNat : Int) = b by omega, show (((b - a).toNat : Nat) : Int) = b - a by omega] at this
  exact this
theorem at_same {m n k : Nat} {tk uk : Nat → Int} {qs ps : Nat → List Rat} (h : TrC m n tk qs) (h' : TrC m k uk ps) (hp : ∀ i, i < k → ps i = at17 m n tk qs (uk i))
    (hk : ∀ i, i + 1 < k → ∀ j, j < n → tk j ≤ uk i ∨ uk (i + 1) ≤ tk j) {t : Int} (h1 : uk 0 ≤ t) (h2 : t ≤ uk (k - 1)) : at17 m k uk ps t = at17 m n tk qs t := by
  have hn := h'.n1
  rcases at_cases h' t with g | g | ⟨i, hi, g1, g2⟩
  · omega
  · rw [at_hi h' g, hp _ (by omega), show t = uk (k - 1) by omega]
  · rw [at_seg h' hi g1 (by omega), hp i (by omega), hp (i + 1) hi]
    exact (at_straight h (h'.inc i hi) g1 (by omega) (hk i hi)).symm
end Go.Proofs.YtgaokohhkdeomaaDoor.PE
namespace Go.Proofs.YtgaokohhkdeomaaDoor.PE
open Go
set_option maxRecDepth 100000
section
variable {m n k : Nat} {tk uk : Nat → Int} {qs ps : Nat → List Rat} (h : TrC m n tk qs) (h' : TrC m k uk ps) (hlt : tk (n - 1) < uk 0) (hnk : n + k ≤ 60)
include h h' hlt hnk
end
theorem ck_all {A : Am} {n : Nat} {tk : Nat → Int} {qs : Nat → List Rat} (h1 : ∀ j, j < n → 0 ≤ tk j ∧ tk j ≤ 2000 ∧ fitB A (qs j) = true) (h2 : ∀ j, j + 1 < n → tk j < tk (j + 1) ∧ slowB A (tk (j + 1) - tk j) (qs j) (qs (j + 1)) = true) : ∀ j, j < n → ck1 A tk qs j = 0 := by
  intro j hj'
  obtain ⟨a, b, c⟩ := h1 j hj'
  unfold ck1
  rw [if_neg (by omega), if_neg (by rw [c]; decide)]
  by_cases h0 : j = 0
  · rw [if_pos h0]
  · obtain ⟨d, e⟩ := h2 (j - 1) (by omega)
    rw [show j - 1 + 1 = j by omega] at d e
    rw [if_neg h0, if_neg (by omega), if_neg (by rw [e]; decide)]
end Go.Proofs.YtgaokohhkdeomaaDoor.PE
namespace Go.Proofs.YtgaokohhkdeomaaDoor.PE
open Go
set_option maxRecDepth 100000
variable {G : World → (Nat → Prop) → Prop} (hG : GOk G)
def ckF (A : Am) (n : Nat) (f : Nat → PV) : Int := ckR A n (fun j => kT (f j)) (fun j => kQ (f j))
def PCk (A : Am) (a : PV) (n : Nat) (f : Nat → PV) : Prop := a = armPV A ∧ 1 ≤ n ∧ n ≤ 60 ∧ ∃ w, w ≤ 9000 ∧ ∀ j, j < n → VLe (f j) (kyPV w (kT (f j)) (kQ (f j))) ∧ (kQ (f j)).length = A.n ∧ -50000 ≤ kT (f j) ∧ kT (f j) ≤ 50000
noncomputable def vCk (A : Am) : Spec := fun args hs K => match args, hs with
  | [a, .lst 2 (.fn n f)], [] => .br (decP (PCk A a n f)) (K (.i .i64 (ckF A n f)) []) (.no 1)
  | _, _ => .no 1
include hG in
theorem vCk_ok (hT : TabG G) (A : Am) (hA : armB A = true) : SpecOK Tryd.prog G 36 (vCk A) := by
  intro args hs K x hh
  unfold vCk at hh
  split at hh
  case h_2 => cases hh
  obtain ⟨hc, hr⟩ := Tr.of_br hh
  obtain ⟨rfl, h1, h60, w, hw, h⟩ := decP_iff.1 hc
  exact ⟨_, _, PC.args (.cons (.refl _) (.cons (VLe.lst (e := 2) (c := .fn _ _) (d := .fn _ fun j => kyPV w (kT _) (kQ _)) rfl fun i hi => (h i hi).1) (.refl _))) (pc58 hG hT A hA w hw _ h1 h60 (fun j => kT _) (fun j => kQ _) (fun j hj => (h j hj).2.1) (fun j hj => (h j hj).2.2)), hr⟩
theorem ky_le {w v : Nat} (h : w ≤ v) (t : Int) (q : List Rat) : VLe (kyPV w t q) (kyPV v t q) := VLe.agg (VLeL.cons (.refl _) (VLeL.cons (rats_le 3 q h) .nil))
theorem ckR_0 {A : Am} {n : Nat} {tk : Nat → Int} {qs : Nat → List Rat} (h : ∀ j, j < n → ck1 A tk qs j = 0) : ckR A n tk qs = 0 := by
  unfold ckR
  rw [if_pos (show (List.range n).all (ckB A tk qs) = true from List.all_eq_true.2 fun j hj => decide_eq_true (h j (List.mem_range.1 hj)))]
noncomputable def trG (m : Nat) (a : PV) (t : Int) : List Rat := hide (trF m a t)
noncomputable def vAtG (m : Nat) : Spec := fun args hs K => match args, hs with
  | [a, .i .i64 t], [] => .br (decP (PtrF m a t)) (K (.fr 3 (.rats 3000 (trG m a t))) []) (.no 1)
  | _, _ => .no 1
include hG in
theorem vAtG_ok (hT : TabG G) (m : Nat) : SpecOK Tryd.prog G 20 (vAtG m) := by
  have e : vAtG m = vAt m := by
    unfold vAtG vAt trG
    funext args hs K
    simp only [hide_eq] <;> rfl
  rw [e]
  exact vAt_ok hG hT m
def eqQ (xs ys : List Rat) : Prop := xs = ys ∧ xs.length ≤ 1000
noncomputable def vEq : Spec := fun args hs K => match args, hs with
  | [.lst 3 (.rats w xs), .lst 3 (.rats v ys)], [] => .br (decP (eqQ xs ys)) (K (.bl true) []) (.no 1)
  | _, _ => .no 1
include hG in
theorem vEq_ok : SpecOK Tryd.prog G 22 vEq := by
  intro args hs K x hh
  unfold vEq at hh
  split at hh
  case h_2 => cases hh
  rename_i w xs v ys
  obtain ⟨hc, hr⟩ := Tr.of_br hh
  obtain ⟨rfl, hl⟩ := decP_iff.1 hc
  have := ck19 hG [.lst 3 (.rats w xs), .lst 3 (.rats v xs)] [] K x (by
    show (Tr.br _ (Tr.br _ _ _) _).run = _
    rw [Tr.run_t (by simp only [Bool.and_eq_true, Nat.ble_eq]; omega), Tr.run_t (decide_eq_true rfl)]
    exact hr)
  exact this
end Go.Proofs.YtgaokohhkdeomaaDoor.PE
namespace Go.Proofs.YtgaokohhkdeomaaDoor.PE
open Go
set_option maxRecDepth 100000
variable {G : World → (Nat → Prop) → Prop} (hG : GOk G)
theorem eqQ_td {X Y : List Rat} (h : X = Y) (hl : X.length ≤ 1000) : decP (eqQ (List.take X.length (List.drop 0 X)) (List.take Y.length (List.drop 0 Y))) = true := by
  rw [List.drop_zero, List.drop_zero, List.take_length, List.take_length]
  exact decP_iff.2 ⟨h, hl⟩
theorem trG_C (m w n : Nat) (tk : Nat → Int) (qs : Nat → List Rat) (t : Int) : trG m (trC w n tk qs) t = at17 m n tk qs t := hide_eq _
end Go.Proofs.YtgaokohhkdeomaaDoor.PE
