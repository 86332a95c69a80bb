/-
  Part 4 of the proof: contracts of the program's functions. Conditions: those of the theorems below.
-/
import Derived.Test.YteggojnjinealaaGreatDoorCk3
import Derived.Test.YteggojnjinealaaGreatDoorCk2
set_option linter.all false
noncomputable section
namespace Go.Proofs.YteggojnjinealaaGreatDoor.PE
section
open Go Tryz
set_option maxRecDepth 100000
variable {G : World -> (Nat -> Prop) -> Prop} (hG : GOk G)
def i129 (Ly bs : List Int) (oy ly lb : Nat) (n m i w q k : Int) : LS := ⟨[.sl 0 1 oy ly, .i .i64 n, .i .i64 m, .sl 1 1 0 lb, .i .i64 i, .i .u64 w, .sl 0 1 oy ly, .i .i64 q, .i .i64 i, .i .i64 k], [some ⟨1, .ints .u64 Ly⟩, some ⟨1, .ints .u8 bs⟩]⟩
theorem q129i (Ly bs : List Int) (oy ly lb : Nat) (n m i w q k : Int) : qh prog [] [] pol129 f149.ntmps 0 [6, 7, 8, 9, 10, 11, 72, 73, 74, 79] b129i (i129 Ly bs oy ly lb n m i w q k) =
 Tr.br (decide (k < 8)) (.br (ib ((ly : Int) - 1)) (.br (ib ((ly : Int) - 1 - i)) (.br (ib ((8 : Int) * ((ly : Int) - 1 - i))) (.br (ib ((8 : Int) * ((ly : Int) - 1 - i) + k)) (.br (ib ((8 : Int) * k)) (.br (ib ((56 : Int) - 8 * k)) (.br (decide ((0 : Int) <= 56 - 8 * k)) (.br (ix ((8 : Int) * ((ly : Int) - 1 - i) + k) ((lb : Int))) (.br (((0 : Nat) + ((8 : Int) * ((ly : Int) - 1 - i) + k).toNat + 1).ble bs.length) (.br (ib (k + 1)) (.ok (.out .normal (LS.mk [.sl 0 1 oy ly, .i .i64 n, .i .i64 m, .sl 1 1 0 lb, .i .i64 i, .i .u64 w, .sl 0 1 oy ly, .i .i64 q, .i .i64 i, .i .i64 (k + 1)] [some (.mk 1 (.ints .u64 Ly)), some (.mk 1 (.ints .u8 (bs.set ((0 : Nat) + ((8 : Int) * ((ly : Int) - 1 - i) + k).toNat) (IntKind.u8.wrap (w.fdiv ((2 : Int) ^ min ((56 : Int) - 8 * k).toNat IntKind.u64.bits))))))]))) (.no 21002)) (.no 20001)) (.no 20002)) (.no 20004)) (.no 20005)) (.no 20006)) (.no 20009)) (.no 20011)) (.no 20012)) (.no 20014)) (.ok (.out (.exit 4) (LS.mk [.sl 0 1 oy ly, .i .i64 n, .i .i64 m, .sl 1 1 0 lb, .i .i64 i, .i .u64 w, .sl 0 1 oy ly, .i .i64 q, .i .i64 i, .i .i64 k] [some (.mk 1 (.ints .u64 Ly)), some (.mk 1 (.ints .u8 bs))]))) := by kernel_rfl
def o129 (Ly bs : List Int) (oy ly lb : Nat) (n m q i : Int) : LS := ⟨[.sl 0 1 oy ly, .i .i64 n, .i .i64 m, .sl 1 1 0 lb, .sl 0 1 oy ly, .i .i64 q, .i .i64 i], [some ⟨1, .ints .u64 Ly⟩, some ⟨1, .ints .u8 bs⟩]⟩
def byS (ly Y i w k : Nat) : List Int := (pd 256 (8 * ly) (Y % 18446744073709551616 ^ i + w / 256 ^ (8 - k) * 256 ^ (8 - k) * 18446744073709551616 ^ i)).reverse
def Q129i (Ly bs R : List Int) (oy ly lb : Nat) (i w q k : Int) : Prop := ∃ Y j v : Nat, i = (j : Int) /\ w = (v : Int) /\ v < 18446744073709551616 /\ j < ly /\ ly <= 65536 /\ lb = 8 * ly /\ k = 0 /\ bs = byS ly Y j v 0 /\ R = byS ly Y j v 8
def l129i (R : List Int) : qy := fun ls K => match ls with
 | ⟨[.sl 0 1 oy ly, .i .i64 n, .i .i64 m, .sl 1 1 0 lb, .i .i64 i, .i .u64 w, .sl 0 1 oy' ly', .i .i64 q, .i .i64 i', .i .i64 k], [some ⟨1, .ints .u64 Ly⟩, some ⟨1, .ints .u8 bs⟩]⟩ =>
  .br (qg (Q129i Ly bs R oy ly lb i w q k /\ oy' = oy /\ ly' = ly /\ i' = i)) (K (.exit 4) (i129 Ly R oy ly lb n m i w q 8)) (.no 1)
 | _ => .no 1
theorem q129o (Ly bs R : List Int) (oy ly lb : Nat) (n m q i : Int) : qh prog [] [(17, l129i R)] pol129 f149.ntmps 0 [6, 7, 8, 9, 72, 73, 74] b129o (o129 Ly bs oy ly lb n m q i) =
 Tr.br (decide (i < q)) (.br (ix (i) ((ly : Int))) (.br ((oy + i.toNat + 1).ble Ly.length) (.br (qg (Q129i Ly bs R oy ly lb i (Ly.getD (oy + i.toNat) (0 : Int)) q (0 : Int) /\ oy = oy /\ ly = ly /\ i = i)) (.br (ib (i + 1)) (.ok (.out .normal (LS.mk [.sl 0 1 oy ly, .i .i64 n, .i .i64 m, .sl 1 1 0 lb, .sl 0 1 oy ly, .i .i64 q, .i .i64 (i + 1)] [some (.mk 1 (.ints .u64 Ly)), some (.mk 1 (.ints .u8 R))]))) (.no 22002)) (.no 1)) (.no 16003)) (.no 16004)) (.ok (.out (.exit 2) (LS.mk [.sl 0 1 oy ly, .i .i64 n, .i .i64 m, .sl 1 1 0 lb, .sl 0 1 oy ly, .i .i64 q, .i .i64 i] [some (.mk 1 (.ints .u64 Ly)), some (.mk 1 (.ints .u8 bs))]))) := by kernel_rfl
theorem pd256_set {L N j b : Nat} (hj : j < L) (hb : b < 256) (hN : N < 256 ^ L) (h0 : N / 256 ^ j % 256 = 0) : (pd 256 L N).set j ((b : Nat) : Int) = pd 256 L (N + b * 256 ^ j) := by
 have hD : ∀ x ∈ (pd 256 L N).set j ((b : Nat) : Int), 0 <= x /\ x < ((256 : Nat) : Int) := by
  intro x hx
  rcases List.mem_or_eq_of_mem_set hx with h | h
  ·exact pd_mem (by omega) x h
  ·rw [h]; omega
 have h1 := pd_lv (B := 256) (by omega) hD
 rw [List.length_set, qm] at h1
 rw [<- h1]
 congr 1
 have := lv_set 256 (pd 256 L N) j ((b : Nat) : Int) (by rw [qm]; exact hj)
 rw [pd_getD hj, h0, lv_pd (by omega) _ _ hN] at this
 simpa using this
theorem byS_step {ly Y i w k : Nat} (hi : i < ly) (hk : k < 8) (hw : w < 18446744073709551616) : (byS ly Y i w k).set (8 * (ly - 1 - i) + k) ((w / 256 ^ (7 - k) % 256 : Nat) : Int) = byS ly Y i w (k + 1) := by
 have hE : (18446744073709551616 : Nat) ^ i = 256 ^ (8 * i) := by rw [Nat.pow_mul]
 have hP : 0 < 256 ^ (8 * i) := Nat.pow_pos (by omega)
 have hA : Y % 256 ^ (8 * i) < 256 ^ (8 * i) := Nat.mod_lt _ hP
 unfold byS
 rw [hE, rev_set _ _ _ (by rw [qm]; omega), qm, show 8 * ly - 1 - (8 * (ly - 1 - i) + k) = 8 * i + (7 - k) by omega]
 have e1 : w / 256 ^ (8 - k) = w / 256 ^ (7 - k) / 256 := by rw [Nat.div_div_eq_div_mul, <- Nat.pow_succ, show (7 - k).succ = 8 - k by omega]
 have hp7 : 256 ^ (8 - k) = 256 * 256 ^ (7 - k) := by rw [<- Nat.pow_succ', show (7 - k).succ = 8 - k by omega]
 have hT : w / 256 ^ (8 - k) * 256 ^ (8 - k) <= w := Nat.div_mul_le_self _ _
 have hN : Y % 256 ^ (8 * i) + w / 256 ^ (8 - k) * 256 ^ (8 - k) * 256 ^ (8 * i) < 256 ^ (8 * ly) := by
  have h1 : 256 ^ (8 * (i + 1)) <= 256 ^ (8 * ly) := Nat.pow_le_pow_right (by omega) (by omega)
  have h2 : 256 ^ (8 * (i + 1)) = 18446744073709551616 * 256 ^ (8 * i) := by rw [show 8 * (i + 1) = 8 + 8 * i by omega, Nat.pow_add]
  have h3 := Nat.mul_le_mul_right (256 ^ (8 * i)) (show w / 256 ^ (8 - k) * 256 ^ (8 - k) + 1 <= 18446744073709551616 by omega)
  rw [Nat.add_mul, Nat.one_mul] at h3
  omega
 have h0 : (Y % 256 ^ (8 * i) + w / 256 ^ (8 - k) * 256 ^ (8 - k) * 256 ^ (8 * i)) / 256 ^ (8 * i + (7 - k)) % 256 = 0 := by
  rw [Nat.pow_add, <- Nat.div_div_eq_div_mul, Nat.add_mul_div_right _ _ hP, Nat.div_eq_of_lt hA, Nat.zero_add, hp7, <- Nat.mul_assoc, Nat.mul_div_cancel _ (Nat.pow_pos (by omega)), Nat.mul_mod_left]
 rw [pd256_set (by omega) (Nat.mod_lt _ (by omega)) hN h0]
 congr 2
 have e2 : w / 256 ^ (8 - (k + 1)) = w / 256 ^ (7 - k) := by rw [show 8 - (k + 1) = 7 - k by omega]
 rw [e2, show 8 - (k + 1) = 7 - k by omega, e1, hp7, Nat.pow_add]
 have dm := Nat.div_add_mod (w / 256 ^ (7 - k)) 256
 generalize w / 256 ^ (7 - k) = W at *
 generalize 256 ^ (7 - k) = p at *
 generalize 256 ^ (8 * i) = P at *
 have : W * p * P = W / 256 * (256 * p) * P + W % 256 * (P * p) := by
  rw [show W / 256 * (256 * p) * P = 256 * (W / 256) * (P * p) by rw [Nat.mul_left_comm (W / 256), Nat.mul_assoc 256, Nat.mul_assoc 256, Nat.mul_assoc (W / 256), Nat.mul_comm p P], <- Nat.add_mul, dm, Nat.mul_assoc, Nat.mul_comm p P]
 omega
theorem byS_len {ly Y i w k : Nat} : (byS ly Y i w k).length = 8 * ly := by unfold byS; rw [List.length_reverse, qm]
include hG in
theorem loop129i (R : List Int) : qw prog G f149.ntmps 0 [6, 7, 8, 9, 10, 11, 72, 73, 74, 79] b129i (l129i R) := by
 intro ls K x hm h
 unfold l129i at h
 split at h
 case h_2 => cases h
 rename_i oy ly n m lb i w oy' ly' q i' k Ly bs
 obtain ⟨hc, hr⟩ := k8 h
 obtain ⟨⟨Y, j, v, rfl, rfl, hv, hj, hl, rfl, rfl, rfl, rfl⟩, rfl, rfl, rfl⟩ := decP_iff.1 hc
 have g := Goes.count (R := Rnd prog G f149.ntmps 0 [6, 7, 8, 9, 10, 11, 72, 73, 74, 79] b129i) (fun k => i129 Ly (byS ly' Y j v k) oy' ly' (8 * ly') n m (j : Nat) (v : Nat) q ((k : Nat) : Int)) (e := .exit 4) (ls' := i129 Ly (byS ly' Y j v 8) oy' ly' (8 * ly') n m (j : Nat) (v : Nat) q 8) (by simp) 8 0
  (fun k _ hk => by
   refine qb hG OrcOK.nil mix (L := []) (pol := pol129) (O := []) (k9 (by kernel_rfl)) (Nat.zero_le _) ?_
   have e1 : 0 + ((8 : Int) * ((ly' : Int) - 1 - (j : Int)) + (k : Int)).toNat = 8 * (ly' - 1 - j) + k := by omega
   have e2 : min ((56 : Int) - 8 * (k : Int)).toNat IntKind.u64.bits = 8 * (7 - k) := by simp only [IntKind.bits]; omega
   have e3 : IntKind.u8.wrap (((v : Nat) : Int).fdiv ((2 : Int) ^ (8 * (7 - k)))) = ((v / 256 ^ (7 - k) % 256 : Nat) : Int) := by
    rw [fdiv_nat, IntKind.wrap_u8', Nat.pow_mul]; simp
   rw [q129i, e1, e2, e3, byS_step hj (by omega) hv]
   repeat rw [k5 (by simp only [kA, kD, kG, byS_len]; omega)]
   rw [k7]
   rfl)
  (by
   refine qb hG OrcOK.nil mix (L := []) (pol := pol129) (O := []) (k9 (by kernel_rfl)) (Nat.zero_le _) ?_
   rw [q129i, k6 (by decide), k7]
   rfl)
 exact ⟨_, _, qu g, hr⟩
include hG in
theorem lps129 {m : Nat} (hm : m = 0) (R : List Int) : LpsOK prog G pol129 f149.ntmps m [(17, l129i R)] b129o := by
 subst hm
 exact lps1 (b := b129i) (live := [6, 7, 8, 9, 10, 11, 72, 73, 74, 79]) (sp := l129i R) (by kernel_rfl) (by kernel_rfl) (by kernel_rfl) (loop129i hG R)
def byV (ly V : Nat) : List Int := (pd 256 (8 * ly) V).reverse
def Q129o (Ly bs R : List Int) (oy ly lb : Nat) (q i : Int) : Prop := ∃ Y, Nm Ly oy ly Y /\ lb = 8 * ly /\ q = (ly : Int) /\ i = 0 /\ bs = List.replicate (8 * ly) 0 /\ R = byV ly Y
def l129o (R : List Int) : qy := fun ls K => match ls with
 | ⟨[.sl 0 1 oy ly, .i .i64 n, .i .i64 m, .sl 1 1 0 lb, .sl 0 1 oy' ly', .i .i64 q, .i .i64 i], [some ⟨1, .ints .u64 Ly⟩, some ⟨1, .ints .u8 bs⟩]⟩ =>
  .br (qg (Q129o Ly bs R oy ly lb q i /\ oy' = oy /\ ly' = ly)) (K (.exit 2) (o129 Ly R oy ly lb n m q q)) (.no 1)
 | _ => .no 1
include hG in
theorem loop129o (R : List Int) : qw prog G f149.ntmps 0 [6, 7, 8, 9, 72, 73, 74] b129o (l129o R) := by
 intro ls K x hm h
 unfold l129o at h
 split at h
 case h_2 => cases h
 rename_i oy ly n m lb oy' ly' q i Ly bs
 obtain ⟨hc, hr⟩ := k8 h
 obtain ⟨⟨Y, hy, rfl, rfl, rfl, rfl, rfl⟩, rfl, rfl⟩ := decP_iff.1 hc
 have yo := hy.ho
 have ys := hy.hs
 have ylt := hy.lt
 have g := Goes.count (R := Rnd prog G f149.ntmps 0 [6, 7, 8, 9, 72, 73, 74] b129o) (fun i => o129 Ly (byV ly' (Y % 18446744073709551616 ^ i)) oy' ly' (8 * ly') n m (ly' : Nat) ((i : Nat) : Int)) (e := .exit 2) (ls' := o129 Ly (byV ly' Y) oy' ly' (8 * ly') n m (ly' : Nat) (ly' : Nat)) (by simp) ly' 0
  (fun i _ hi => by
   refine qb hG OrcOK.nil mix (L := [(17, l129i (byV ly' (Y % 18446744073709551616 ^ (i + 1))))]) (pol := pol129) (O := []) (lps129 hG rfl _) (Nat.zero_le _) ?_
   have hd : Ly.getD (oy' + i) 0 = ((Y / 18446744073709551616 ^ i % 18446744073709551616 : Nat) : Int) := by
    have e1 := hy.lst
    have e2 := pd_dg (B := 18446744073709551616) (n := Y) (by omega)
    rw [<- hy.len] at e2
    rw [<- e2] at e1
    have e3 := pd_getD (B := 18446744073709551616) (L := ly') (n := Y) (j := i) (by omega)
    rw [<- e1, List.getD_eq_getElem?_getD, List.getElem?_take_of_lt (by omega), List.getElem?_drop, <- List.getD_eq_getElem?_getD] at e3
    exact e3
   have hw : Y / 18446744073709551616 ^ i % 18446744073709551616 < 18446744073709551616 := Nat.mod_lt _ (by omega)
   have b0 : byV ly' (Y % 18446744073709551616 ^ i) = byS ly' Y i (Y / 18446744073709551616 ^ i % 18446744073709551616) 0 := by
    unfold byV byS
    rw [show Y / 18446744073709551616 ^ i % 18446744073709551616 / 256 ^ (8 - 0) = 0 from Nat.div_eq_of_lt (by omega)]
    simp
   have b8 : byV ly' (Y % 18446744073709551616 ^ (i + 1)) = byS ly' Y i (Y / 18446744073709551616 ^ i % 18446744073709551616) 8 := by
    unfold byV byS
    rw [Nat.sub_self, Nat.pow_zero, Nat.div_one, Nat.mul_one, Nat.mod_pow_succ, Nat.mul_comm (18446744073709551616 ^ i)]
   rw [q129o, Int.toNat_natCast, hd]
   rw [k5 (kE (by omega)), k5 (by simp only [kA, kD]; omega), k5 (by rw [kG]; omega), k5 (decP_iff.2 ⟨⟨Y, i, _, rfl, rfl, hw, by omega, by omega, rfl, rfl, b0, b8⟩, rfl, rfl, rfl⟩), k5 (by simp only [kA, kD]; omega), k7]
   rfl)
  (by
   refine qb hG OrcOK.nil mix (L := [(17, l129i [])]) (pol := pol129) (O := []) (lps129 hG rfl _) (Nat.zero_le _) ?_
   rw [Nat.zero_add, Nat.mod_eq_of_lt ylt, q129o, k6 (kF (by omega)), k7]
   rfl)
 have e0 : byV ly' (Y % 18446744073709551616 ^ 0) = List.replicate (8 * ly') 0 := by
  unfold byV
  rw [Nat.pow_zero, Nat.mod_one, pd_zero, List.reverse_replicate]
 rw [e0] at g
 exact ⟨_, _, qu g, hr⟩
def v77 (r : ByteArray) : Spec := fun args hs K => match args, hs with
 | [.s a, .s b], [] => .br (qg (bz a = true /\ bz b = true /\ r = nb (bv a.data.toList * bv b.data.toList))) (K (.s r) []) (.no 1)
 | _, _ => .no 1
include hG in
theorem vk77 (r : ByteArray) : qc prog G 60 (v77 r) := by
 intro args hs K x h
 unfold v77 at h
 split at h
 case h_2 => cases h
 obtain ⟨hc, hr⟩ := k8 h
 obtain ⟨h1, h2, rfl⟩ := decP_iff.1 hc
 refine gk77 hG _ _ K x ?_
 show (Tr.br _ _ _).run = _
 rw [k5 (by rw [h1, h2]; rfl)]
 exact hr
def rR (L : List Int) (o l : Nat) (k : Int) : List Int := hide (stE (o + k.toNat / 64) (l - k.toNat / 64) L (qK o l L / 2 ^ k.toNat))
def rO (o : Nat) (k : Int) : Nat := hide (o + k.toNat / 64)
def rN (L : List Int) (o l : Nat) (k : Int) : Nat := hide (dg 18446744073709551616 (qK o l L / 2 ^ k.toNat)).length
def D138 (L : List Int) (o l : Nat) (k : Int) : Prop := 0 <= k /\ k < 1000000000 /\ isE L /\ o + l <= L.length /\ L.length <= 1073741824 /\ k.toNat / 64 <= l
def h138 : Spec := fun args hs K => match args, hs with
 | [.sl 0 1 o l, .i .i64 k], [⟨1, .ints .u64 L⟩] => .br (qg (D138 L o l k)) (K (.sl 0 1 (rO o k) (rN L o l k)) [⟨1, .ints .u64 (rR L o l k)⟩]) (.no 1)
 | _, _ => .no 1
include hG in
theorem hk138 : qc prog G 183 h138 := by
 intro args hs K x h
 unfold h138 at h
 split at h
 case h_2 => cases h
 rename_i o l k L
 obtain ⟨hc, hr⟩ := k8 h
 obtain ⟨h1, h2, h3, h4, h5, h6⟩ := decP_iff.1 hc
 refine gk138 hG (rR L o l k) (rO o k) (rN L o l k) _ _ K x ?_
 show (Tr.br _ _ _).run = _
 rw [k5 (decP_iff.2 ?_)]
 ·exact hr
 ·refine ⟨k.toNat, by omega, by omega, h3, h4, h5, h6, ?_, ?_, ?_⟩
  ·unfold rO; rw [qe]
  ·unfold rR; rw [qe]
  ·unfold rN; rw [qe]
def P129 (r : ByteArray) : Orc := [(60, v77 r), (148, s128), (181, g136), (182, g137), (183, h138), (184, g139 true), (185, g140 [] 0)]
theorem p129 (a b r : ByteArray) (Sx : List Int) (ox lx : Nat) (Sy : List Int) (oy ly : Nat) (n m : Int) (Fx : List Int) (px nx : Nat) (Fy : List Int) (py ny : Nat) (R : List Int) : evF prog (P129 r) [(4, qI (t129 Sx ox lx Sy oy ly n m) (.exit 0) (t129 Fx px nx Fy py ny n m)), (14, l129o R), (17, lnoE)] pol129 f149 [.s a, .s b] [] ql =
 Tr.br (bz a) (.br (bz b) (.br ((0 + (lb a).length).ble (lb a).length) (.br (qg (Q137 (List.take (lb a).length (List.drop 0 (lb a))))) (.br ((0 + (lb b).length).ble (lb b).length) (.br (qg (Q137 (List.take (lb b).length (List.drop 0 (lb b))))) (.br (qg (D138 (lb a) (0 : Nat) (lb a).length (↑(evN (List.take (lb a).length (List.drop 0 (lb a)))) : Int))) (.br (qg (D138 (lb b) (0 : Nat) (lb b).length (↑(evN (List.take (lb b).length (List.drop 0 (lb b)))) : Int))) (.br (qg (isLS (LS.mk [.sl 0 1 ox lx, .sl 1 1 oy ly, .i .i64 n, .i .i64 m] [some (.mk 1 (.ints .u64 Sx)), some (.mk 1 (.ints .u64 Sy))]) (LS.mk [.sl 0 1 (rO (0 : Nat) (↑(evN (List.take (lb a).length (List.drop 0 (lb a)))) : Int)) (rN (lb a) (0 : Nat) (lb a).length (↑(evN (List.take (lb a).length (List.drop 0 (lb a)))) : Int)), .sl 1 1 (rO (0 : Nat) (↑(evN (List.take (lb b).length (List.drop 0 (lb b)))) : Int)) (rN (lb b) (0 : Nat) (lb b).length (↑(evN (List.take (lb b).length (List.drop 0 (lb b)))) : Int)), .i .i64 (↑(evN (List.take (lb a).length (List.drop 0 (lb a)))) : Int), .i .i64 (↑(evN (List.take (lb b).length (List.drop 0 (lb b)))) : Int)] [some (.mk 1 (.ints .u64 (rR (lb a) (0 : Nat) (lb a).length (↑(evN (List.take (lb a).length (List.drop 0 (lb a)))) : Int)))), some (.mk 1 (.ints .u64 (rR (lb b) (0 : Nat) (lb b).length (↑(evN (List.take (lb b).length (List.drop 0 (lb b)))) : Int))))]))) (.br (decide ((nx : Int) = 1)) (.br (decide ((ny : Int) = 1)) (.br (ix ((0 : Int)) ((nx : Int))) (.br ((px + Int.toNat 0 + 1).ble Fx.length) (.br (ix ((0 : Int)) ((ny : Int))) (.br ((py + Int.toNat 0 + 1).ble Fy.length) (.br (decide (0 <= Fx.getD (px + Int.toNat 0) (0 : Int)) && decide (0 <= Fy.getD (py + Int.toNat 0) (0 : Int))) (.br (ix ((0 : Int)) ((ny : Int))) (.br ((py + Int.toNat 0 + 1).ble Fy.length) (.br (ib ((8 : Int) * (ny : Int))) (.br (decide ((8 : Int) * (ny : Int) = 8 * (ny : Int)) && decide ((0 : Int) <= 8 * (ny : Int)) && decide ((8 : Int) * (ny : Int) <= 4294967296) && prog.types[(5 : Nat)].bytes.ble 1024) (.br (qg (Q129o (Fy.set (py + Int.toNat 0) (↑((Fx.getD (px + Int.toNat 0) (0 : Int)).toNat.gcd (Fy.getD (py + Int.toNat 0) (0 : Int)).toNat) : Int)) (List.replicate ((8 : Int) * (ny : Int)).toNat (0 : Int)) R py ny ((8 : Int) * (ny : Int)).toNat (ny : Int) (0 : Int) /\ py = py /\ ny = ny)) (.br (!decide ((8 : Int) = 0) && (ib ((if m < n then m else n).tdiv (8 : Int)))) (.br (ib ((if m < n then m else n).tdiv (8 : Int) + 1)) (.br (decide ((if m < n then m else n).tdiv (8 : Int) + 1 = (if m < n then m else n).tdiv (8 : Int) + 1) && decide (0 <= (if m < n then m else n).tdiv (8 : Int) + 1) && decide ((if m < n then m else n).tdiv (8 : Int) + 1 <= 4294967296) && prog.types[(5 : Nat)].bytes.ble 1024) (.br (!decide ((8 : Int) = 0)) (.br (decide (0 <= (if m < n then m else n).tmod (8 : Int))) (.br (ix ((0 : Int)) ((↑((if m < n then m else n).tdiv (8 : Int) + 1).toNat : Int))) (.br ((0 + Int.toNat 0 + 1).ble (List.replicate ((if m < n then m else n).tdiv (8 : Int) + 1).toNat (0 : Int)).length) (.br (((0 : Nat) + ((8 : Int) * (ny : Int)).toNat).ble R.length) (.br ((0 + ((if m < n then m else n).tdiv (8 : Int) + 1).toNat).ble ((List.replicate ((if m < n then m else n).tdiv (8 : Int) + 1).toNat (0 : Int)).set (0 + Int.toNat 0) (IntKind.u8.wrap ((1 : Int) * 2 ^ min ((if m < n then m else n).tmod (8 : Int)).toNat IntKind.u8.bits))).length) (.br (qg (bz (ByteArray.mk (List.map (fun (n : Int) => UInt8.ofNat n.toNat) (List.take ((8 : Int) * (ny : Int)).toNat (List.drop 0 R))).toArray) = true /\ bz (ByteArray.mk (List.map (fun (n : Int) => UInt8.ofNat n.toNat) (List.take ((if m < n then m else n).tdiv (8 : Int) + 1).toNat (List.drop 0 ((List.replicate ((if m < n then m else n).tdiv (8 : Int) + 1).toNat (0 : Int)).set (0 + Int.toNat 0) (IntKind.u8.wrap ((1 : Int) * 2 ^ min ((if m < n then m else n).tmod (8 : Int)).toNat IntKind.u8.bits)))))).toArray) = true /\ r = nb (bv (List.map (fun (n : Int) => UInt8.ofNat n.toNat) (List.take ((8 : Int) * (ny : Int)).toNat (List.drop 0 R))).toArray.toList * bv (List.map (fun (n : Int) => UInt8.ofNat n.toNat) (List.take ((if m < n then m else n).tdiv (8 : Int) + 1).toNat (List.drop 0 ((List.replicate ((if m < n then m else n).tdiv (8 : Int) + 1).toNat (0 : Int)).set (0 + Int.toNat 0) (IntKind.u8.wrap ((1 : Int) * 2 ^ min ((if m < n then m else n).tmod (8 : Int)).toNat IntKind.u8.bits)))))).toArray.toList))) (.ok (.ret (.s r) [])) (.no 1)) (.no 26003)) (.no 26005)) (.no 25001)) (.no 25002)) (.no 25003)) (.no 25004)) (.no 24002)) (.no 24003)) (.no 24004)) (.no 1)) (.no 13002)) (.no 13003)) (.no 12001)) (.no 12002)) (.no 1)) (.no 12004)) (.no 12005)) (.no 12007)) (.no 12008)) (.br (ib ((8 : Int) * (ny : Int))) (.br (decide ((8 : Int) * (ny : Int) = 8 * (ny : Int)) && decide ((0 : Int) <= 8 * (ny : Int)) && decide ((8 : Int) * (ny : Int) <= 4294967296) && prog.types[(5 : Nat)].bytes.ble 1024) (.br (qg (Q129o Fy (List.replicate ((8 : Int) * (ny : Int)).toNat (0 : Int)) R py ny ((8 : Int) * (ny : Int)).toNat (ny : Int) (0 : Int) /\ py = py /\ ny = ny)) (.br (!decide ((8 : Int) = 0) && (ib ((if m < n then m else n).tdiv (8 : Int)))) (.br (ib ((if m < n then m else n).tdiv (8 : Int) + 1)) (.br (decide ((if m < n then m else n).tdiv (8 : Int) + 1 = (if m < n then m else n).tdiv (8 : Int) + 1) && decide (0 <= (if m < n then m else n).tdiv (8 : Int) + 1) && decide ((if m < n then m else n).tdiv (8 : Int) + 1 <= 4294967296) && prog.types[(5 : Nat)].bytes.ble 1024) (.br (!decide ((8 : Int) = 0)) (.br (decide (0 <= (if m < n then m else n).tmod (8 : Int))) (.br (ix ((0 : Int)) ((↑((if m < n then m else n).tdiv (8 : Int) + 1).toNat : Int))) (.br ((0 + Int.toNat 0 + 1).ble (List.replicate ((if m < n then m else n).tdiv (8 : Int) + 1).toNat (0 : Int)).length) (.br (((0 : Nat) + ((8 : Int) * (ny : Int)).toNat).ble R.length) (.br ((0 + ((if m < n then m else n).tdiv (8 : Int) + 1).toNat).ble ((List.replicate ((if m < n then m else n).tdiv (8 : Int) + 1).toNat (0 : Int)).set (0 + Int.toNat 0) (IntKind.u8.wrap ((1 : Int) * 2 ^ min ((if m < n then m else n).tmod (8 : Int)).toNat IntKind.u8.bits))).length) (.br (qg (bz (ByteArray.mk (List.map (fun (n : Int) => UInt8.ofNat n.toNat) (List.take ((8 : Int) * (ny : Int)).toNat (List.drop 0 R))).toArray) = true /\ bz (ByteArray.mk (List.map (fun (n : Int) => UInt8.ofNat n.toNat) (List.take ((if m < n then m else n).tdiv (8 : Int) + 1).toNat (List.drop 0 ((List.replicate ((if m < n then m else n).tdiv (8 : Int) + 1).toNat (0 : Int)).set (0 + Int.toNat 0) (IntKind.u8.wrap ((1 : Int) * 2 ^ min ((if m < n then m else n).tmod (8 : Int)).toNat IntKind.u8.bits)))))).toArray) = true /\ r = nb (bv (List.map (fun (n : Int) => UInt8.ofNat n.toNat) (List.take ((8 : Int) * (ny : Int)).toNat (List.drop 0 R))).toArray.toList * bv (List.map (fun (n : Int) => UInt8.ofNat n.toNat) (List.take ((if m < n then m else n).tdiv (8 : Int) + 1).toNat (List.drop 0 ((List.replicate ((if m < n then m else n).tdiv (8 : Int) + 1).toNat (0 : Int)).set (0 + Int.toNat 0) (IntKind.u8.wrap ((1 : Int) * 2 ^ min ((if m < n then m else n).tmod (8 : Int)).toNat IntKind.u8.bits)))))).toArray.toList))) (.ok (.ret (.s r) [])) (.no 1)) (.no 26003)) (.no 26005)) (.no 25001)) (.no 25002)) (.no 25003)) (.no 25004)) (.no 24002)) (.no 24003)) (.no 24004)) (.no 1)) (.no 13002)) (.no 13003))) (.br (ib ((8 : Int) * (ny : Int))) (.br (decide ((8 : Int) * (ny : Int) = 8 * (ny : Int)) && decide ((0 : Int) <= 8 * (ny : Int)) && decide ((8 : Int) * (ny : Int) <= 4294967296) && prog.types[(5 : Nat)].bytes.ble 1024) (.br (qg (Q129o Fy (List.replicate ((8 : Int) * (ny : Int)).toNat (0 : Int)) R py ny ((8 : Int) * (ny : Int)).toNat (ny : Int) (0 : Int) /\ py = py /\ ny = ny)) (.br (!decide ((8 : Int) = 0) && (ib ((if m < n then m else n).tdiv (8 : Int)))) (.br (ib ((if m < n then m else n).tdiv (8 : Int) + 1)) (.br (decide ((if m < n then m else n).tdiv (8 : Int) + 1 = (if m < n then m else n).tdiv (8 : Int) + 1) && decide (0 <= (if m < n then m else n).tdiv (8 : Int) + 1) && decide ((if m < n then m else n).tdiv (8 : Int) + 1 <= 4294967296) && prog.types[(5 : Nat)].bytes.ble 1024) (.br (!decide ((8 : Int) = 0)) (.br (decide (0 <= (if m < n then m else n).tmod (8 : Int))) (.br (ix ((0 : Int)) ((↑((if m < n then m else n).tdiv (8 : Int) + 1).toNat : Int))) (.br ((0 + Int.toNat 0 + 1).ble (List.replicate ((if m < n then m else n).tdiv (8 : Int) + 1).toNat (0 : Int)).length) (.br (((0 : Nat) + ((8 : Int) * (ny : Int)).toNat).ble R.length) (.br ((0 + ((if m < n then m else n).tdiv (8 : Int) + 1).toNat).ble ((List.replicate ((if m < n then m else n).tdiv (8 : Int) + 1).toNat (0 : Int)).set (0 + Int.toNat 0) (IntKind.u8.wrap ((1 : Int) * 2 ^ min ((if m < n then m else n).tmod (8 : Int)).toNat IntKind.u8.bits))).length) (.br (qg (bz (ByteArray.mk (List.map (fun (n : Int) => UInt8.ofNat n.toNat) (List.take ((8 : Int) * (ny : Int)).toNat (List.drop 0 R))).toArray) = true /\ bz (ByteArray.mk (List.map (fun (n : Int) => UInt8.ofNat n.toNat) (List.take ((if m < n then m else n).tdiv (8 : Int) + 1).toNat (List.drop 0 ((List.replicate ((if m < n then m else n).tdiv (8 : Int) + 1).toNat (0 : Int)).set (0 + Int.toNat 0) (IntKind.u8.wrap ((1 : Int) * 2 ^ min ((if m < n then m else n).tmod (8 : Int)).toNat IntKind.u8.bits)))))).toArray) = true /\ r = nb (bv (List.map (fun (n : Int) => UInt8.ofNat n.toNat) (List.take ((8 : Int) * (ny : Int)).toNat (List.drop 0 R))).toArray.toList * bv (List.map (fun (n : Int) => UInt8.ofNat n.toNat) (List.take ((if m < n then m else n).tdiv (8 : Int) + 1).toNat (List.drop 0 ((List.replicate ((if m < n then m else n).tdiv (8 : Int) + 1).toNat (0 : Int)).set (0 + Int.toNat 0) (IntKind.u8.wrap ((1 : Int) * 2 ^ min ((if m < n then m else n).tmod (8 : Int)).toNat IntKind.u8.bits)))))).toArray.toList))) (.ok (.ret (.s r) [])) (.no 1)) (.no 26003)) (.no 26005)) (.no 25001)) (.no 25002)) (.no 25003)) (.no 25004)) (.no 24002)) (.no 24003)) (.no 24004)) (.no 1)) (.no 13002)) (.no 13003))) (.no 1)) (.no 1)) (.no 1)) (.no 1)) (.no 3003)) (.no 1)) (.no 3005)) (.no 1)) (.no 1) := by kernel_rfl
theorem right_ok {L : List Int} {o l A : Nat} (hE : isE L) (ho : o + l <= L.length) (hs : L.length <= 16000) (hv : qK o l L = A) (h0 : A ≠ 0) :
  D138 L o l ((ev2 A : Nat) : Int) /\ Nm (rR L o l ((ev2 A : Nat) : Int)) (rO o ((ev2 A : Nat) : Int)) (rN L o l ((ev2 A : Nat) : Int)) (A / 2 ^ ev2 A) /\ A / 2 ^ ev2 A % 2 = 1 := by
 have hlt : A < 18446744073709551616 ^ l := by rw [<- hv]; exact segE_lt hE o l
 obtain ⟨v1, v2, v3⟩ := ev2_lt h0 hlt
 have hVlt : A / 2 ^ ev2 A < 18446744073709551616 ^ (l - ev2 A / 64) := by
  rw [Nat.div_lt_iff_lt_mul (Nat.pow_pos (by omega))]
  have e64 : 18446744073709551616 ^ (ev2 A / 64) <= 2 ^ ev2 A := by
   have : 18446744073709551616 ^ (ev2 A / 64) = 2 ^ (64 * (ev2 A / 64)) := by rw [Nat.pow_mul]
   rw [this]
   exact Nat.pow_le_pow_right (by omega) (by omega)
  have h3 := Nat.mul_le_mul_left (18446744073709551616 ^ (l - ev2 A / 64)) e64
  rw [<- Nat.pow_add, show l - ev2 A / 64 + ev2 A / 64 = l by omega] at h3
  omega
 have ho2 : o + ev2 A / 64 + (l - ev2 A / 64) <= L.length := by omega
 have hR2E : isE (stE (o + ev2 A / 64) (l - ev2 A / 64) L (A / 2 ^ ev2 A)) := isE_stE hE
 have hR2l := stE_len (v := A / 2 ^ ev2 A) ho2
 have hR2s := segE_stE (v := A / 2 ^ ev2 A) ho2 hVlt
 obtain ⟨f1, f2⟩ := segE_dg hR2E (o := o + ev2 A / 64) (n := l - ev2 A / 64) (by rw [hR2l]; exact ho2)
 rw [hR2s] at f1 f2
 refine ⟨⟨by omega, by omega, hE, ho, by omega, by omega⟩, ?_, v3⟩
 unfold rR rO rN
 rw [qe, qe, qe, Int.toNat_natCast, hv]
 exact ⟨hR2E, by rw [hR2l]; omega, by rw [hR2l]; exact hs, f2, rfl⟩
theorem gcd_halves {A B : Nat} (hA : A ≠ 0) (hB : B ≠ 0) : Nat.gcd (A / 2 ^ ev2 A) (B / 2 ^ ev2 B) * 2 ^ (min (ev2 A) (ev2 B)) = Nat.gcd A B := by
 obtain ⟨m, hm⟩ := ev2_spec hA
 obtain ⟨k, hk⟩ := ev2_spec hB
 have pa : 0 < 2 ^ ev2 A := Nat.pow_pos (by omega)
 have pb : 0 < 2 ^ ev2 B := Nat.pow_pos (by omega)
 have ea : A / 2 ^ ev2 A = 2 * m + 1 := by
  generalize 2 ^ ev2 A = p at *
  rw [hm, Nat.mul_div_cancel_left _ pa]
 have eb : B / 2 ^ ev2 B = 2 * k + 1 := by
  generalize 2 ^ ev2 B = p at *
  rw [hk, Nat.mul_div_cancel_left _ pb]
 rw [ea, eb]
 generalize ev2 A = x at *
 generalize ev2 B = y at *
 have odd : ∀ (e q r : Nat), r % 2 = 1 -> Nat.gcd (2 ^ e * q) r = Nat.gcd q r := by
  intro e q r hr
  have := gcd_odd_part (D := 2 ^ e * q) (B := r) (e := e) hr ⟨q, rfl⟩
  rw [Nat.mul_div_cancel_left _ (Nat.pow_pos (by omega))] at this
  exact this.symm
 rw [hm, hk]
 rcases Nat.le_total x y with h | h
 ·obtain ⟨d, rfl⟩ : ∃ d, y = x + d := ⟨y - x, by omega⟩
  rw [Nat.min_eq_left h, Nat.pow_add, Nat.mul_assoc (2 ^ x), Nat.gcd_mul_left, Nat.gcd_comm (2 * m + 1) (2 ^ d * _), odd d (2 * k + 1) (2 * m + 1) (by omega), Nat.gcd_comm, Nat.mul_comm]
 ·obtain ⟨d, rfl⟩ : ∃ d, x = y + d := ⟨x - y, by omega⟩
  rw [Nat.min_eq_right h, Nat.pow_add, Nat.mul_assoc (2 ^ y), Nat.gcd_mul_left, odd d (2 * m + 1) (2 * k + 1) (by omega), Nat.mul_comm]
def hz (a : ByteArray) : Bool := decide (a.size <= 100000)
theorem hz_iff {a : ByteArray} : hz a = true ↔ a.size <= 100000 := by simp [hz]
theorem lb_eq (a : ByteArray) : lb a = pd 18446744073709551616 ((a.size + 7) / 8) (bv a.data.toList) := qe _
theorem lb_len (a : ByteArray) : (lb a).length = (a.size + 7) / 8 := by rw [lb_eq, qm]
theorem lb_val (a : ByteArray) : lv 18446744073709551616 (lb a) = bv a.data.toList := by
 rw [lb_eq, lv_pd (by omega)]
 have h := bv_lt a.data.toList
 rw [ba_len] at h
 have : (18446744073709551616 : Nat) ^ ((a.size + 7) / 8) = 256 ^ (8 * ((a.size + 7) / 8)) := by rw [Nat.pow_mul]
 rw [this]
 exact Nat.lt_of_lt_of_le h (Nat.pow_le_pow_right (by omega) (by omega))
theorem isE_lb (a : ByteArray) : isE (lb a) := by rw [lb_eq]; exact isE_pd _ _
theorem bv_power (e : Nat) : bv ((((List.replicate (e / 8 + 1) (0 : Int)).set 0 ((2 ^ (e % 8) : Nat) : Int))).map fun n => UInt8.ofNat n.toNat) = 2 ^ e := by
 have hp : 2 ^ (e % 8) <= 128 := by
  have : 2 ^ (e % 8) <= 2 ^ 7 := Nat.pow_le_pow_right (by omega) (by omega)
  omega
 rw [List.replicate_succ, List.set_cons_zero, List.map_cons, bv_cons, List.map_replicate]
 have hz : bv (List.replicate (e / 8) (UInt8.ofNat (Int.toNat 0))) = 0 := bv_eq_zero.2 fun b hb => by
  rw [(List.mem_replicate.1 hb).2]; rfl
 rw [hz, Int.toNat_natCast, ofNat_toNat _ (by omega), List.length_replicate, Nat.add_zero]
 have : 256 ^ (e / 8) = 2 ^ (8 * (e / 8)) := by rw [Nat.pow_mul]
 rw [this, <- Nat.pow_add, show e % 8 + 8 * (e / 8) = e by omega]
theorem u8_ty : prog.types[(5 : Nat)].bytes.ble (1024 : Nat) = true := by kernel_rfl
def g129 : Spec := fun args hs K => match args, hs with
 | [.s a, .s b], [] => .br (hz a && hz b && decide (bv a.data.toList ≠ 0) && decide (bv b.data.toList ≠ 0)) (K (.s (nb (Nat.gcd (bv a.data.toList) (bv b.data.toList)))) []) (.no 1)
 | _, _ => .no 1
theorem loops129 : qi (qd f149) = [b129, b129o, b129i] := by kernel_rfl
include hG in
theorem orcP129 (hT : qo G) (r : ByteArray) : OrcOK prog G (P129 r) := .cons (vk77 hG r) (.cons (ok128 hG) (.cons (gk136 hG) (.cons (gk137 hG hT) (.cons (hk138 hG) (.cons (gk139 hG true) (.cons (gk140 hG [] 0) .nil))))))
theorem Nm.one {L : List Int} {o V : Nat} (h : Nm L o 1 V) : L.getD o 0 = (V : Int) := by
 have ho := h.ho
 have h2 := h.val
 unfold qK at h2
 have h3 : (L.drop o).take 1 = [L.getD o 0] := by
  rw [List.drop_eq_getElem_cons (by omega), List.take_succ_cons, List.take_zero, List.getD_eq_getElem?_getD, List.getElem?_eq_getElem (by omega)]
  rfl
 rw [h3] at h2
 have h4 := h.isE (L.getD o 0) (by rw [List.getD_eq_getElem?_getD, List.getElem?_eq_getElem (by omega)]; exact List.getElem_mem _)
 simp only [lv] at h2
 omega
theorem Nm.set1 {L : List Int} {o V V' : Nat} (h : Nm L o 1 V) (h0 : V' ≠ 0) (h1 : V' < 18446744073709551616) : Nm (L.set o (V' : Int)) o 1 V' := by
 have ho := h.ho
 refine ⟨fun x hx => ?_, by rw [List.length_set]; exact ho, by rw [List.length_set]; exact h.hs, ?_, ?_⟩
 ·rcases List.mem_or_eq_of_mem_set hx with h2 | h2
  ·exact h.isE x h2
  ·subst h2; omega
 ·unfold qK
  have h3 : ((L.set o (V' : Int)).drop o).take 1 = [(V' : Int)] := by
   rw [List.drop_eq_getElem_cons (by rw [List.length_set]; omega), List.take_succ_cons, List.take_zero, List.getElem_set_self]
  rw [h3]
  simp only [lv]
  omega
 ·have a1 := dg_length_le (B := 18446744073709551616) (k := 1) (n := V') (by omega) (by rw [Nat.pow_one]; exact h1)
  rcases Nat.eq_zero_or_pos (dg 18446744073709551616 V').length with h2 | h2
  ·have := dg_lt (B := 18446744073709551616) (by omega) V'
   rw [h2, Nat.pow_zero] at this; omega
  ·omega
include hG in
theorem lps129f (R : List Int) {st fin : LS} (g1 : Goes (Rnd prog G f149.ntmps 0 [5, 6, 7, 8] b129) st (.exit 0) fin) : LpsOK prog G pol129 f149.ntmps 0 [(4, qI st (.exit 0) fin), (14, l129o R), (17, lnoE)] (qd f149) := by
 refine LpsOK.of loops129 fun a ha live sp h1 h2 => ?_
 simp only [List.mem_cons, List.not_mem_nil, or_false] at ha
 rcases ha with rfl | rfl | rfl
 ·have e1 : assoc (qq b129) pol129.live = some [5, 6, 7, 8] := by kernel_rfl
  rw [e1] at h1; cases h1
  have e2 : Lps.look (qq b129) [(4, qI st (.exit 0) fin), (14, l129o R), (17, lnoE)] = some (qI st (.exit 0) fin) := by kernel_rfl
  rw [e2] at h2; cases h2
  exact qC g1
 ·have e1 : assoc (qq b129o) pol129.live = some [6, 7, 8, 9, 72, 73, 74] := by kernel_rfl
  rw [e1] at h1; cases h1
  have e2 : Lps.look (qq b129o) [(4, qI st (.exit 0) fin), (14, l129o R), (17, lnoE)] = some (l129o R) := by kernel_rfl
  rw [e2] at h2; cases h2
  exact loop129o hG R
 ·have e2 : Lps.look (qq b129i) [(4, qI st (.exit 0) fin), (14, l129o R), (17, lnoE)] = some lnoE := by kernel_rfl
  rw [e2] at h2; cases h2
  exact lnoE_ok
include hG in
theorem gk129 (hT : qo G) : qc prog G 149 g129 := by
 intro args hs K x h
 unfold g129 at h
 split at h
 case h_2 => cases h
 rename_i a b
 obtain ⟨hc, hr⟩ := k8 h
 simp only [kA, hz_iff, kD] at hc
 obtain ⟨⟨⟨ha, hb⟩, hA⟩, hB⟩ := hc
 have la := lb_len a
 have lbb := lb_len b
 have va := lb_val a
 have vb := lb_val b
 have ea := isE_lb a
 have eb := isE_lb b
 have ta : List.take (lb a).length (List.drop 0 (lb a)) = lb a := by rw [List.drop_zero, List.take_length]
 have tb : List.take (lb b).length (List.drop 0 (lb b)) = lb b := by rw [List.drop_zero, List.take_length]
 have sa : qK 0 (lb a).length (lb a) = bv a.data.toList := by unfold qK; rw [ta, va]
 have sb : qK 0 (lb b).length (lb b) = bv b.data.toList := by unfold qK; rw [tb, vb]
 have na : evN (lb a) = ev2 (bv a.data.toList) := by unfold evN; rw [qe, va]
 have nbb : evN (lb b) = ev2 (bv b.data.toList) := by unfold evN; rw [qe, vb]
 obtain ⟨r1, r2, r3⟩ := right_ok ea (o := 0) (l := (lb a).length) (by omega) (by omega) sa hA
 obtain ⟨w1, w2, w3⟩ := right_ok eb (o := 0) (l := (lb b).length) (by omega) (by omega) sb hB
 have hev1 := (ev2_lt hA (n := (lb a).length) (by rw [<- sa]; exact segE_lt ea _ _)).1
 have hg := gcd_halves hA hB
 have q1 : Q137 (lb a) := ⟨ea, by omega, by rw [va]; exact hA⟩
 have q2 : Q137 (lb b) := ⟨eb, by omega, by rw [vb]; exact hB⟩
 generalize bv a.data.toList = A at *
 generalize bv b.data.toList = B at *
 obtain ⟨X', Y', Fx, px, nx, Fy, py, ny, g1, g2, g3, g4, g5, g6, g7⟩ := goes129 hG hT ((ev2 A : Nat) : Int) ((ev2 B : Nat) : Int) _ _ _ _ _ _ _ _ _ (Nat.le_refl _) r2 w2 r3 w3
 -- the last value, and its bytes
 have hmin : (if ((ev2 B : Nat) : Int) < ((ev2 A : Nat) : Int) then ((ev2 B : Nat) : Int) else ((ev2 A : Nat) : Int)) = ((min (ev2 A) (ev2 B) : Nat) : Int) := by split <;> omega
 have hmlt : min (ev2 A) (ev2 B) < 64 * (lb a).length := by omega
 generalize hmE : min (ev2 A) (ev2 B) = e at *
 have hgg : ∀ V, V = Nat.gcd X' Y' -> V * 2 ^ e = Nat.gcd A B := by
  intro V hV
  rw [hV, <- g4]; exact hg
 have tdv : ((e : Nat) : Int).tdiv 8 = ((e / 8 : Nat) : Int) := tdiv_nat e 8
 have tmv : ((e : Nat) : Int).tmod 8 = ((e % 8 : Nat) : Int) := tmod_nat e 8
 have c1 : ((((e / 8 : Nat) : Int)) + 1).toNat = e / 8 + 1 := by omega
 have c2 : min (((e % 8 : Nat) : Int)).toNat IntKind.u8.bits = e % 8 := by simp only [IntKind.bits]; omega
 have c3 : IntKind.u8.wrap ((1 : Int) * (2 : Int) ^ (e % 8)) = ((2 ^ (e % 8) : Nat) : Int) := by
  have hp : 2 ^ (e % 8) <= 128 := by
   have : 2 ^ (e % 8) <= 2 ^ 7 := Nat.pow_le_pow_right (by omega) (by omega)
   omega
  rw [IntKind.wrap_u8', Int.one_mul]
  have : ((2 : Int) ^ (e % 8)) = ((2 ^ (e % 8) : Nat) : Int) := by simp
  have hpp : 0 < 2 ^ (e % 8) := Nat.pow_pos (by omega)
  rw [this]
  generalize 2 ^ (e % 8) = z at *
  omega
 have c4 : ((8 : Int) * (ny : Nat)).toNat = 8 * ny := by omega
 have hny := g3.ho
 have hnys := g3.hs
 have hlv : ∀ V, V < 18446744073709551616 ^ ny -> V < 256 ^ (8 * ny) := by
  intro V h
  have : (18446744073709551616 : Nat) ^ ny = 256 ^ (8 * ny) := by rw [Nat.pow_mul]
  omega
 have bl : ∀ V, (byV ny V).length = 8 * ny := by intro V; unfold byV; rw [List.length_reverse, qm]
 have sl : ((List.replicate (e / 8 + 1) (0 : Int)).set 0 ((2 ^ (e % 8) : Nat) : Int)).length = e / 8 + 1 := by rw [List.length_set, List.length_replicate]
 have bsz : ∀ (l : List Int), l.length <= 131072 -> bz (ByteArray.mk (l.map fun n => UInt8.ofNat n.toNat).toArray) = true := by
  intro l h
  rw [bz_iff]
  show (l.map fun n => UInt8.ofNat n.toNat).length <= 131072
  rw [List.length_map]; exact h
 have last : ∀ V, V < 18446744073709551616 ^ ny -> V = Nat.gcd X' Y' -> ∀ (c : Bool), True := fun _ _ _ _ => trivial
 refine ⟨_, _, qj hG (orcP129 hG hT (nb (Nat.gcd A B))) mix enter129 (hs := []) (pol := pol129) (L := [(4, qI (t129 (rR (lb a) 0 (lb a).length ((ev2 A : Nat) : Int)) (rO 0 ((ev2 A : Nat) : Int)) (rN (lb a) 0 (lb a).length ((ev2 A : Nat) : Int)) (rR (lb b) 0 (lb b).length ((ev2 B : Nat) : Int)) (rO 0 ((ev2 B : Nat) : Int)) (rN (lb b) 0 (lb b).length ((ev2 B : Nat) : Int)) ((ev2 A : Nat) : Int) ((ev2 B : Nat) : Int)) (.exit 0) (t129 Fx px nx Fy py ny ((ev2 A : Nat) : Int) ((ev2 B : Nat) : Int))), (14, l129o (byV ny (Nat.gcd X' Y'))), (17, lnoE)])
  (lps129f hG _ g1) ?_, hr⟩
 rw [p129]
 simp only [List.take_length, na, nbb, hmin, tdv, tmv, c1, c2, c3, c4, u8_ty, Bool.and_true, List.drop_zero, Int.toNat_zero, Nat.zero_add, Nat.add_zero]
 rw [k5 (bz_iff.2 (by omega)), k5 (bz_iff.2 (by omega)), k5 (by rw [kG]; omega), k5 (decP_iff.2 q1), k5 (by rw [kG]; omega), k5 (decP_iff.2 q2), k5 (decP_iff.2 r1), k5 (decP_iff.2 w1), k5 isLS_t]
 have tby : ∀ V, List.take (8 * ny) (byV ny V) = byV ny V := fun V => List.take_of_length_le (by rw [bl]; exact Nat.le_refl _)
 have tpw : List.take (e / 8 + 1) ((List.replicate (e / 8 + 1) (0 : Int)).set 0 ((2 ^ (e % 8) : Nat) : Int)) = (List.replicate (e / 8 + 1) (0 : Int)).set 0 ((2 ^ (e % 8) : Nat) : Int) := List.take_of_length_le (by rw [sl]; exact Nat.le_refl _)
 have lastC : Nat.gcd X' Y' < 18446744073709551616 ^ ny -> nb (Nat.gcd A B) = nb (bv (List.map (fun n => UInt8.ofNat n.toNat) (byV ny (Nat.gcd X' Y'))) * bv ((((List.replicate (e / 8 + 1) (0 : Int)).set 0 ((2 ^ (e % 8) : Nat) : Int))).map fun n => UInt8.ofNat n.toNat)) := by
  intro h
  rw [bv_power, byV, bv_pd _ _ (hlv _ h), hgg _ rfl]
 have tl1 : ∀ (F : List Int), Nm F py ny (Nat.gcd X' Y') -> Q129o F (List.replicate (8 * ny) 0) (byV ny (Nat.gcd X' Y')) py ny (8 * ny) (ny : Nat) 0 := fun F h => ⟨_, h, rfl, rfl, rfl, rfl, rfl⟩
 rcases Nat.eq_zero_or_pos X' with hX | hX
 ·subst hX
  rw [Nat.gcd_zero_left] at *
  have hnx : nx = 0 := by rw [g2.len, dg_zero]; rfl
  subst hnx
  rw [k6 (by decide), k5 (by simp only [kA, kD]; omega), k5 (by simp only [decide_true, Bool.true_and, kA, kD]; omega), k5 (decP_iff.2 ⟨tl1 _ g3, trivial, trivial⟩),
   k5 (by simp only [kA, kD, kJ, kK]; omega), k5 (by simp only [kA, kD]; omega), k5 (by simp only [decide_true, Bool.true_and, kA, kD]; omega),
   k5 (by decide), k5 (by rw [kD]; omega), k5 (by simp only [kA, kD]; omega), k5 (by rw [kG, List.length_replicate]; omega), k5 (by rw [kG, bl]; omega), k5 (by rw [kG, sl]; omega),
   tby, tpw, k5 (decP_iff.2 ⟨bsz _ (by rw [bl]; omega), bsz _ (by rw [sl]; omega), lastC g3.lt⟩), k7]
 ·have h1 := g7.resolve_left (by omega)
  obtain ⟨rfl, rfl⟩ := h1
  have hY : 0 < Y' := by omega
  have hgp : 0 < Nat.gcd X' Y' := Nat.gcd_pos_of_pos_left _ hX
  have hgl : Nat.gcd X' Y' < 18446744073709551616 := by
   have := Nat.le_of_dvd hX (Nat.gcd_dvd_left X' Y')
   have := g2.lt
   rw [Nat.pow_one] at this
   omega
  have hxo := g2.ho
  have n3 := g3.set1 (V' := Nat.gcd X' Y') (by omega) hgl
  simp only [g2.one, g3.one, Int.toNat_natCast]
  rw [k5 (by decide), k5 (by decide), k5 (by decide), k5 (by rw [kG]; omega), k5 (by decide), k5 (by rw [kG]; omega), k5 (by simp only [kA, kD]; omega), k5 (by decide), k5 (by rw [kG]; omega),
   k5 (by simp only [kA, kD]; omega), k5 (by simp only [decide_true, Bool.true_and, kA, kD]; omega), k5 (decP_iff.2 ⟨tl1 _ n3, trivial, trivial⟩),
   k5 (by simp only [kA, kD, kJ, kK]; omega), k5 (by simp only [kA, kD]; omega), k5 (by simp only [decide_true, Bool.true_and, kA, kD]; omega),
   k5 (by decide), k5 (by rw [kD]; omega), k5 (by simp only [kA, kD]; omega), k5 (by rw [kG, List.length_replicate]; omega), k5 (by rw [kG, bl]; omega), k5 (by rw [kG, sl]; omega),
   tby, tpw, k5 (decP_iff.2 ⟨bsz _ (by rw [bl]; omega), bsz _ (by rw [sl]; omega), lastC (by rw [Nat.pow_one]; exact hgl)⟩), k7]
def quB (a b : ByteArray) : ByteArray := hide (nb (bv a.data.toList / bv b.data.toList))
def rmB (a b : ByteArray) : ByteArray := hide (nb (bv a.data.toList % bv b.data.toList))
def gdB (a b : ByteArray) : ByteArray := hide (nb (Nat.gcd (bv a.data.toList) (bv b.data.toList)))
def h113 : Spec := fun args hs K => match args, hs with
 | [.s a, .s b], [] => .br (bz a && bz b && decide (0 < val b)) (K (.tup [.s (quB a b), .s (rmB a b), .i .i64 0]) []) (.no 1)
 | _, _ => .no 1
def h129 : Spec := fun args hs K => match args, hs with
 | [.s a, .s b], [] => .br (hz a && hz b && decide (val a ≠ 0) && decide (val b ≠ 0)) (K (.s (gdB a b)) []) (.no 1)
 | _, _ => .no 1
include hG in
theorem hk113 : qc prog G 114 h113 := by
 intro args hs K x h
 unfold h113 at h
 split at h
 case h_2 => cases h
 rw [val_eq, quB, rmB, qe, qe] at h
 exact gk113 hG _ _ K x h
include hG in
theorem hk129 (hT : qo G) : qc prog G 149 h129 := by
 intro args hs K x h
 unfold h129 at h
 split at h
 case h_2 => cases h
 rw [val_eq, val_eq, gdB, qe] at h
 exact gk129 hG hT _ _ K x h
def b112' : Code := (qi (qd f113)).getD 0 .skip
def G112 : Orc := [(114, h113), (106, h114), (108, s115), (109, h116), (148, s128), (149, h129)]
def t112 (a b r : ByteArray) : LS := ⟨[.s a, .s b, .s r], []⟩
theorem q112 (a b : ByteArray) : qh prog G112 [] pol112 f113.ntmps 0 [0, 1, 4] b112' (t112 a b ⟨#[]⟩) =
 Tr.br (!decide (a = ByteArray.mk #[])) (.br (!decide (b = ByteArray.mk #[])) (.br (decide ((a.size : Int) < (b.size : Int))) (.br (decide ((b.size : Int) <= 8)) (.br (b.size.ble 8) (.br (a.size.ble 8) (.br (decide (0 <= (↑(val b) : Int)) && decide (0 <= (↑(val a) : Int))) (.br (ix ((↑((↑(val b) : Int).toNat.gcd (↑(val a) : Int).toNat) : Int)) ((18446744073709551616 : Int))) (.ok (.out .ret (LS.mk [.s b, .s a, .s (nb (↑((↑(val b) : Int).toNat.gcd (↑(val a) : Int).toNat) : Int).toNat)] []))) (.no 1)) (.no 1)) (.no 1)) (.no 1)) (.br (ib ((a.size : Int) + 8)) (.br (decide ((b.size : Int) <= (a.size : Int) + 8)) (.br (hz b && hz a && decide (val b ≠ (0 : Nat)) && decide (val a ≠ (0 : Nat))) (.ok (.out .ret (LS.mk [.s b, .s a, .s (gdB b a)] []))) (.no 1)) (.br (bz b && bz a && decide ((0 : Nat) < val a)) (.ok (.out .normal (LS.mk [.s a, .s (rmB b a), .s (ByteArray.mk #[])] []))) (.no 1))) (.no 8003))) (.br (decide ((a.size : Int) <= 8)) (.br (a.size.ble 8) (.br (b.size.ble 8) (.br (decide (0 <= (↑(val a) : Int)) && decide (0 <= (↑(val b) : Int))) (.br (ix ((↑((↑(val a) : Int).toNat.gcd (↑(val b) : Int).toNat) : Int)) ((18446744073709551616 : Int))) (.ok (.out .ret (LS.mk [.s a, .s b, .s (nb (↑((↑(val a) : Int).toNat.gcd (↑(val b) : Int).toNat) : Int).toNat)] []))) (.no 1)) (.no 1)) (.no 1)) (.no 1)) (.br (ib ((b.size : Int) + 8)) (.br (decide ((a.size : Int) <= (b.size : Int) + 8)) (.br (hz a && hz b && decide (val a ≠ (0 : Nat)) && decide (val b ≠ (0 : Nat))) (.ok (.out .ret (LS.mk [.s a, .s b, .s (gdB a b)] []))) (.no 1)) (.br (bz a && bz b && decide ((0 : Nat) < val b)) (.ok (.out .normal (LS.mk [.s b, .s (rmB a b), .s (ByteArray.mk #[])] []))) (.no 1))) (.no 8003)))) (.ok (.out (.exit 0) (LS.mk [.s a, .s b, .s (ByteArray.mk #[])] [])))) (.ok (.out (.exit 0) (LS.mk [.s a, .s b, .s (ByteArray.mk #[])] []))) := by kernel_rfl
theorem p112 (a b a2 b2 : ByteArray) : evF prog G112 [(2, qI (t112 (tr a) (tr b) ⟨#[]⟩) (.exit 0) (t112 a2 b2 ⟨#[]⟩))] pol112 f113 [.s a, .s b] [] ql =
 Tr.br (qg (isLS (LS.mk [.s (tr a), .s (tr b), .s (ByteArray.mk #[])] []) (LS.mk [.s (tr a), .s (tr b), .s (ByteArray.mk #[])] []))) (.br ((a2.size + b2.size).ble 1099511627776) (.ok (.ret (.s (a2 ++ b2)) [])) (.no 12002)) (.no 1) := by kernel_rfl
theorem p112r (a b a2 b2 r : ByteArray) : evF prog G112 [(2, qI (t112 (tr a) (tr b) ⟨#[]⟩) .ret (t112 a2 b2 r))] pol112 f113 [.s a, .s b] [] ql =
 Tr.br (qg (isLS (LS.mk [.s (tr a), .s (tr b), .s (ByteArray.mk #[])] []) (LS.mk [.s (tr a), .s (tr b), .s (ByteArray.mk #[])] []))) (.ok (.ret (.s r) [])) (.no 1) := by kernel_rfl
include hG in
theorem orcG112 (hT : qo G) : OrcOK prog G G112 := .cons (hk113 hG) (.cons (hk114 hG) (.cons (ok115 hG) (.cons (hk116 hG) (.cons (ok128 hG) (.cons (hk129 hG hT) .nil)))))
theorem val_nb (n : Nat) : val (nb n) = n := by rw [val_eq, qD]
theorem rmB_nb (n m : Nat) : rmB (nb n) (nb m) = nb (n % m) := by rw [rmB, qe, qD, qD]
theorem gdB_nb (n m : Nat) : gdB (nb n) (nb m) = nb (Nat.gcd n m) := by rw [gdB, qe, qD, qD]
theorem nb_size_mono {n m : Nat} (h : n <= m) : (nb n).size <= (nb m).size := by
 have h1 : m < 256 ^ (nb m).size := by
  have := nbl_lt m
  rwa [<- nb_size] at this
 exact nb_size_le (Nat.lt_of_le_of_lt h h1)
theorem nb_size_lt {n m : Nat} (h : (nb n).size < (nb m).size) : n < m := by
 rcases Nat.lt_or_ge n m with h1 | h1
 ·exact h1
 ·have := nb_size_mono h1
  omega
include hG in
theorem goes112 (hT : qo G) : ∀ (f X Y : Nat), X + Y <= f -> (nb X).size <= 100000 -> (nb Y).size <= 100000 ->
  (∃ X' Y', Goes (Rnd prog G f113.ntmps 0 [0, 1, 4] b112') (t112 (nb X) (nb Y) ⟨#[]⟩) (.exit 0) (t112 (nb X') (nb Y') ⟨#[]⟩) /\ Nat.gcd X Y = Nat.gcd X' Y' /\ (X' = 0 \/ Y' = 0) /\ (nb X').size <= 100000 /\ (nb Y').size <= 100000) \/
  ∃ X' Y', Goes (Rnd prog G f113.ntmps 0 [0, 1, 4] b112') (t112 (nb X) (nb Y) ⟨#[]⟩) .ret (t112 (nb X') (nb Y') (nb (Nat.gcd X Y))) := by
 intro f
 induction f with
 | zero =>
  intro X Y h hx hy
  obtain rfl : X = 0 := by omega
  obtain rfl : Y = 0 := by omega
  refine .inl ⟨0, 0, .last _ _ _ (qb hG (orcG112 hG hT) mix (L := []) (pol := pol112) (O := G112) (k9 (by kernel_rfl)) (Nat.zero_le _) ?_) (by simp), rfl, .inl rfl, hx, hy⟩
  rw [q112, k6 (by rw [nb_zero]; decide), k7]
  rfl
 | succ f ih =>
  intro X Y h hx hy
  by_cases hX : X = 0
  ·refine .inl ⟨X, Y, .last _ _ _ (qb hG (orcG112 hG hT) mix (L := []) (pol := pol112) (O := G112) (k9 (by kernel_rfl)) (Nat.zero_le _) ?_) (by simp), rfl, .inl hX, hx, hy⟩
   rw [q112, k6 (by rw [hX, nb_zero]; simp), k7]
   rfl
  have tX : (!decide (nb X = ByteArray.mk #[])) = true := by rw [kJ, kK, nb_eq_empty]; exact hX
  by_cases hY : Y = 0
  ·refine .inl ⟨X, Y, .last _ _ _ (qb hG (orcG112 hG hT) mix (L := []) (pol := pol112) (O := G112) (k9 (by kernel_rfl)) (Nat.zero_le _) ?_) (by simp), rfl, .inr hY, hx, hy⟩
   rw [q112, k5 tX, k6 (by rw [hY, nb_zero]; simp), k7]
   rfl
  have tY : (!decide (nb Y = ByteArray.mk #[])) = true := by rw [kJ, kK, nb_eq_empty]; exact hY
  have hgx : Nat.gcd X Y <= X := Nat.le_of_dvd (by omega) (Nat.gcd_dvd_left X Y)
  have e8 : ∀ n, (nb n).size <= 8 -> n < 18446744073709551616 := fun n h => nb_lt (k := 8) h
  have hgc := Nat.gcd_comm Y X
  by_cases hs : (nb X).size < (nb Y).size
  ·have hlt := nb_size_lt hs
   by_cases h8 : (nb Y).size <= 8
   ·refine .inr ⟨Y, X, .last _ _ _ (qb hG (orcG112 hG hT) mix (L := []) (pol := pol112) (O := G112) (k9 (by kernel_rfl)) (Nat.zero_le _) ?_) (by simp)⟩
    have := e8 X (by omega)
    rw [q112, k5 tX, k5 tY]
    simp only [val_nb, Int.toNat_natCast, hgc]
    rw [k5 (kE (by omega)), k5 (kE (by omega)), k5 (by rw [kG]; omega), k5 (by rw [kG]; omega), k5 (by simp only [kA, kD]; omega), k5 (by simp only [kA, kD]; omega), k7]
    rfl
   by_cases hh : (nb Y).size <= (nb X).size + 8
   ·refine .inr ⟨Y, X, .last _ _ _ (qb hG (orcG112 hG hT) mix (L := []) (pol := pol112) (O := G112) (k9 (by kernel_rfl)) (Nat.zero_le _) ?_) (by simp)⟩
    rw [q112, k5 tX, k5 tY, k5 (kE (by omega)), k6 (kF (by omega)), k5 (by simp only [kA, kD]; omega), k5 (kE (by omega)),
     k5 (by simp only [val_nb, kA, kD, hz_iff]; omega), k7, gdB_nb, hgc]
    rfl
   have hm : Y % X < X := Nat.mod_lt _ (by omega)
   have hg2 : Nat.gcd X Y = Nat.gcd X (Y % X) := by rw [Nat.gcd_comm X (Y % X), <- Nat.gcd_rec]
   have hr : Rnd prog G f113.ntmps 0 [0, 1, 4] b112' (t112 (nb X) (nb Y) ⟨#[]⟩) .normal (t112 (nb X) (nb (Y % X)) ⟨#[]⟩) := by
    refine qb hG (orcG112 hG hT) mix (L := []) (pol := pol112) (O := G112) (k9 (by kernel_rfl)) (Nat.zero_le _) ?_
    rw [q112, k5 tX, k5 tY, k5 (kE (by omega)), k6 (kF (by omega)), k5 (by simp only [kA, kD]; omega), k6 (kF (by omega)),
     k5 (by simp only [val_nb, kA, kD, bz_iff]; omega), k7, rmB_nb]
    rfl
   rw [hg2]
   rcases ih X (Y % X) (by omega) hx (Nat.le_trans (nb_size_mono (Nat.le_of_lt hm)) hx) with ⟨X', Y', g, q⟩ | ⟨X', Y', g⟩
   ·exact .inl ⟨X', Y', .more _ _ _ _ hr g, q⟩
   ·exact .inr ⟨X', Y', .more _ _ _ _ hr g⟩
  ·by_cases h8 : (nb X).size <= 8
   ·refine .inr ⟨X, Y, .last _ _ _ (qb hG (orcG112 hG hT) mix (L := []) (pol := pol112) (O := G112) (k9 (by kernel_rfl)) (Nat.zero_le _) ?_) (by simp)⟩
    have := e8 X (by omega)
    rw [q112, k5 tX, k5 tY]
    simp only [val_nb, Int.toNat_natCast]
    rw [k6 (kF (by omega)), k5 (kE (by omega)), k5 (by rw [kG]; omega), k5 (by rw [kG]; omega), k5 (by simp only [kA, kD]; omega), k5 (by simp only [kA, kD]; omega), k7]
    rfl
   by_cases hh : (nb X).size <= (nb Y).size + 8
   ·refine .inr ⟨X, Y, .last _ _ _ (qb hG (orcG112 hG hT) mix (L := []) (pol := pol112) (O := G112) (k9 (by kernel_rfl)) (Nat.zero_le _) ?_) (by simp)⟩
    rw [q112, k5 tX, k5 tY, k6 (kF (by omega)), k6 (kF (by omega)), k5 (by simp only [kA, kD]; omega), k5 (kE (by omega)),
     k5 (by simp only [val_nb, kA, kD, hz_iff]; omega), k7, gdB_nb]
    rfl
   have hlt := nb_size_lt (n := Y) (m := X) (by omega)
   have hm : X % Y < Y := Nat.mod_lt _ (by omega)
   have hg2 : Nat.gcd X Y = Nat.gcd Y (X % Y) := by rw [Nat.gcd_comm Y (X % Y), <- Nat.gcd_rec, Nat.gcd_comm]
   have hr : Rnd prog G f113.ntmps 0 [0, 1, 4] b112' (t112 (nb X) (nb Y) ⟨#[]⟩) .normal (t112 (nb Y) (nb (X % Y)) ⟨#[]⟩) := by
    refine qb hG (orcG112 hG hT) mix (L := []) (pol := pol112) (O := G112) (k9 (by kernel_rfl)) (Nat.zero_le _) ?_
    rw [q112, k5 tX, k5 tY, k6 (kF (by omega)), k6 (kF (by omega)), k5 (by simp only [kA, kD]; omega), k6 (kF (by omega)),
     k5 (by simp only [val_nb, kA, kD, bz_iff]; omega), k7, rmB_nb]
    rfl
   rw [hg2]
   rcases ih Y (X % Y) (by omega) hy (Nat.le_trans (nb_size_mono (Nat.le_of_lt hm)) hy) with ⟨X', Y', g, q⟩ | ⟨X', Y', g⟩
   ·exact .inl ⟨X', Y', .more _ _ _ _ hr g, q⟩
   ·exact .inr ⟨X', Y', .more _ _ _ _ hr g⟩
def h112 : Spec := fun args hs K => match args, hs with
 | [.s a, .s b], [] => .br (hz a && hz b) (K (.s (gdB a b)) []) (.no 1)
 | _, _ => .no 1
include hG in
theorem hk112 (hT : qo G) : qc prog G 113 h112 := by
 intro args hs K x h
 unfold h112 at h
 split at h
 case h_2 => cases h
 rename_i a b
 obtain ⟨hc, hr⟩ := k8 h
 simp only [kA, hz_iff] at hc
 have sa := tr_size a
 have sb := tr_size b
 rw [tr_eq] at sa sb
 rcases goes112 hG hT _ _ _ (Nat.le_refl _) (show (nb (bv a.data.toList)).size <= 100000 by omega) (show (nb (bv b.data.toList)).size <= 100000 by omega) with ⟨X, Y, g, q1, q2, q3, q4⟩ | ⟨X, Y, g⟩
 ·rw [<- tr_eq, <- tr_eq] at g
  refine ⟨_, _, qj hG (orcG112 hG hT) mix enter112 (hs := []) (pol := pol112) (L := [(2, qI (t112 (tr a) (tr b) ⟨#[]⟩) (.exit 0) (t112 (nb X) (nb Y) ⟨#[]⟩))]) (lps1 (b := b112') (live := [0, 1, 4]) (m := 0) (by kernel_rfl) (by kernel_rfl) (by kernel_rfl) (qC g)) ?_, hr⟩
  rw [p112, k5 isLS_t, k5 (by rw [kG]; omega), k7, gdB, qe, q1]
  rcases q2 with rfl | rfl
  ·rw [Nat.gcd_zero_left, nb_zero, ba_empty_left]
  ·rw [Nat.gcd_zero_right, nb_zero, ba_empty_right]
 ·rw [<- tr_eq, <- tr_eq] at g
  refine ⟨_, _, qj hG (orcG112 hG hT) mix enter112 (hs := []) (pol := pol112) (L := [(2, qI (t112 (tr a) (tr b) ⟨#[]⟩) .ret (t112 (nb X) (nb Y) (nb (Nat.gcd (bv a.data.toList) (bv b.data.toList)))))]) (lps1 (b := b112') (live := [0, 1, 4]) (m := 0) (by kernel_rfl) (by kernel_rfl) (by kernel_rfl) (qC g)) ?_, hr⟩
  rw [p112r, k5 isLS_t, k7, gdB, qe]
theorem enter110 : Enters prog 105 f105 (qd f105) := ⟨func105, by kernel_rfl, rfl⟩
def s110 : Spec := evF prog [] [] {} f105
include hG in
theorem ok110 : qc prog G 105 s110 := spec_ev hG .nil mix enter110 (fun _ => k9 (by kernel_rfl))
theorem enter109 : Enters prog 104 f104 (qd f104) := ⟨func104, by kernel_rfl, rfl⟩
abbrev ze1091 (x : Rat) : Tr := Tr.br (decide (qt x = ByteArray.mk #[(1 : UInt8)])) (.ok (.ret (.bl true) [])) (.br (decide (bv (qa x.num.natAbs x.num.natAbs []).toArray.toList < (18446744073709551616 : Nat)) && decide (bv (qa x.den x.den []).toArray.toList < (18446744073709551616 : Nat))) (.ok (.ret (.b (decide (nb ((bv (qa x.num.natAbs x.num.natAbs []).toArray.toList).gcd (bv (qa x.den x.den []).toArray.toList)) = ByteArray.mk #[(1 : UInt8)]))) [])) (.no 1))
abbrev ze1092 (x : Rat) : Tr := Tr.br (!decide (qr x = ByteArray.mk #[])) (.br (ix ((0 : Int)) ((↑(qr x).size : Int))) (.br (decide ((↑((qa x.num.natAbs x.num.natAbs []).toArray.toList.getD (Int.toNat 0) (0 : UInt8)).toNat : Int) = (0 : Int))) (.ok (.ret (.bl false) [])) (ze1091 x)) (.no 2004)) (ze1091 x)
theorem e109 (x : Rat) (n : Nat) : evF prog [(113, s112)] [] {} f104 [.q x n] [] ql =
 Tr.br (decide (qt x = ByteArray.mk #[])) (.ok (.ret (.bl false) [])) (.br (ix ((0 : Int)) ((↑(qt x).size : Int))) (.br (decide ((↑((qa x.den x.den []).toArray.toList.getD (Int.toNat 0) (0 : UInt8)).toNat : Int) = 0)) (.ok (.ret (.bl false) [])) (.br (decide (qr x = ByteArray.mk #[])) (.br (qn x) (.ok (.ret (.bl false) [])) (.br (!decide (qt x = ByteArray.mk #[(1 : UInt8)])) (.ok (.ret (.bl false) [])) (ze1092 x))) (ze1092 x))) (.no 2028)) := by kernel_rfl
theorem vle_b (x : Bool) : VLe (.b x) (.bl x) := by
 refine ⟨rfl, fun w S μ => ⟨fun cs h => by cases h; exact .bl _ _, fun v h => ?_⟩⟩
 cases h with
 | cell _ _ _ hv h => exact .cell _ _ _ rfl (by cases h; exact .bl _ _)
 | agg _ _ cs hv h => simp [isAgg] at hv
theorem rle_b {x y : Bool} (h : x = y) : RLe (.b x) (.bl y) := by
 subst h; exact ⟨fun _ => vle_b x, fun _ => .refl _⟩
def s109 : Spec := fun args hs K => match args, hs with
 | [.q x _], [] => .br (decide (x.num.natAbs < 18446744073709551616) && decide (x.den < 18446744073709551616)) (K (.bl true) []) (.no 1)
 | _, _ => .no 1
theorem nb_head' {n : Nat} (h : n ≠ 0) : ¬ (((qa n n []).toArray.toList.getD (Int.toNat (0 : Int)) (0 : UInt8)).toNat : Int) = 0 := nb_head h
theorem rat_zero_den {x : Rat} (h : x.num.natAbs = 0) : x.den = 1 := by
 have := x.reduced
 rw [h] at this
 simpa using this
theorem qG (x : Rat) : qr x = ⟨#[]⟩ ↔ x.num.natAbs = 0 := nb_eq_empty
theorem rden_one (x : Rat) : qt x = ⟨#[1]⟩ ↔ x.den = 1 := nb_eq_one
theorem rden_empty (x : Rat) : ¬ qt x = ⟨#[]⟩ := fun h => x.den_nz (nb_eq_empty.1 h)
theorem rneg_zero {x : Rat} (h : x.num.natAbs = 0) : qn x = false := kF (by omega)
include hG in
theorem ok109 : qc prog G 104 s109 := by
 refine qp hG (.cons (ok112 hG) .nil) mix enter109 (L := []) (pol := {}) fun args hs K x h => ?_
 unfold s109 at h
 split at h
 case h_2 => cases h
 rename_i x n
 obtain ⟨hc, hr⟩ := k8 h
 refine ⟨k9 (by kernel_rfl), ?_⟩
 have hd := x.den_nz
 have hg := x.reduced
 unfold Nat.Coprime at hg
 have hcc := hc
 simp only [kA, kD] at hcc
 have p1 := nb_size_pos hd
 rw [e109]; try unfold ze1092; try unfold ze1091
 rw [k6 (kF (rden_empty x)), k5 (by rw [rden_eq]; simp only [kA, kD]; omega), k6 (kF (nb_head' hd))]
 simp only [bv_nb', bv_nb2]
 by_cases h0 : x.num.natAbs = 0
 ·rw [k5 (kE ((qG x).2 h0)), k6 (rneg_zero h0), k6 (by rw [kE ((rden_one x).2 (rat_zero_den h0))]; rfl),
   k6 (by rw [kE ((qG x).2 h0)]; rfl), k5 (kE ((rden_one x).2 (rat_zero_den h0)))]
  exact ⟨_, _, _, rfl, .refl _, hr⟩
 ·have p2 := nb_size_pos h0
  rw [k6 (kF (fun h => h0 ((qG x).1 h))), k5 (by rw [kF (fun h => h0 ((qG x).1 h))]; rfl), k5 (by rw [rnum_eq]; simp only [kA, kD]; omega), k6 (kF (nb_head' h0))]
  by_cases h1 : x.den = 1
  ·rw [k5 (kE ((rden_one x).2 h1))]
   exact ⟨_, _, _, rfl, .refl _, hr⟩
  ·rw [k6 (kF (fun h => h1 ((rden_one x).1 h))), k5 hc, k7, hg]
   exact ⟨_, _, _, rfl, rle_b (kE nb_onev), hr⟩
theorem enter74 : Enters prog 58 f58 (qd f58) := ⟨func58, by kernel_rfl, rfl⟩
theorem e74 (x : Rat) (n : Nat) : evF prog [(104, s109), (105, s110)] [] {} f58 [.q x n] [] ql =
 Tr.br (decide (x.num.natAbs < 18446744073709551616) && decide (x.den < 18446744073709551616)) (.ok (.ret (.q x n) [])) (.no 1) := by kernel_rfl
def s74 : Spec := fun args hs K => match args, hs with
 | [.q x n], [] => .br (decide (x.num.natAbs < 18446744073709551616) && decide (x.den < 18446744073709551616)) (K (.q x n) []) (.no 1)
 | _, _ => .no 1
include hG in
theorem ok74 : qc prog G 58 s74 := by
 refine qp hG (.cons (ok109 hG) (.cons (ok110 hG) .nil)) mix enter74 (L := []) (pol := {}) fun args hs K x h => ?_
 unfold s74 at h
 split at h
 case h_2 => cases h
 rename_i x n
 obtain ⟨hc, hr⟩ := k8 h
 refine ⟨k9 (by kernel_rfl), _, _, _, ?_, .refl _, hr⟩
 rw [e74, k5 hc]
 rfl
theorem enter76 : Enters prog 62 f62 (qd f62) := ⟨func62, by kernel_rfl, rfl⟩
theorem e76 (neg : Bool) (a d : ByteArray) : evF prog [(105, s110), (113, s112), (114, s113)] [] {} f62 [.b neg, .s a, .s d] [] ql =
 Tr.br (decide (a = ByteArray.mk #[])) (.ok (.ret (.agg [.bl false, .s (ByteArray.mk #[]), .s (ByteArray.mk #[(1 : UInt8)])]) [])) (.br (!decide (d = ByteArray.mk #[(1 : UInt8)])) (.br (decide (bv a.1.toList < 18446744073709551616) && decide (bv d.1.toList < 18446744073709551616)) (.br (!decide (nb ((bv a.1.toList).gcd (bv d.1.toList)) = ByteArray.mk #[(1 : UInt8)])) (.br (decide (bv a.1.toList < 18446744073709551616) && decide (bv (qa ((bv a.1.toList).gcd (bv d.1.toList)) ((bv a.1.toList).gcd (bv d.1.toList)) []).toArray.toList < 18446744073709551616) && decide ((0 : Nat) < bv (qa ((bv a.1.toList).gcd (bv d.1.toList)) ((bv a.1.toList).gcd (bv d.1.toList)) []).toArray.toList)) (.br (decide (bv d.1.toList < 18446744073709551616) && decide (bv (qa ((bv a.1.toList).gcd (bv d.1.toList)) ((bv a.1.toList).gcd (bv d.1.toList)) []).toArray.toList < 18446744073709551616) && decide ((0 : Nat) < bv (qa ((bv a.1.toList).gcd (bv d.1.toList)) ((bv a.1.toList).gcd (bv d.1.toList)) []).toArray.toList)) (.ok (.ret (.agg [.b neg, .s (nb (bv a.1.toList / bv (qa ((bv a.1.toList).gcd (bv d.1.toList)) ((bv a.1.toList).gcd (bv d.1.toList)) []).toArray.toList)), .s (nb (bv d.1.toList / bv (qa ((bv a.1.toList).gcd (bv d.1.toList)) ((bv a.1.toList).gcd (bv d.1.toList)) []).toArray.toList))]) [])) (.no 1)) (.no 1)) (.ok (.ret (.agg [.b neg, .s a, .s d]) []))) (.no 1)) (.ok (.ret (.agg [.b neg, .s a, .s d]) []))) := by kernel_rfl
theorem e76l (neg : Bool) (a d : ByteArray) : evF prog [(105, s110), (113, s112), (114, s113)] [] {} f62 [.bl neg, .s a, .s d] [] ql =
 Tr.br (decide (a = ByteArray.mk #[])) (.ok (.ret (.agg [.bl false, .s (ByteArray.mk #[]), .s (ByteArray.mk #[(1 : UInt8)])]) [])) (.br (!decide (d = ByteArray.mk #[(1 : UInt8)])) (.br (decide (bv a.1.toList < 18446744073709551616) && decide (bv d.1.toList < 18446744073709551616)) (.br (!decide (nb ((bv a.1.toList).gcd (bv d.1.toList)) = ByteArray.mk #[(1 : UInt8)])) (.br (decide (bv a.1.toList < 18446744073709551616) && decide (bv (qa ((bv a.1.toList).gcd (bv d.1.toList)) ((bv a.1.toList).gcd (bv d.1.toList)) []).toArray.toList < 18446744073709551616) && decide ((0 : Nat) < bv (qa ((bv a.1.toList).gcd (bv d.1.toList)) ((bv a.1.toList).gcd (bv d.1.toList)) []).toArray.toList)) (.br (decide (bv d.1.toList < 18446744073709551616) && decide (bv (qa ((bv a.1.toList).gcd (bv d.1.toList)) ((bv a.1.toList).gcd (bv d.1.toList)) []).toArray.toList < 18446744073709551616) && decide ((0 : Nat) < bv (qa ((bv a.1.toList).gcd (bv d.1.toList)) ((bv a.1.toList).gcd (bv d.1.toList)) []).toArray.toList)) (.ok (.ret (.agg [.bl neg, .s (nb (bv a.1.toList / bv (qa ((bv a.1.toList).gcd (bv d.1.toList)) ((bv a.1.toList).gcd (bv d.1.toList)) []).toArray.toList)), .s (nb (bv d.1.toList / bv (qa ((bv a.1.toList).gcd (bv d.1.toList)) ((bv a.1.toList).gcd (bv d.1.toList)) []).toArray.toList))]) [])) (.no 1)) (.no 1)) (.ok (.ret (.agg [.bl neg, .s a, .s d]) []))) (.no 1)) (.ok (.ret (.agg [.bl neg, .s a, .s d]) []))) := by kernel_rfl
def s76 : Spec := fun args hs K => match args, hs with
 | [nv, .s a, .s d], [] => match bof nv with
  | some neg => .br (decide (a = nb (bv a.data.toList)) && decide (d = nb (bv d.data.toList)) && decide (bv a.data.toList < 18446744073709551616) && decide (bv d.data.toList < 18446744073709551616) && decide (0 < bv d.data.toList))
   (K (.q (mkz neg (bv a.data.toList) (bv d.data.toList)) 64) []) (.no 1)
  | none => .no 1
 | _, _ => .no 1
theorem bof_cases {nv : PV} {neg : Bool} (h : bof nv = some neg) : nv = .b neg \/ nv = .bl neg := by
 cases nv <;> simp [bof] at h <;> subst h <;> simp
theorem mkz_sz {neg : Bool} {n d : Nat} (hd : d ≠ 0) (h1 : n < 18446744073709551616) (h2 : d < 18446744073709551616) : sz (mkz neg n d) <= 64 := by
 refine sz_le ?_ ?_ (by omega)
 ·rw [mkz_natAbs hd]; exact Nat.lt_of_le_of_lt (Nat.div_le_self _ _) h1
 ·rw [mkz_den hd]; exact Nat.lt_of_le_of_lt (Nat.div_le_self _ _) h2
theorem made_zero {nv : PV} {neg : Bool} (h : bof nv = some false) (d : Nat) : RLe (.agg [nv, .s ⟨#[]⟩, .s ⟨#[1]⟩]) (.q (mkz neg 0 d) 64) := by
 rw [mkz_zero]
 exact rle_q (x := 0) h (by decide)
theorem made_some {nv : PV} {neg : Bool} (h : bof nv = some neg) {n d : Nat} (hn : n ≠ 0) (hd : d ≠ 0) (h1 : n < 18446744073709551616) (h2 : d < 18446744073709551616) {a b : ByteArray} (ha : a = nb (n / n.gcd d)) (hb : b = nb (d / n.gcd d)) :
  RLe (.agg [nv, .s a, .s b]) (.q (mkz neg n d) 64) := by
 have e1 : a = qr (mkz neg n d) := by rw [ha, rnum_eq, mkz_natAbs hd]
 have e2 : b = qt (mkz neg n d) := by rw [hb, rden_eq, mkz_den hd]
 rw [e1, e2]
 exact rle_q (by rw [mkz_rneg hd hn]; exact h) (mkz_sz hd h1 h2)
include hG in
theorem orc76 : OrcOK prog G [(105, s110), (113, s112), (114, s113)] := .cons (ok110 hG) (.cons (ok112 hG) (.cons (ok113 hG) .nil))
include hG in
theorem ok76 : qc prog G 62 s76 := by
 refine qp hG (orc76 hG) mix enter76 (L := []) (pol := {}) fun args hs K x h => ?_
 unfold s76 at h
 split at h
 case h_2 => cases h
 rename_i nv a d
 split at h
 case h_2 => cases h
 rename_i neg hnv
 obtain ⟨hc, hr⟩ := k8 h
 refine ⟨k9 (by kernel_rfl), ?_⟩
 simp only [kA, kD] at hc
 obtain ⟨⟨⟨⟨ha, hd⟩, h1⟩, h2⟩, h3⟩ := hc
 generalize bv a.data.toList = n at *
 generalize bv d.data.toList = m at *
 subst ha; subst hd
 have key : ∃ r, (evF prog [(105, s110), (113, s112), (114, s113)] [] {} f62 [nv, .s (nb n), .s (nb m)] [] ql).run = some (.ret r []) /\ RLe r (.q (mkz neg n m) 64) := by
  have hgp : 0 < n.gcd m := Nat.gcd_pos_of_pos_right _ h3
  have hgl : n.gcd m <= m := Nat.le_of_dvd h3 (Nat.gcd_dvd_right _ _)
  rcases bof_cases hnv with rfl | rfl
  ·rw [e76]
   simp only [qD, bv_nb', bv_nb2]
   by_cases h0 : n = 0
   ·subst h0
    rw [k5 (by rfl)]
    exact ⟨_, rfl, made_zero rfl _⟩
   ·rw [k6 (kF (fun h => h0 (nb_eq_empty.1 h)))]
    by_cases hm : m = 1
    ·subst hm
     rw [k6 (by rw [kE nb_onev]; rfl)]
     exact ⟨_, rfl, made_some rfl h0 (by omega) h1 h2 (by simp) (by simp)⟩
    ·rw [k5 (by rw [kF (fun h => hm (nb_eq_one.1 h))]; rfl), k5 (by simp only [kA, kD]; omega)]
     by_cases hg : n.gcd m = 1
     ·rw [k6 (by rw [hg, kE nb_onev]; rfl)]
      exact ⟨_, rfl, made_some rfl h0 (by omega) h1 h2 (by rw [hg, Nat.div_one]) (by rw [hg, Nat.div_one])⟩
     ·rw [k5 (by rw [kF (fun h => hg (nb_eq_one.1 h))]; rfl)]
      repeat rw [k5 (by simp only [kA, kD]; omega)]
      exact ⟨_, rfl, made_some rfl h0 (by omega) h1 h2 rfl rfl⟩
  ·rw [e76l]
   simp only [qD, bv_nb', bv_nb2]
   by_cases h0 : n = 0
   ·subst h0
    rw [k5 (by rfl)]
    exact ⟨_, rfl, made_zero rfl _⟩
   ·rw [k6 (kF (fun h => h0 (nb_eq_empty.1 h)))]
    by_cases hm : m = 1
    ·subst hm
     rw [k6 (by rw [kE nb_onev]; rfl)]
     exact ⟨_, rfl, made_some rfl h0 (by omega) h1 h2 (by simp) (by simp)⟩
    ·rw [k5 (by rw [kF (fun h => hm (nb_eq_one.1 h))]; rfl), k5 (by simp only [kA, kD]; omega)]
     by_cases hg : n.gcd m = 1
     ·rw [k6 (by rw [hg, kE nb_onev]; rfl)]
      exact ⟨_, rfl, made_some rfl h0 (by omega) h1 h2 (by rw [hg, Nat.div_one]) (by rw [hg, Nat.div_one])⟩
     ·rw [k5 (by rw [kF (fun h => hg (nb_eq_one.1 h))]; rfl)]
      repeat rw [k5 (by simp only [kA, kD]; omega)]
      exact ⟨_, rfl, made_some rfl h0 (by omega) h1 h2 rfl rfl⟩
 obtain ⟨r, k1, k2⟩ := key
 exact ⟨_, _, _, k1, k2, hr⟩
theorem enter75 : Enters prog 61 f61 (qd f61) := ⟨func61, by kernel_rfl, rfl⟩
abbrev ze751 (minus : Bool) (a b : ByteArray) : Tr := Tr.br (decide (b.size <= (1048576 : Nat)) && decide (a.size <= (1048576 : Nat))) (.br (decide (bv a.1.toList <= bv b.1.toList)) (.ok (.ret (.tup [.b minus, .s (nb (bv b.1.toList - bv a.1.toList))]) [])) (.ok (.ret (.tup [.b minus, .s (nb (0 : Nat))]) []))) (.no 1)
theorem e75 (neg minus : Bool) (a b : ByteArray) : evF prog [(101, s108), (112, s111)] [] {} f61 [.b neg, .s a, .b minus, .s b] [] ql =
 Tr.br (neg == minus) (.br (decide (bv a.1.toList < 72057594037927936) && decide (bv b.1.toList < 72057594037927936)) (.ok (.ret (.tup [.b neg, .s (nb (bv a.1.toList + bv b.1.toList))]) [])) (.no 1)) (.br (decide (a.size <= 1048576) && decide (b.size <= 1048576)) (.br (decide (bv b.1.toList <= bv a.1.toList)) (.br (decide ((0 : Int) = 0)) (.ok (.ret (.tup [.b neg, .s (nb (bv a.1.toList - bv b.1.toList))]) [])) (ze751 minus a b)) (.br (decide ((1 : Int) = 0)) (.ok (.ret (.tup [.b neg, .s (nb (0 : Nat))]) [])) (ze751 minus a b))) (.no 1)) := by kernel_rfl
def s75 : Spec := fun args hs K => match args, hs with
 | [.b neg, .s a, .b minus, .s b], [] => .br (decide (a.size <= 8) && decide (b.size <= 8) && (!(neg == minus) || (decide (bv a.data.toList < 72057594037927936) && decide (bv b.data.toList < 72057594037927936))))
   (K (.tup [.b (sgn2 neg (bv a.data.toList) minus (bv b.data.toList)).1, .s (nb (sgn2 neg (bv a.data.toList) minus (bv b.data.toList)).2)]) []) (.no 1)
 | _, _ => .no 1
include hG in
theorem ok75 : qc prog G 61 s75 := by
 refine qp hG (.cons (ok108 hG) (.cons (ok111 hG) .nil)) mix enter75 (L := []) (pol := {}) fun args hs K x h => ?_
 unfold s75 at h
 split at h
 case h_2 => cases h
 rename_i neg a minus b
 obtain ⟨hc, hr⟩ := k8 h
 refine ⟨k9 (by kernel_rfl), _, _, _, ?_, .refl _, hr⟩
 rw [e75]; try unfold ze751
 simp only [kA, kD, Bool.or_eq_true] at hc
 unfold sgn2
 cases hn : neg == minus
 ·rw [k6 rfl, k5 (by simp only [kA, kD]; omega)]
  by_cases hle : bv b.data.toList <= bv a.data.toList
  ·rw [k5 (kE hle), k5 (by rfl), k7, if_pos hle]
  ·rw [k6 (kF hle), k6 (by rfl), k5 (by simp only [kA, kD]; omega), k5 (kE (by omega)), k7, if_neg hle]
 ·rw [hn] at hc
  have h2 := hc.2.resolve_left (by simp)
  rw [k5 rfl, k5 (by simp only [kA, kD]; omega), k7]
def s32 (x : Rat) : Bool := decide (x.num.natAbs < 4294967296) && decide (x.den < 4294967296)
theorem s32_iff {x : Rat} : s32 x = true ↔ x.num.natAbs < 4294967296 /\ x.den < 4294967296 := by simp [s32]
theorem s32_64 {x : Rat} (h : s32 x = true) : (decide (x.num.natAbs < 18446744073709551616) && decide (x.den < 18446744073709551616)) = true := by
 have := s32_iff.1 h
 simp only [kA, kD]; omega
theorem sz4 {n : Nat} (h : n < 4294967296) : (nb n).size <= 4 := nb_size_le (k := 4) (by omega)
theorem mul32 {n m : Nat} (h : n < 4294967296) (h' : m < 4294967296) : n * m < 18446744073709551616 := by
 have := Nat.mul_le_mul (show n <= 4294967295 by omega) (show m <= 4294967295 by omega)
 omega
theorem sgn2_le (neg : Bool) (a : Nat) (minus : Bool) (b : Nat) : (sgn2 neg a minus b).2 <= a + b := by
 unfold sgn2
 split
 ·exact Nat.le_refl _
 ·split
  ·show a - b <= _; omega
  ·show b - a <= _; omega
theorem enter21 : Enters prog 25 f25 (qd f25) := ⟨func25, by kernel_rfl, rfl⟩
theorem e21 (x y : Rat) (n m : Nat) : evF prog [(58, s74), (61, s75), (62, s76), (60, s77)] [] {} f25 [.q x n, .q y m] [] ql =
 Tr.br (decide (x.num.natAbs < 18446744073709551616) && decide (x.den < 18446744073709551616)) (.br (decide (y.num.natAbs < 18446744073709551616) && decide (y.den < 18446744073709551616)) (.br (decide (qt x = qt y)) (.br (decide ((qr x).size <= 8) && decide ((qr y).size <= 8) && (!qn x == qn y || decide (bv (qa x.num.natAbs x.num.natAbs []).toArray.toList < 72057594037927936) && decide (bv (qa y.num.natAbs y.num.natAbs []).toArray.toList < 72057594037927936))) (.br (decide (nb (sgn2 (qn x) (bv (qa x.num.natAbs x.num.natAbs []).toArray.toList) (qn y) (bv (qa y.num.natAbs y.num.natAbs []).toArray.toList)).2 = nb (bv (qa (sgn2 (qn x) (bv (qa x.num.natAbs x.num.natAbs []).toArray.toList) (qn y) (bv (qa y.num.natAbs y.num.natAbs []).toArray.toList)).2 (sgn2 (qn x) (bv (qa x.num.natAbs x.num.natAbs []).toArray.toList) (qn y) (bv (qa y.num.natAbs y.num.natAbs []).toArray.toList)).2 []).toArray.toList)) && decide (qt x = nb (bv (qa x.den x.den []).toArray.toList)) && decide (bv (qa (sgn2 (qn x) (bv (qa x.num.natAbs x.num.natAbs []).toArray.toList) (qn y) (bv (qa y.num.natAbs y.num.natAbs []).toArray.toList)).2 (sgn2 (qn x) (bv (qa x.num.natAbs x.num.natAbs []).toArray.toList) (qn y) (bv (qa y.num.natAbs y.num.natAbs []).toArray.toList)).2 []).toArray.toList < 18446744073709551616) && decide (bv (qa x.den x.den []).toArray.toList < 18446744073709551616) && decide ((0 : Nat) < bv (qa x.den x.den []).toArray.toList)) (.ok (.ret (.q (mkz (sgn2 (qn x) (bv (qa x.num.natAbs x.num.natAbs []).toArray.toList) (qn y) (bv (qa y.num.natAbs y.num.natAbs []).toArray.toList)).1 (bv (qa (sgn2 (qn x) (bv (qa x.num.natAbs x.num.natAbs []).toArray.toList) (qn y) (bv (qa y.num.natAbs y.num.natAbs []).toArray.toList)).2 (sgn2 (qn x) (bv (qa x.num.natAbs x.num.natAbs []).toArray.toList) (qn y) (bv (qa y.num.natAbs y.num.natAbs []).toArray.toList)).2 []).toArray.toList) (bv (qa x.den x.den []).toArray.toList)) 64) [])) (.no 1)) (.no 1)) (.br (decide ((nb (bv (qa x.num.natAbs x.num.natAbs []).toArray.toList)).size + (nb (bv (qa y.den y.den []).toArray.toList)).size <= 8)) (.br (decide ((nb (bv (qa y.num.natAbs y.num.natAbs []).toArray.toList)).size + (nb (bv (qa x.den x.den []).toArray.toList)).size <= 8)) (.br (decide ((nb (bv (qa x.num.natAbs x.num.natAbs []).toArray.toList * bv (qa y.den y.den []).toArray.toList)).size <= 8) && decide ((nb (bv (qa y.num.natAbs y.num.natAbs []).toArray.toList * bv (qa x.den x.den []).toArray.toList)).size <= 8) && (!qn x == qn y || decide (bv (qa (bv (qa x.num.natAbs x.num.natAbs []).toArray.toList * bv (qa y.den y.den []).toArray.toList) (bv (qa x.num.natAbs x.num.natAbs []).toArray.toList * bv (qa y.den y.den []).toArray.toList) []).toArray.toList < 72057594037927936) && decide (bv (qa (bv (qa y.num.natAbs y.num.natAbs []).toArray.toList * bv (qa x.den x.den []).toArray.toList) (bv (qa y.num.natAbs y.num.natAbs []).toArray.toList * bv (qa x.den x.den []).toArray.toList) []).toArray.toList < 72057594037927936))) (.br (decide ((nb (bv (qa x.den x.den []).toArray.toList)).size + (nb (bv (qa y.den y.den []).toArray.toList)).size <= 8)) (.br (decide (nb (sgn2 (qn x) (bv (qa (bv (qa x.num.natAbs x.num.natAbs []).toArray.toList * bv (qa y.den y.den []).toArray.toList) (bv (qa x.num.natAbs x.num.natAbs []).toArray.toList * bv (qa y.den y.den []).toArray.toList) []).toArray.toList) (qn y) (bv (qa (bv (qa y.num.natAbs y.num.natAbs []).toArray.toList * bv (qa x.den x.den []).toArray.toList) (bv (qa y.num.natAbs y.num.natAbs []).toArray.toList * bv (qa x.den x.den []).toArray.toList) []).toArray.toList)).2 = nb (bv (qa (sgn2 (qn x) (bv (qa (bv (qa x.num.natAbs x.num.natAbs []).toArray.toList * bv (qa y.den y.den []).toArray.toList) (bv (qa x.num.natAbs x.num.natAbs []).toArray.toList * bv (qa y.den y.den []).toArray.toList) []).toArray.toList) (qn y) (bv (qa (bv (qa y.num.natAbs y.num.natAbs []).toArray.toList * bv (qa x.den x.den []).toArray.toList) (bv (qa y.num.natAbs y.num.natAbs []).toArray.toList * bv (qa x.den x.den []).toArray.toList) []).toArray.toList)).2 (sgn2 (qn x) (bv (qa (bv (qa x.num.natAbs x.num.natAbs []).toArray.toList * bv (qa y.den y.den []).toArray.toList) (bv (qa x.num.natAbs x.num.natAbs []).toArray.toList * bv (qa y.den y.den []).toArray.toList) []).toArray.toList) (qn y) (bv (qa (bv (qa y.num.natAbs y.num.natAbs []).toArray.toList * bv (qa x.den x.den []).toArray.toList) (bv (qa y.num.natAbs y.num.natAbs []).toArray.toList * bv (qa x.den x.den []).toArray.toList) []).toArray.toList)).2 []).toArray.toList)) && decide (nb (bv (qa x.den x.den []).toArray.toList * bv (qa y.den y.den []).toArray.toList) = nb (bv (qa (bv (qa x.den x.den []).toArray.toList * bv (qa y.den y.den []).toArray.toList) (bv (qa x.den x.den []).toArray.toList * bv (qa y.den y.den []).toArray.toList) []).toArray.toList)) && decide (bv (qa (sgn2 (qn x) (bv (qa (bv (qa x.num.natAbs x.num.natAbs []).toArray.toList * bv (qa y.den y.den []).toArray.toList) (bv (qa x.num.natAbs x.num.natAbs []).toArray.toList * bv (qa y.den y.den []).toArray.toList) []).toArray.toList) (qn y) (bv (qa (bv (qa y.num.natAbs y.num.natAbs []).toArray.toList * bv (qa x.den x.den []).toArray.toList) (bv (qa y.num.natAbs y.num.natAbs []).toArray.toList * bv (qa x.den x.den []).toArray.toList) []).toArray.toList)).2 (sgn2 (qn x) (bv (qa (bv (qa x.num.natAbs x.num.natAbs []).toArray.toList * bv (qa y.den y.den []).toArray.toList) (bv (qa x.num.natAbs x.num.natAbs []).toArray.toList * bv (qa y.den y.den []).toArray.toList) []).toArray.toList) (qn y) (bv (qa (bv (qa y.num.natAbs y.num.natAbs []).toArray.toList * bv (qa x.den x.den []).toArray.toList) (bv (qa y.num.natAbs y.num.natAbs []).toArray.toList * bv (qa x.den x.den []).toArray.toList) []).toArray.toList)).2 []).toArray.toList < 18446744073709551616) && decide (bv (qa (bv (qa x.den x.den []).toArray.toList * bv (qa y.den y.den []).toArray.toList) (bv (qa x.den x.den []).toArray.toList * bv (qa y.den y.den []).toArray.toList) []).toArray.toList < 18446744073709551616) && decide ((0 : Nat) < bv (qa (bv (qa x.den x.den []).toArray.toList * bv (qa y.den y.den []).toArray.toList) (bv (qa x.den x.den []).toArray.toList * bv (qa y.den y.den []).toArray.toList) []).toArray.toList)) (.ok (.ret (.q (mkz (sgn2 (qn x) (bv (qa (bv (qa x.num.natAbs x.num.natAbs []).toArray.toList * bv (qa y.den y.den []).toArray.toList) (bv (qa x.num.natAbs x.num.natAbs []).toArray.toList * bv (qa y.den y.den []).toArray.toList) []).toArray.toList) (qn y) (bv (qa (bv (qa y.num.natAbs y.num.natAbs []).toArray.toList * bv (qa x.den x.den []).toArray.toList) (bv (qa y.num.natAbs y.num.natAbs []).toArray.toList * bv (qa x.den x.den []).toArray.toList) []).toArray.toList)).1 (bv (qa (sgn2 (qn x) (bv (qa (bv (qa x.num.natAbs x.num.natAbs []).toArray.toList * bv (qa y.den y.den []).toArray.toList) (bv (qa x.num.natAbs x.num.natAbs []).toArray.toList * bv (qa y.den y.den []).toArray.toList) []).toArray.toList) (qn y) (bv (qa (bv (qa y.num.natAbs y.num.natAbs []).toArray.toList * bv (qa x.den x.den []).toArray.toList) (bv (qa y.num.natAbs y.num.natAbs []).toArray.toList * bv (qa x.den x.den []).toArray.toList) []).toArray.toList)).2 (sgn2 (qn x) (bv (qa (bv (qa x.num.natAbs x.num.natAbs []).toArray.toList * bv (qa y.den y.den []).toArray.toList) (bv (qa x.num.natAbs x.num.natAbs []).toArray.toList * bv (qa y.den y.den []).toArray.toList) []).toArray.toList) (qn y) (bv (qa (bv (qa y.num.natAbs y.num.natAbs []).toArray.toList * bv (qa x.den x.den []).toArray.toList) (bv (qa y.num.natAbs y.num.natAbs []).toArray.toList * bv (qa x.den x.den []).toArray.toList) []).toArray.toList)).2 []).toArray.toList) (bv (qa (bv (qa x.den x.den []).toArray.toList * bv (qa y.den y.den []).toArray.toList) (bv (qa x.den x.den []).toArray.toList * bv (qa y.den y.den []).toArray.toList) []).toArray.toList)) 64) [])) (.no 1)) (.no 1)) (.no 1)) (.no 1)) (.no 1))) (.no 1)) (.no 1) := by kernel_rfl
def s21 : Spec := fun args hs K => match args, hs with
 | [.q x _, .q y _], [] => .br (s32 x && s32 y && decide (x.num.natAbs * y.den < 72057594037927936) && decide (y.num.natAbs * x.den < 72057594037927936)) (K (.q (x + y) 64) []) (.no 1)
 | _, _ => .no 1
include hG in
theorem orc21 : OrcOK prog G [(58, s74), (61, s75), (62, s76), (60, s77)] := .cons (ok74 hG) (.cons (ok75 hG) (.cons (ok76 hG) (.cons (ok77 hG) .nil)))
include hG in
theorem ok21 : qc prog G 25 s21 := by
 refine qp hG (orc21 hG) mix enter21 (L := []) (pol := {}) fun args hs K x h => ?_
 unfold s21 at h
 split at h
 case h_2 => cases h
 rename_i x n y m
 obtain ⟨hc, hr⟩ := k8 h
 refine ⟨k9 (by kernel_rfl), _, _, _, ?_, .refl _, hr⟩
 simp only [kA, kD] at hc
 obtain ⟨⟨⟨hx, hy⟩, hp⟩, hq⟩ := hc
 obtain ⟨x1, x2⟩ := s32_iff.1 hx
 obtain ⟨y1, y2⟩ := s32_iff.1 hy
 have dx := x.den_pos
 have dy := y.den_pos
 have a1 := sz4 x1
 have a2 := sz4 x2
 have a3 := sz4 y1
 have a4 := sz4 y2
 rw [e21, k5 (s32_64 hx), k5 (s32_64 hy)]
 simp only [bv_nb', bv_nb2, decide_true, Bool.true_and]
 by_cases hd : x.den = y.den
 ·have hb := sgn2_le (qn x) x.num.natAbs (qn y) y.num.natAbs
  have r1 : (qr x).size <= 4 := a1
  have r2 : (qr y).size <= 4 := a3
  rw [k5 (kE (show qt x = qt y by rw [rden_eq, rden_eq, hd])), k5 (by
    simp only [kA, Bool.or_eq_true, kD]; exact ⟨⟨by omega, by omega⟩, Or.inr ⟨by omega, by omega⟩⟩),
   k5 (by simp only [kA, kD]; exact ⟨⟨⟨rfl, by omega⟩, by omega⟩, by omega⟩), k7, <- rat_add_same x y hd]
 ·have b1 := nb_size_le (k := 7) (show x.num.natAbs * y.den < 256 ^ 7 by omega)
  have b2 := nb_size_le (k := 7) (show y.num.natAbs * x.den < 256 ^ 7 by omega)
  have b3 := sgn2_le (qn x) (x.num.natAbs * y.den) (qn y) (y.num.natAbs * x.den)
  have b4 := mul32 x2 y2
  have b5 := Nat.mul_pos dx dy
  rw [k6 (kF (show ¬ qt x = qt y from fun h => hd (nb_inj h))), k5 (kE (by omega)), k5 (kE (by omega)), k5 (by
    simp only [kA, Bool.or_eq_true, kD]; exact ⟨⟨by omega, by omega⟩, Or.inr ⟨by omega, by omega⟩⟩),
   k5 (kE (by omega)), k5 (by simp only [kA, kD]; exact ⟨⟨by omega, by omega⟩, by omega⟩), k7, <- rat_add_mkz x y]
theorem enter43 : Enters prog 75 f75 (qd f75) := ⟨func75, by kernel_rfl, rfl⟩
theorem e43 (x y : Rat) (n m : Nat) : evF prog [(58, s74), (62, s76), (60, s77)] [] {} f75 [.q x n, .q y m] [] ql =
 Tr.br (decide (x.num.natAbs < 18446744073709551616) && decide (x.den < 18446744073709551616)) (.br (decide (y.num.natAbs < 18446744073709551616) && decide (y.den < 18446744073709551616)) (.br (decide ((nb (bv (qa x.num.natAbs x.num.natAbs []).toArray.toList)).size + (nb (bv (qa y.num.natAbs y.num.natAbs []).toArray.toList)).size <= 8)) (.br (decide ((nb (bv (qa x.den x.den []).toArray.toList)).size + (nb (bv (qa y.den y.den []).toArray.toList)).size <= 8)) (.br (decide (nb (bv (qa x.num.natAbs x.num.natAbs []).toArray.toList * bv (qa y.num.natAbs y.num.natAbs []).toArray.toList) = nb (bv (qa (bv (qa x.num.natAbs x.num.natAbs []).toArray.toList * bv (qa y.num.natAbs y.num.natAbs []).toArray.toList) (bv (qa x.num.natAbs x.num.natAbs []).toArray.toList * bv (qa y.num.natAbs y.num.natAbs []).toArray.toList) []).toArray.toList)) && decide (nb (bv (qa x.den x.den []).toArray.toList * bv (qa y.den y.den []).toArray.toList) = nb (bv (qa (bv (qa x.den x.den []).toArray.toList * bv (qa y.den y.den []).toArray.toList) (bv (qa x.den x.den []).toArray.toList * bv (qa y.den y.den []).toArray.toList) []).toArray.toList)) && decide (bv (qa (bv (qa x.num.natAbs x.num.natAbs []).toArray.toList * bv (qa y.num.natAbs y.num.natAbs []).toArray.toList) (bv (qa x.num.natAbs x.num.natAbs []).toArray.toList * bv (qa y.num.natAbs y.num.natAbs []).toArray.toList) []).toArray.toList < 18446744073709551616) && decide (bv (qa (bv (qa x.den x.den []).toArray.toList * bv (qa y.den y.den []).toArray.toList) (bv (qa x.den x.den []).toArray.toList * bv (qa y.den y.den []).toArray.toList) []).toArray.toList < 18446744073709551616) && decide ((0 : Nat) < bv (qa (bv (qa x.den x.den []).toArray.toList * bv (qa y.den y.den []).toArray.toList) (bv (qa x.den x.den []).toArray.toList * bv (qa y.den y.den []).toArray.toList) []).toArray.toList)) (.ok (.ret (.q (mkz (!qn x == qn y) (bv (qa (bv (qa x.num.natAbs x.num.natAbs []).toArray.toList * bv (qa y.num.natAbs y.num.natAbs []).toArray.toList) (bv (qa x.num.natAbs x.num.natAbs []).toArray.toList * bv (qa y.num.natAbs y.num.natAbs []).toArray.toList) []).toArray.toList) (bv (qa (bv (qa x.den x.den []).toArray.toList * bv (qa y.den y.den []).toArray.toList) (bv (qa x.den x.den []).toArray.toList * bv (qa y.den y.den []).toArray.toList) []).toArray.toList)) 64) [])) (.no 1)) (.no 1)) (.no 1)) (.no 1)) (.no 1) := by kernel_rfl
def s43 : Spec := fun args hs K => match args, hs with
 | [.q x _, .q y _], [] => .br (s32 x && s32 y) (K (.q (x * y) 64) []) (.no 1)
 | _, _ => .no 1
include hG in
theorem orc43 : OrcOK prog G [(58, s74), (62, s76), (60, s77)] := .cons (ok74 hG) (.cons (ok76 hG) (.cons (ok77 hG) .nil))
include hG in
theorem ok43 : qc prog G 75 s43 := by
 refine qp hG (orc43 hG) mix enter43 (L := []) (pol := {}) fun args hs K x h => ?_
 unfold s43 at h
 split at h
 case h_2 => cases h
 rename_i x n y m
 obtain ⟨hc, hr⟩ := k8 h
 refine ⟨k9 (by kernel_rfl), _, _, _, ?_, .refl _, hr⟩
 simp only [kA] at hc
 obtain ⟨hx, hy⟩ := hc
 obtain ⟨x1, x2⟩ := s32_iff.1 hx
 obtain ⟨y1, y2⟩ := s32_iff.1 hy
 have dx := x.den_pos
 have dy := y.den_pos
 have a1 := sz4 x1
 have a2 := sz4 x2
 have a3 := sz4 y1
 have a4 := sz4 y2
 have b1 := mul32 x1 y1
 have b4 := mul32 x2 y2
 have b5 := Nat.mul_pos dx dy
 rw [e43, k5 (s32_64 hx), k5 (s32_64 hy)]
 simp only [bv_nb', bv_nb2, decide_true, Bool.true_and]
 rw [k5 (kE (by omega)), k5 (kE (by omega)), k5 (by simp only [kA, kD]; exact ⟨⟨by omega, by omega⟩, by omega⟩), k7, rat_mul_mkz x y]
 rfl
theorem enter72 : Enters prog 86 f86 (qd f86) := ⟨func86, by kernel_rfl, rfl⟩
theorem rneg_inv (y : Rat) : qn y⁻¹ = qn y := by
 unfold qn
 rw [Rat.num_inv]
 have hd := y.den_pos
 by_cases h : y.num < 0
 ·rw [kE h, Int.sign_eq_neg_one_of_neg h]; exact kE (by omega)
 ·rw [kF h]
  apply kF
  rcases (show y.num = 0 \/ 0 < y.num by omega) with h0 | h0
  ·rw [h0]; simp
  ·rw [Int.sign_eq_one_of_pos h0]; omega
theorem rat_div_mkz (x y : Rat) (hy : y.num.natAbs ≠ 0) : x / y = mkz (qn x != qn y) (x.num.natAbs * y.den) (x.den * y.num.natAbs) := by
 rw [Rat.div_def, rat_mul_mkz, rneg_inv, Rat.num_inv, Rat.den_inv, if_neg (by omega), Int.natAbs_mul, Int.natAbs_natCast]
 have : y.num.sign.natAbs = 1 := by rw [Int.natAbs_sign_of_ne_zero (by omega)]
 rw [this, Nat.one_mul]
theorem enter83 : Enters prog 102 f102 (qd f102) := ⟨func102, by kernel_rfl, rfl⟩
theorem e83 (x : Rat) (n : Nat) : evF prog [(58, s74)] [] {} f102 [.q x n] [] ql =
 Tr.br (decide (x.num.natAbs < 18446744073709551616) && decide (x.den < 18446744073709551616)) (.br (!qn x) (.ok (.ret (.agg [.b !decide (qr x = ByteArray.mk #[]), .s (qr x), .s (qt x)]) [])) (.ok (.ret (.agg [.bl false, .s (qr x), .s (qt x)]) []))) (.no 1) := by kernel_rfl
def s64 (x : Rat) : Bool := decide (x.num.natAbs < 18446744073709551616) && decide (x.den < 18446744073709551616)
theorem s64_sz {x : Rat} (h : s64 x = true) : sz x <= 64 := by
 simp only [s64, kA, kD] at h
 exact sz_le (by omega) (by omega) (by omega)
theorem neg_natAbs (x : Rat) : (-x).num.natAbs = x.num.natAbs := by rw [Rat.neg_num, Int.natAbs_neg]
theorem neg_den (x : Rat) : (-x).den = x.den := rfl
theorem s64_neg (x : Rat) : s64 (-x) = s64 x := by unfold s64; rw [neg_natAbs, neg_den]
theorem s32_neg (x : Rat) : s32 (-x) = s32 x := by unfold s32; rw [neg_natAbs, neg_den]
def s83 : Spec := fun args hs K => match args, hs with
 | [.q x _], [] => .br (s64 x) (K (.q (-x) 64) []) (.no 1)
 | _, _ => .no 1
theorem rnum_neg (x : Rat) : qr (-x) = qr x := by rw [rnum_eq, rnum_eq, neg_natAbs]
theorem rden_neg (x : Rat) : qt (-x) = qt x := rfl
include hG in
theorem orc74 : OrcOK prog G [(58, s74)] := .cons (ok74 hG) .nil
include hG in
theorem ok83 : qc prog G 102 s83 := by
 refine qp hG (orc74 hG) mix enter83 (L := []) (pol := {}) fun args hs K x h => ?_
 unfold s83 at h
 split at h
 case h_2 => cases h
 rename_i x n
 obtain ⟨hc, hr⟩ := k8 h
 refine ⟨k9 (by kernel_rfl), ?_⟩
 have hz : sz (-x) <= 64 := s64_sz (by rw [s64_neg]; exact hc)
 rw [e83, k5 (show (decide (x.num.natAbs < 18446744073709551616) && decide (x.den < 18446744073709551616)) = true from hc), <- rnum_neg, <- rden_neg]
 by_cases h : qn x = true
 ·rw [k6 (by rw [h]; rfl)]
  refine ⟨_, _, _, rfl, rle_q ?_ hz, hr⟩
  have : x.num < 0 := of_decide_eq_true h
  show some false = some (decide (-x.num < 0))
  rw [kF (by omega)]
 ·rw [k5 (by rw [Bool.not_eq_true] at h; rw [h]; rfl)]
  refine ⟨_, _, _, rfl, rle_q ?_ hz, hr⟩
  have h0 : ¬ x.num < 0 := fun h' => h (kE h')
  show some (!decide (qr (-x) = ⟨#[]⟩)) = some (decide (-x.num < 0))
  congr 1
  by_cases h1 : x.num = 0
  ·rw [kE ((qG _).2 (by rw [neg_natAbs]; omega)), kF (by omega)]; rfl
  ·rw [kF (fun h => by have := (qG _).1 h; rw [neg_natAbs] at this; omega), kE (by omega)]; rfl
theorem rneg_iff {x : Rat} : qn x = true ↔ x < 0 := by
 unfold qn
 rw [kD, <- Rat.not_le, <- Rat.num_nonneg]; omega
theorem enter26 : Enters prog 97 f97 (qd f97) := ⟨func97, by kernel_rfl, rfl⟩
theorem e26 (x : Rat) (n : Nat) : evF prog [(58, s74)] [] {} f97 [.q x n] [] ql =
 Tr.br (decide (x.num.natAbs < 18446744073709551616) && decide (x.den < 18446744073709551616)) (.br (decide (qr x = ByteArray.mk #[])) (.ok (.ret (.i .i64 0) [])) (.br (qn x) (.ok (.ret (.i .i64 (-1)) [])) (.ok (.ret (.i .i64 1) [])))) (.no 1) := by kernel_rfl
def s26 : Spec := fun args hs K => match args, hs with
 | [.q x _], [] => .br (s64 x) (K (.i .i64 (rcmp x 0)) []) (.no 1)
 | _, _ => .no 1
include hG in
theorem ok26 : qc prog G 97 s26 := by
 refine qp hG (orc74 hG) mix enter26 (L := []) (pol := {}) fun args hs K x h => ?_
 unfold s26 at h
 split at h
 case h_2 => cases h
 rename_i x n
 obtain ⟨hc, hr⟩ := k8 h
 refine ⟨k9 (by kernel_rfl), _, _, _, ?_, .refl _, hr⟩
 rw [e26, k5 (show (decide (x.num.natAbs < 18446744073709551616) && decide (x.den < 18446744073709551616)) = true from hc)]
 unfold rcmp
 by_cases h0 : x.num.natAbs = 0
 ·have : x = 0 := Rat.num_eq_zero.1 (by omega)
  rw [k5 (kE ((qG x).2 h0)), k7]
  subst this
  rfl
 ·rw [k6 (kF (fun h => h0 ((qG x).1 h)))]
  by_cases h1 : x < 0
  ·rw [k5 (rneg_iff.2 h1), if_pos h1]; rfl
  ·have h2 : 0 < x := by
    have hne : x ≠ 0 := fun h => h0 (by rw [h]; rfl)
    grind
   rw [k6 (by rw [Bool.eq_false_iff, Ne, rneg_iff]; exact h1), if_neg h1, if_pos h2]; rfl
theorem enter27 : Enters prog 23 f23 (qd f23) := ⟨func23, by kernel_rfl, rfl⟩
theorem e27 (x y : Rat) (n m : Nat) : evF prog [(58, s74), (60, s77), (59, s82)] [] {} f23 [.q x n, .q y m] [] ql =
 Tr.br (decide (x.num.natAbs < 18446744073709551616) && decide (x.den < 18446744073709551616)) (.br (decide (y.num.natAbs < 18446744073709551616) && decide (y.den < 18446744073709551616)) (.br (!qn x == qn y) (.br (qn x) (.ok (.ret (.i .i64 (-1)) [])) (.ok (.ret (.i .i64 1) []))) (.br (decide ((nb (bv (qa x.num.natAbs x.num.natAbs []).toArray.toList)).size + (nb (bv (qa y.den y.den []).toArray.toList)).size <= 8)) (.br (decide ((nb (bv (qa y.num.natAbs y.num.natAbs []).toArray.toList)).size + (nb (bv (qa x.den x.den []).toArray.toList)).size <= 8)) (.br (qn x) (.br (ib (0 - ncmp (bv (qa (bv (qa x.num.natAbs x.num.natAbs []).toArray.toList * bv (qa y.den y.den []).toArray.toList) (bv (qa x.num.natAbs x.num.natAbs []).toArray.toList * bv (qa y.den y.den []).toArray.toList) []).toArray.toList) (bv (qa (bv (qa y.num.natAbs y.num.natAbs []).toArray.toList * bv (qa x.den x.den []).toArray.toList) (bv (qa y.num.natAbs y.num.natAbs []).toArray.toList * bv (qa x.den x.den []).toArray.toList) []).toArray.toList))) (.ok (.ret (.i .i64 (0 - ncmp (bv (qa (bv (qa x.num.natAbs x.num.natAbs []).toArray.toList * bv (qa y.den y.den []).toArray.toList) (bv (qa x.num.natAbs x.num.natAbs []).toArray.toList * bv (qa y.den y.den []).toArray.toList) []).toArray.toList) (bv (qa (bv (qa y.num.natAbs y.num.natAbs []).toArray.toList * bv (qa x.den x.den []).toArray.toList) (bv (qa y.num.natAbs y.num.natAbs []).toArray.toList * bv (qa x.den x.den []).toArray.toList) []).toArray.toList))) [])) (.no 9002)) (.ok (.ret (.i .i64 (ncmp (bv (qa (bv (qa x.num.natAbs x.num.natAbs []).toArray.toList * bv (qa y.den y.den []).toArray.toList) (bv (qa x.num.natAbs x.num.natAbs []).toArray.toList * bv (qa y.den y.den []).toArray.toList) []).toArray.toList) (bv (qa (bv (qa y.num.natAbs y.num.natAbs []).toArray.toList * bv (qa x.den x.den []).toArray.toList) (bv (qa y.num.natAbs y.num.natAbs []).toArray.toList * bv (qa x.den x.den []).toArray.toList) []).toArray.toList))) []))) (.no 1)) (.no 1))) (.no 1)) (.no 1) := by kernel_rfl
theorem sg_mul (b : Bool) (n m : Nat) : sg b n * (m : Int) = sg b (n * m) := by cases b <;> simp [sg, Int.neg_mul]
theorem rcmp_sg (x y : Rat) : rcmp x y = if sg (qn x) (x.num.natAbs * y.den) < sg (qn y) (y.num.natAbs * x.den) then -1 else if sg (qn y) (y.num.natAbs * x.den) < sg (qn x) (x.num.natAbs * y.den) then 1 else 0 := by
 rw [rcmp_cross, <- sg_mul, <- sg_mul, sg_num, sg_num]
def s27 : Spec := fun args hs K => match args, hs with
 | [.q x _, .q y _], [] => .br (s32 x && s32 y) (K (.i .i64 (rcmp x y)) []) (.no 1)
 | _, _ => .no 1
theorem neg_ncmp (P Q : Nat) : 0 - ncmp P Q = if -(P : Int) < -(Q : Int) then -1 else if -(Q : Int) < -(P : Int) then 1 else 0 := by
 unfold ncmp
 rcases Nat.lt_trichotomy P Q with h | h | h
 ·rw [if_pos h, if_neg (by omega), if_pos (by omega)]; rfl
 ·rw [if_neg (by omega), if_neg (by omega), if_neg (by omega), if_neg (by omega)]; rfl
 ·rw [if_neg (by omega), if_pos h, if_pos (by omega)]; rfl
theorem ncmp_range (n m : Nat) : -1 <= ncmp n m /\ ncmp n m <= 1 := by
 unfold ncmp; split
 ·omega
 ·split <;> omega
include hG in
theorem orc27 : OrcOK prog G [(58, s74), (60, s77), (59, s82)] := .cons (ok74 hG) (.cons (ok77 hG) (.cons (ok82 hG) .nil))
include hG in
theorem ok27 : qc prog G 23 s27 := by
 refine qp hG (orc27 hG) mix enter27 (L := []) (pol := {}) fun args hs K x h => ?_
 unfold s27 at h
 split at h
 case h_2 => cases h
 rename_i x n y m
 obtain ⟨hc, hr⟩ := k8 h
 refine ⟨k9 (by kernel_rfl), _, _, _, ?_, .refl _, hr⟩
 simp only [kA] at hc
 obtain ⟨hx, hy⟩ := hc
 obtain ⟨x1, x2⟩ := s32_iff.1 hx
 obtain ⟨y1, y2⟩ := s32_iff.1 hy
 have a1 := sz4 x1
 have a2 := sz4 x2
 have a3 := sz4 y1
 have a4 := sz4 y2
 have p1 := x.den_pos
 have p2 := y.den_pos
 rw [e27, k5 (s32_64 hx), k5 (s32_64 hy), rcmp_sg]
 simp only [bv_nb', bv_nb2]
 have nz : ∀ z : Rat, qn z = true -> 0 < z.num.natAbs := by
  intro z hz
  have : z.num < 0 := of_decide_eq_true hz
  omega
 cases hnx : qn x <;> cases hny : qn y
 ·rw [k6 (by rfl), k5 (kE (by omega)), k5 (kE (by omega)), k6 rfl, k7]
  unfold ncmp
  simp only [sg]
  simp only [Int.ofNat_lt]
 ·have h1 := Nat.mul_pos (nz y hny) p1
  rw [k5 (by rfl), k6 rfl, k7, if_neg (by simp only [sg]; omega), if_pos (by simp only [sg]; omega)]
 ·have h1 := Nat.mul_pos (nz x hnx) p2
  rw [k5 (by rfl), k5 rfl, k7, if_pos (by simp only [sg]; omega)]
 ·have hn := ncmp_range (x.num.natAbs * y.den) (y.num.natAbs * x.den)
  rw [k6 (by rfl), k5 (kE (by omega)), k5 (kE (by omega)), k5 rfl, k5 (by simp only [kA, kD]; omega), k7]
  rw [neg_ncmp]
  rfl
theorem enter71 : Enters prog 53 f53 (qd f53) := ⟨func53, by kernel_rfl, rfl⟩
theorem e71 (n : Int) : evF prog [(62, s76), (100, s107), (101, s108)] [] {} f53 [.i .i64 n] [] ql =
 Tr.br (decide (0 <= n)) (.br (decide (n <= 9223372036854775807)) (.br (decide (nb n.toNat = nb (bv (qa n.toNat n.toNat []).toArray.toList)) && decide (ByteArray.mk #[(1 : UInt8)] = nb (bv #[(1 : UInt8)].toList)) && decide (bv (qa n.toNat n.toNat []).toArray.toList < 18446744073709551616) && decide (bv #[(1 : UInt8)].toList < 18446744073709551616) && decide ((0 : Nat) < bv #[(1 : UInt8)].toList)) (.ok (.ret (.q (mkz false (bv (qa n.toNat n.toNat []).toArray.toList) (bv #[(1 : UInt8)].toList)) 64) [])) (.no 1)) (.no 1)) (.br (ib (n + 1)) (.br (ib (0 - (n + 1))) (.br (decide (0 - (n + 1) <= 9223372036854775807)) (.br (decide (bv (qa (0 - (n + 1)).toNat (0 - (n + 1)).toNat []).toArray.toList < 72057594037927936) && decide (bv #[(1 : UInt8)].toList < 72057594037927936)) (.br (decide (nb (bv (qa (0 - (n + 1)).toNat (0 - (n + 1)).toNat []).toArray.toList + bv #[(1 : UInt8)].toList) = nb (bv (qa (bv (qa (0 - (n + 1)).toNat (0 - (n + 1)).toNat []).toArray.toList + bv #[(1 : UInt8)].toList) (bv (qa (0 - (n + 1)).toNat (0 - (n + 1)).toNat []).toArray.toList + bv #[(1 : UInt8)].toList) []).toArray.toList)) && decide (ByteArray.mk #[(1 : UInt8)] = nb (bv #[(1 : UInt8)].toList)) && decide (bv (qa (bv (qa (0 - (n + 1)).toNat (0 - (n + 1)).toNat []).toArray.toList + bv #[(1 : UInt8)].toList) (bv (qa (0 - (n + 1)).toNat (0 - (n + 1)).toNat []).toArray.toList + bv #[(1 : UInt8)].toList) []).toArray.toList < 18446744073709551616) && decide (bv #[(1 : UInt8)].toList < 18446744073709551616) && decide ((0 : Nat) < bv #[(1 : UInt8)].toList)) (.ok (.ret (.q (mkz true (bv (qa (bv (qa (0 - (n + 1)).toNat (0 - (n + 1)).toNat []).toArray.toList + bv #[(1 : UInt8)].toList) (bv (qa (0 - (n + 1)).toNat (0 - (n + 1)).toNat []).toArray.toList + bv #[(1 : UInt8)].toList) []).toArray.toList) (bv #[(1 : UInt8)].toList)) 64) [])) (.no 1)) (.no 1)) (.no 1)) (.no 4005)) (.no 4006)) := by kernel_rfl
def s71 : Spec := fun args hs K => match args, hs with
 | [.i .i64 n], [] => .br (decide (-72057594037927936 < n) && decide (n <= 9223372036854775807)) (K (.q (n : Rat) 64) []) (.no 1)
 | _, _ => .no 1
theorem mkz_int (neg : Bool) (n : Nat) : mkz neg n 1 = ((sg neg n : Int) : Rat) := by
 unfold mkz
 rw [Rat.mkRat_eq_div]
 show ((sg neg n : Int) : Rat) / ((1 : Nat) : Rat) = _
 have : ((1 : Nat) : Rat) = 1 := rfl
 rw [this]
 grind
theorem one_bv2 : bv [(1 : UInt8)] = 1 := (bv_one 1).trans (by decide)
theorem one_bv : bv #[(1 : UInt8)].toList = 1 := (bv_one 1).trans (by decide)
include hG in
theorem ok71 : qc prog G 53 s71 := by
 refine qp hG (.cons (ok76 hG) (.cons (ok107 hG) (.cons (ok108 hG) .nil))) mix enter71 (L := []) (pol := {}) fun args hs K x h => ?_
 unfold s71 at h
 split at h
 case h_2 => cases h
 rename_i n
 obtain ⟨hc, hr⟩ := k8 h
 refine ⟨k9 (by kernel_rfl), _, _, _, ?_, .refl _, hr⟩
 simp only [kA, kD] at hc
 have hone : ({ data := #[(1 : UInt8)] } : ByteArray) = nb 1 := nb_onev.symm
 rw [e71]
 simp only [bv_nb', bv_nb2, one_bv, one_bv2, hone, decide_true, Bool.true_and]
 by_cases h0 : 0 <= n
 ·rw [k5 (kE h0)]
  repeat rw [k5 (by simp only [kA, kD]; omega)]
  rw [k7, mkz_int]
  show some (Res.ret (.q (((n.toNat : Nat) : Int) : Rat) 64) []) = _
  rw [Int.toNat_of_nonneg h0]
 ·rw [k6 (kF h0)]
  repeat rw [k5 (by simp only [kA, kD]; omega)]
  rw [k7, mkz_int]
  show some (Res.ret (.q ((-(((0 - (n + 1)).toNat + 1 : Nat) : Int) : Int) : Rat) 64) []) = _
  rw [show -(((0 - (n + 1)).toNat + 1 : Nat) : Int) = n by omega]
end
section
namespace Prof
def mn (s t : Rat) : Rat := if s <= t then s else t
def ix (n k : Nat) : Nat := min k (n + 1 - k)
def cap (s a : Rat) (n k : Nat) : Rat := mn s (a * (ix n k : Nat))
def cov (s a : Rat) (n : Nat) : Nat -> Rat
 | 0 => 0
 | k + 1 => cov s a n k + cap s a n (k + 1)

variable {s a : Rat} {n : Nat}
def cover (s a : Rat) (n : Nat) : Rat := cov s a n n
def val (c s a : Rat) (n k : Nat) : Rat := c * cap s a n k
section
variable {c : Rat} (hc0 : 0 <= c) (hc1 : c <= 1) (hs : 0 <= s) (ha : 0 <= a)
end
end Prof
end
section
open Go Tryz
set_option maxRecDepth 100000
variable {G : World -> (Nat -> Prop) -> Prop} (hG : GOk G)
theorem enter29 : Enters prog 54 f54 (qd f54) := ⟨func54, by kernel_rfl, rfl⟩
theorem e29 (x y : Rat) (n m : Nat) : evF prog [(25, s21), (102, s83)] [] {} f54 [.q x n, .q y m] [] ql =
 Tr.br (s64 y) (.br (s32 x && s32 (-y) && decide (x.num.natAbs * (-y).den < 72057594037927936) && decide ((-y).num.natAbs * x.den < 72057594037927936)) (.ok (.ret (.q (x + -y) 64) [])) (.no 1)) (.no 1) := by kernel_rfl
def s29 : Spec := fun args hs K => match args, hs with
 | [.q x _, .q y _], [] => .br (s32 x && s32 y && decide (x.num.natAbs * y.den < 72057594037927936) && decide (y.num.natAbs * x.den < 72057594037927936)) (K (.q (x - y) 64) []) (.no 1)
 | _, _ => .no 1
theorem s32_s64 {x : Rat} (h : s32 x = true) : s64 x = true := s32_64 h
include hG in
theorem ok29 : qc prog G 54 s29 := by
 refine qp hG (.cons (ok21 hG) (.cons (ok83 hG) .nil)) mix enter29 (L := []) (pol := {}) fun args hs K x h => ?_
 unfold s29 at h
 split at h
 case h_2 => cases h
 rename_i x n y m
 obtain ⟨hc, hr⟩ := k8 h
 refine ⟨k9 (by kernel_rfl), _, _, _, ?_, .refl _, hr⟩
 have hc' := hc
 simp only [kA] at hc'
 rw [e29, k5 (s32_s64 hc'.1.1.2), k5 (by rw [s32_neg, neg_natAbs, neg_den]; exact hc), k7, Rat.sub_eq_add_neg]
theorem enter80 : Enters prog 121 f121 (qd f121) := ⟨func121, by kernel_rfl, rfl⟩
theorem enter86 : Enters prog 122 f122 (qd f122) := ⟨func122, by kernel_rfl, rfl⟩
def mx (x y : Rat) : Rat := if y <= x then x else y
theorem enter24 : Enters prog 28 f28 (qd f28) := ⟨func28, by kernel_rfl, rfl⟩
theorem e24 (x n : Int) : evF prog [] [] {} f28 [.i .i64 x, .i .i64 n] [] ql =
 Tr.br (!decide (n = 0)) (.br (decide (x.tmod n < 0)) (.br (ib (x.tmod n + n)) (.ok (.ret (.i .i64 (x.tmod n + n)) [])) (.no 4002)) (.ok (.ret (.i .i64 (x.tmod n)) []))) (.no 2002) := by kernel_rfl

def s24 : Spec := fun args hs K => match args, hs with
 | [.i .i64 x, .i .i64 n], [] => .br (decide (0 < n) && decide (n <= 4294967296)) (K (.i .i64 (x % n)) []) (.no 1)
 | _, _ => .no 1
include hG in
theorem ok24 : qc prog G 28 s24 := by
 refine qp hG .nil mix enter24 (L := []) (pol := {}) fun args hs K x h => ?_
 unfold s24 at h
 split at h
 case h_2 => cases h
 rename_i x n
 obtain ⟨hc, hr⟩ := k8 h
 refine ⟨k9 (by kernel_rfl), _, _, _, ?_, .refl _, hr⟩
 simp only [kA, kD] at hc
 have h1 := Int.tmod_lt_of_pos x hc.1
 have h2 := Int.emod_nonneg x (show n ≠ 0 by omega)
 have h3 := Int.emod_lt_of_pos x hc.1
 have h4 : x.tmod n = x % n \/ x.tmod n = x % n - n := by
  rw [Int.tmod_eq_emod]
  split
  ·exact .inl (by simp)
  ·refine .inr ?_
   rw [Int.natAbs_of_nonneg (by omega)]
 rw [e24, k5 (by rw [kJ, kK]; omega)]
 by_cases h : x.tmod n < 0
 ·rw [k5 (kE h), k5 (by simp only [kA, kD]; omega), k7, show x.tmod n + n = x % n by omega]
 ·rw [k6 (kF h), k7, show x.tmod n = x % n by omega]
theorem spec_ofQ {P : Program} {G : World -> (Nat -> Prop) -> Prop} (hG : GOk G) {O : Orc} (hO : OrcOK P G O) (hmix : P.follows .mixedOrders = true) {g : Nat} {fn : Func} {c : Code} (hg : Enters P g fn c) {L : Lps} {pol : Pol} {sp : Spec}
  (H : ∀ args hs K x, (sp args hs K).run = some x -> ∃ Q : Prop, (∀ w S μ vs, RepVL w S μ args vs -> Q) /\ LpsOK P G pol fn.ntmps hs.length L c /\ ∃ r' hs', (K r' hs').run = some x /\ (Q -> ∃ r, (evF P O L pol fn args hs ql).run = some (.ret r hs') /\ RLe r r')) : qc P G g sp := by
 intro args hs K x h
 obtain ⟨Q, hQ, hl, r', hs', h3, h4⟩ := H args hs K x h
 refine ⟨r', hs', fun w S μ vs hgw hr => ?_, h3⟩
 obtain ⟨r, h1, h2⟩ := h4 (hQ w S μ vs hr)
 exact (qj hG hO hmix hg hl h1).le h2 (.refl _) w S μ vs hgw hr
theorem q_szV {w : World} {S : Nat -> Prop} {μ : Mu} {x : Rat} {n : Nat} {v : Value} (h : RepV w S μ (.q x n) v) : sz x <= n := by
 cases h with
 | cell _ _ _ hv _ => cases hv
 | agg _ _ cs _ h => cases h; assumption
theorem q1_sz {x : Rat} {n : Nat} (w : World) (S : Nat -> Prop) (μ : Mu) (vs : List Value) (h : RepVL w S μ [.q x n] vs) : sz x <= n := by
 cases h with
 | cons _ _ _ _ _ h _ => exact q_szV h
theorem q2_sz {x y : Rat} {n m : Nat} (w : World) (S : Nat -> Prop) (μ : Mu) (vs : List Value) (h : RepVL w S μ [.q x n, .q y m] vs) : sz x <= n /\ sz y <= m := by
 cases h with
 | cons _ _ _ _ _ h h' =>
  cases h' with
  | cons _ _ _ _ _ h2 _ => exact ⟨q_szV h, q_szV h2⟩
theorem sz_lt {x : Rat} {n : Nat} (h : sz x <= n) : x.num.natAbs < 2 ^ n /\ x.den < 2 ^ n /\ 1 <= n := by
 unfold sz at h
 refine ⟨?_, ?_, by omega⟩
 ·by_cases h0 : x.num.natAbs = 0
  ·rw [h0]; exact Nat.pow_pos (by omega)
  ·exact (Nat.log2_lt h0).1 (by omega)
 ·exact (Nat.log2_lt x.den_nz).1 (by omega)
theorem nb_bits {k n : Nat} (h : k < 2 ^ n) : (nb k).size <= (n + 7) / 8 := by
 refine nb_size_le (Nat.lt_of_lt_of_le h ?_)
 have : 256 ^ ((n + 7) / 8) = 2 ^ (8 * ((n + 7) / 8)) := by rw [Nat.pow_mul]
 rw [this]
 exact Nat.pow_le_pow_right (by omega) (by omega)
theorem hz_bits {k n : Nat} (h : k < 2 ^ n) (hn : n <= 800000) : hz (nb k) = true := hz_iff.2 (by have := nb_bits h; omega)
theorem qE {k n : Nat} (h : k < 2 ^ n) (hn : n <= 800000) : bz (nb k) = true := bz_iff.2 (by have := nb_bits h; omega)
def muB (a b : ByteArray) : ByteArray := hide (nb (bv a.data.toList * bv b.data.toList))
def adB (a b : ByteArray) : ByteArray := hide (nb (bv a.data.toList + bv b.data.toList))
def suB (a b : ByteArray) : ByteArray := hide (nb (bv a.data.toList - bv b.data.toList))
def leB (a b : ByteArray) : Bool := hide (decide (bv a.data.toList <= bv b.data.toList))
def h77 : Spec := fun args hs K => match args, hs with
 | [.s a, .s b], [] => .br (bz a && bz b) (K (.s (muB a b)) []) (.no 1)
 | _, _ => .no 1
def h108 : Spec := fun args hs K => match args, hs with
 | [.s a, .s b], [] => .br (bz a && bz b) (K (.s (adB a b)) []) (.no 1)
 | _, _ => .no 1
def h111 : Spec := fun args hs K => match args, hs with
 | [.s a, .s b], [] => .br (bz a && bz b) (.br (leB b a) (K (.tup [.s (suB a b), .i .i64 0]) []) (K (.tup [.s ⟨#[]⟩, .i .i64 1]) [])) (.no 1)
 | _, _ => .no 1
include hG in
theorem hk77 : qc prog G 60 h77 := by
 intro args hs K x h
 unfold h77 at h
 split at h
 case h_2 => cases h
 rw [muB, qe] at h
 exact gk77 hG _ _ K x h
include hG in
theorem hk108 : qc prog G 101 h108 := by
 intro args hs K x h
 unfold h108 at h
 split at h
 case h_2 => cases h
 rw [adB, qe] at h
 exact gk108 hG _ _ K x h
include hG in
theorem hk111 : qc prog G 112 h111 := by
 intro args hs K x h
 unfold h111 at h
 split at h
 case h_2 => cases h
 obtain ⟨hc, hr⟩ := k8 h
 rw [suB, leB, qe, qe] at hr
 simp only [kA, bz_iff] at hc
 refine ok111 hG _ _ K x ?_
 show (Tr.br _ (Tr.br _ _ (K (.tup [.s (nb 0), .i .i64 1]) [])) _).run = _
 rw [k5 (by simp only [kA, kD]; omega), nb_zero]
 exact hr
abbrev zk1092 (x : Rat) : Tr := Tr.br (decide (qt x = ByteArray.mk #[(1 : UInt8)])) (.ok (.ret (.bl true) [])) (.br (hz (qr x) && hz (qt x)) (.ok (.ret (.b (decide (gdB (qr x) (qt x) = ByteArray.mk #[(1 : UInt8)]))) [])) (.no 1))
abbrev zk1091 (x : Rat) : Tr := Tr.br (!decide (qr x = ByteArray.mk #[])) (.br (ix ((0 : Int)) ((↑(qr x).size : Int))) (.br (decide ((↑((qa x.num.natAbs x.num.natAbs []).toArray.toList.getD (Int.toNat 0) (0 : UInt8)).toNat : Int) = (0 : Int))) (.ok (.ret (.bl false) [])) (zk1092 x)) (.no 2004)) (zk1092 x)
theorem k109 (x : Rat) (n : Nat) : evF prog [(113, h112)] [] {} f104 [.q x n] [] ql =
 Tr.br (decide (qt x = ByteArray.mk #[])) (.ok (.ret (.bl false) [])) (.br (ix ((0 : Int)) ((↑(qt x).size : Int))) (.br (decide ((↑((qa x.den x.den []).toArray.toList.getD (Int.toNat 0) (0 : UInt8)).toNat : Int) = 0)) (.ok (.ret (.bl false) [])) (.br (decide (qr x = ByteArray.mk #[])) (.br (qn x) (.ok (.ret (.bl false) [])) (.br (!decide (qt x = ByteArray.mk #[(1 : UInt8)])) (.ok (.ret (.bl false) [])) (zk1091 x))) (zk1091 x))) (.no 2028)) := by kernel_rfl
def g109 : Spec := fun args hs K => match args, hs with
 | [.q _ n], [] => .br (Nat.ble n 800000) (K (.bl true) []) (.no 1)
 | _, _ => .no 1
def g74 : Spec := fun args hs K => match args, hs with
 | [.q x n], [] => .br (Nat.ble n 800000) (K (.q x n) []) (.no 1)
 | _, _ => .no 1
theorem k74 (x : Rat) (n : Nat) : evF prog [(104, g109), (105, s110)] [] {} f58 [.q x n] [] ql =
 Tr.br (n.ble 800000) (.ok (.ret (.q x n) [])) (.no 1) := by kernel_rfl
def M76 (a d : ByteArray) (W : Nat) : Prop := a = nb (bv a.data.toList) /\ d = nb (bv d.data.toList) /\ 0 < bv d.data.toList /\ bv a.data.toList < 2 ^ W /\ bv d.data.toList < 2 ^ W /\ 0 < W /\ W <= 800000
def mkq (neg : Bool) (a d : ByteArray) : Rat := hide (mkz neg (bv a.data.toList) (bv d.data.toList))
def g76 (W : Nat) : Spec := fun args hs K => match args, hs with
 | [nv, .s a, .s d], [] => match bof nv with
  | some neg => .br (qg (M76 a d W)) (K (.q (mkq neg a d) W) []) (.no 1)
  | none => .no 1
 | _, _ => .no 1
def O76 : Orc := [(105, s110), (113, h112), (114, h113)]
theorem k76 (neg : Bool) (a d : ByteArray) : evF prog O76 [] {} f62 [.b neg, .s a, .s d] [] ql =
 Tr.br (decide (a = ByteArray.mk #[])) (.ok (.ret (.agg [.bl false, .s (ByteArray.mk #[]), .s (ByteArray.mk #[(1 : UInt8)])]) [])) (.br (!decide (d = ByteArray.mk #[(1 : UInt8)])) (.br (hz a && hz d) (.br (!decide (gdB a d = ByteArray.mk #[(1 : UInt8)])) (.br (bz a && bz (gdB a d) && decide ((0 : Nat) < val (gdB a d))) (.br (bz d && bz (gdB a d) && decide ((0 : Nat) < val (gdB a d))) (.ok (.ret (.agg [.b neg, .s (quB a (gdB a d)), .s (quB d (gdB a d))]) [])) (.no 1)) (.no 1)) (.ok (.ret (.agg [.b neg, .s a, .s d]) []))) (.no 1)) (.ok (.ret (.agg [.b neg, .s a, .s d]) []))) := by kernel_rfl
theorem k76l (neg : Bool) (a d : ByteArray) : evF prog O76 [] {} f62 [.bl neg, .s a, .s d] [] ql =
 Tr.br (decide (a = ByteArray.mk #[])) (.ok (.ret (.agg [.bl false, .s (ByteArray.mk #[]), .s (ByteArray.mk #[(1 : UInt8)])]) [])) (.br (!decide (d = ByteArray.mk #[(1 : UInt8)])) (.br (hz a && hz d) (.br (!decide (gdB a d = ByteArray.mk #[(1 : UInt8)])) (.br (bz a && bz (gdB a d) && decide ((0 : Nat) < val (gdB a d))) (.br (bz d && bz (gdB a d) && decide ((0 : Nat) < val (gdB a d))) (.ok (.ret (.agg [.bl neg, .s (quB a (gdB a d)), .s (quB d (gdB a d))]) [])) (.no 1)) (.no 1)) (.ok (.ret (.agg [.bl neg, .s a, .s d]) []))) (.no 1)) (.ok (.ret (.agg [.bl neg, .s a, .s d]) []))) := by kernel_rfl
def sgB (neg : Bool) (a : ByteArray) (minus : Bool) (b : ByteArray) : Bool := hide (sgn2 neg (bv a.data.toList) minus (bv b.data.toList)).1
def sgV (neg : Bool) (a : ByteArray) (minus : Bool) (b : ByteArray) : ByteArray := hide (nb (sgn2 neg (bv a.data.toList) minus (bv b.data.toList)).2)
def g75 : Spec := fun args hs K => match args, hs with
 | [.b neg, .s a, .b minus, .s b], [] => .br (bz a && bz b) (K (.tup [.b (sgB neg a minus b), .s (sgV neg a minus b)]) []) (.no 1)
 | _, _ => .no 1
theorem k75 (neg minus : Bool) (a b : ByteArray) : evF prog [(101, h108), (112, h111)] [] {} f61 [.b neg, .s a, .b minus, .s b] [] ql =
 Tr.br (neg == minus) (.br (bz a && bz b) (.ok (.ret (.tup [.b neg, .s (adB a b)]) [])) (.no 1)) (.br (bz a && bz b) (.br (leB b a) (.br (decide ((0 : Int) = 0)) (.ok (.ret (.tup [.b neg, .s (suB a b)]) [])) (.br (bz b && bz a) (.br (leB a b) (.ok (.ret (.tup [.b minus, .s (suB b a)]) [])) (.ok (.ret (.tup [.b minus, .s (ByteArray.mk #[])]) []))) (.no 1))) (.br (decide ((1 : Int) = 0)) (.ok (.ret (.tup [.b neg, .s (ByteArray.mk #[])]) [])) (.br (bz b && bz a) (.br (leB a b) (.ok (.ret (.tup [.b minus, .s (suB b a)]) [])) (.ok (.ret (.tup [.b minus, .s (ByteArray.mk #[])]) []))) (.no 1)))) (.no 1)) := by kernel_rfl
include hG in
theorem gk109 (hT : qo G) : qc prog G 104 g109 := by
 refine spec_ofQ hG (.cons (hk112 hG hT) .nil) mix enter109 (L := []) (pol := {}) fun args hs K x h => ?_
 unfold g109 at h
 split at h
 case h_2 => cases h
 rename_i x n
 obtain ⟨hc, hr⟩ := k8 h
 rw [kG] at hc
 refine ⟨_, q1_sz, k9 (by kernel_rfl), _, _, hr, fun hq => ?_⟩
 obtain ⟨s1, s2, s3⟩ := sz_lt hq
 have hd := x.den_nz
 have hg := x.reduced
 unfold Nat.Coprime at hg
 have p1 := nb_size_pos hd
 have hgd : gdB (qr x) (qt x) = nb 1 := by rw [rnum_eq, rden_eq, gdB_nb, hg]
 have hzz : (hz (qr x) && hz (qt x)) = true := by rw [rnum_eq, rden_eq, hz_bits s1 hc, hz_bits s2 hc]; rfl
 rw [k109]; try unfold zk1091; try unfold zk1092
 rw [k6 (kF (rden_empty x)), k5 (by rw [rden_eq]; simp only [kA, kD]; omega), k6 (kF (nb_head' hd))]
 by_cases h0 : x.num.natAbs = 0
 ·rw [k5 (kE ((qG x).2 h0)), k6 (rneg_zero h0), k6 (by rw [kE ((rden_one x).2 (rat_zero_den h0))]; rfl),
   k6 (by rw [kE ((qG x).2 h0)]; rfl), k5 (kE ((rden_one x).2 (rat_zero_den h0)))]
  exact ⟨_, rfl, .refl _⟩
 ·have p2 := nb_size_pos h0
  rw [k6 (kF (fun h => h0 ((qG x).1 h))), k5 (by rw [kF (fun h => h0 ((qG x).1 h))]; rfl), k5 (by rw [rnum_eq]; simp only [kA, kD]; omega), k6 (kF (nb_head' h0))]
  by_cases h1 : x.den = 1
  ·rw [k5 (kE ((rden_one x).2 h1))]
   exact ⟨_, rfl, .refl _⟩
  ·rw [k6 (kF (fun h => h1 ((rden_one x).1 h))), k5 hzz, k7, hgd]
   exact ⟨_, rfl, rle_b (kE nb_onev)⟩
include hG in
theorem gk74 (hT : qo G) : qc prog G 58 g74 := by
 refine qp hG (.cons (gk109 hG hT) (.cons (ok110 hG) .nil)) mix enter74 (L := []) (pol := {}) fun args hs K x h => ?_
 unfold g74 at h
 split at h
 case h_2 => cases h
 rename_i x n
 obtain ⟨hc, hr⟩ := k8 h
 refine ⟨k9 (by kernel_rfl), _, _, _, ?_, .refl _, hr⟩
 rw [k74, k5 hc]
 rfl
theorem quB_nb (n m : Nat) : quB (nb n) (nb m) = nb (n / m) := by rw [quB, qe, qD, qD]
theorem mkq_nb (neg : Bool) (n m : Nat) : mkq neg (nb n) (nb m) = mkz neg n m := by rw [mkq, qe, qD, qD]
theorem muB_nb (n m : Nat) : muB (nb n) (nb m) = nb (n * m) := by rw [muB, qe, qD, qD]
theorem adB_nb (n m : Nat) : adB (nb n) (nb m) = nb (n + m) := by rw [adB, qe, qD, qD]
theorem gz {neg : Bool} {n d W : Nat} (hd : d ≠ 0) (h1 : n < 2 ^ W) (h2 : d < 2 ^ W) (hW : 0 < W) : sz (mkz neg n d) <= W := by
 refine sz_le ?_ ?_ hW
 ·rw [mkz_natAbs hd]; exact Nat.lt_of_le_of_lt (Nat.div_le_self _ _) h1
 ·rw [mkz_den hd]; exact Nat.lt_of_le_of_lt (Nat.div_le_self _ _) h2
theorem made_z {nv : PV} {neg : Bool} (h : bof nv = some false) (d : Nat) {W : Nat} (hW : 0 < W) : RLe (.agg [nv, .s ⟨#[]⟩, .s ⟨#[1]⟩]) (.q (mkz neg 0 d) W) := by
 rw [mkz_zero]
 exact rle_q (x := 0) h (Nat.le_trans (show sz 0 <= 1 by decide) hW)
theorem made_s {nv : PV} {neg : Bool} (h : bof nv = some neg) {n d W : Nat} (hn : n ≠ 0) (hd : d ≠ 0) (h1 : n < 2 ^ W) (h2 : d < 2 ^ W) (hW : 0 < W) {a b : ByteArray} (ha : a = nb (n / n.gcd d)) (hb : b = nb (d / n.gcd d)) :
  RLe (.agg [nv, .s a, .s b]) (.q (mkz neg n d) W) := by
 have e1 : a = qr (mkz neg n d) := by rw [ha, rnum_eq, mkz_natAbs hd]
 have e2 : b = qt (mkz neg n d) := by rw [hb, rden_eq, mkz_den hd]
 rw [e1, e2]
 exact rle_q (by rw [mkz_rneg hd hn]; exact h) (gz hd h1 h2 hW)
include hG in
theorem orcg76 (hT : qo G) : OrcOK prog G O76 := .cons (ok110 hG) (.cons (hk112 hG hT) (.cons (hk113 hG) .nil))
include hG in
theorem gk76 (hT : qo G) (W : Nat) : qc prog G 62 (g76 W) := by
 refine qp hG (orcg76 hG hT) mix enter76 (L := []) (pol := {}) fun args hs K x h => ?_
 unfold g76 at h
 split at h
 case h_2 => cases h
 rename_i nv a d
 split at h
 case h_2 => cases h
 rename_i neg hnv
 obtain ⟨hc, hr⟩ := k8 h
 refine ⟨k9 (by kernel_rfl), ?_⟩
 obtain ⟨ha, hd, h3, h1, h2, hW, hW2⟩ := decP_iff.1 hc
 generalize bv a.data.toList = n at *
 generalize bv d.data.toList = m at *
 subst ha; subst hd
 rw [mkq_nb] at hr
 have key : ∃ r, (evF prog O76 [] {} f62 [nv, .s (nb n), .s (nb m)] [] ql).run = some (.ret r []) /\ RLe r (.q (mkz neg n m) W) := by
  have hgp : 0 < n.gcd m := Nat.gcd_pos_of_pos_right _ h3
  have hgl : n.gcd m <= m := Nat.le_of_dvd h3 (Nat.gcd_dvd_right _ _)
  have z1 := hz_bits h1 hW2
  have z2 := hz_bits h2 hW2
  have z3 := qE h1 hW2
  have z4 := qE h2 hW2
  have z5 := qE (Nat.lt_of_le_of_lt hgl h2) hW2
  rcases bof_cases hnv with rfl | rfl
  ·rw [k76]
   simp only [gdB_nb, quB_nb, val_nb]
   by_cases h0 : n = 0
   ·subst h0
    rw [k5 (by rfl)]
    exact ⟨_, rfl, made_z rfl _ hW⟩
   ·rw [k6 (kF (fun h => h0 (nb_eq_empty.1 h)))]
    by_cases hm : m = 1
    ·subst hm
     rw [k6 (by rw [kE nb_onev]; rfl)]
     exact ⟨_, rfl, made_s rfl h0 (by omega) h1 h2 hW (by simp) (by simp)⟩
    ·rw [k5 (by rw [kF (fun h => hm (nb_eq_one.1 h))]; rfl), k5 (by rw [z1, z2]; rfl)]
     by_cases hg : n.gcd m = 1
     ·rw [k6 (by rw [hg, kE nb_onev]; rfl)]
      exact ⟨_, rfl, made_s rfl h0 (by omega) h1 h2 hW (by rw [hg, Nat.div_one]) (by rw [hg, Nat.div_one])⟩
     ·rw [k5 (by rw [kF (fun h => hg (nb_eq_one.1 h))]; rfl), k5 (by rw [z3, z5, kE hgp]; rfl), k5 (by rw [z4, z5, kE hgp]; rfl)]
      exact ⟨_, rfl, made_s rfl h0 (by omega) h1 h2 hW rfl rfl⟩
  ·rw [k76l]
   simp only [gdB_nb, quB_nb, val_nb]
   by_cases h0 : n = 0
   ·subst h0
    rw [k5 (by rfl)]
    exact ⟨_, rfl, made_z rfl _ hW⟩
   ·rw [k6 (kF (fun h => h0 (nb_eq_empty.1 h)))]
    by_cases hm : m = 1
    ·subst hm
     rw [k6 (by rw [kE nb_onev]; rfl)]
     exact ⟨_, rfl, made_s rfl h0 (by omega) h1 h2 hW (by simp) (by simp)⟩
    ·rw [k5 (by rw [kF (fun h => hm (nb_eq_one.1 h))]; rfl), k5 (by rw [z1, z2]; rfl)]
     by_cases hg : n.gcd m = 1
     ·rw [k6 (by rw [hg, kE nb_onev]; rfl)]
      exact ⟨_, rfl, made_s rfl h0 (by omega) h1 h2 hW (by rw [hg, Nat.div_one]) (by rw [hg, Nat.div_one])⟩
     ·rw [k5 (by rw [kF (fun h => hg (nb_eq_one.1 h))]; rfl), k5 (by rw [z3, z5, kE hgp]; rfl), k5 (by rw [z4, z5, kE hgp]; rfl)]
      exact ⟨_, rfl, made_s rfl h0 (by omega) h1 h2 hW rfl rfl⟩
 obtain ⟨r, k1, k2⟩ := key
 exact ⟨_, _, _, k1, k2, hr⟩
include hG in
theorem gk75 : qc prog G 61 g75 := by
 refine qp hG (.cons (hk108 hG) (.cons (hk111 hG) .nil)) mix enter75 (L := []) (pol := {}) fun args hs K x h => ?_
 unfold g75 at h
 split at h
 case h_2 => cases h
 rename_i neg a minus b
 obtain ⟨hc, hr⟩ := k8 h
 refine ⟨k9 (by kernel_rfl), _, _, _, ?_, .refl _, hr⟩
 have hc2 : (bz b && bz a) = true := by rw [Bool.and_comm]; exact hc
 rw [k75, sgB, sgV, qe, qe]
 unfold sgn2
 cases hn : neg == minus
 ·rw [k6 rfl, k5 hc]
  by_cases hle : bv b.data.toList <= bv a.data.toList
  ·rw [k5 (by rw [leB, qe]; exact kE hle), k5 (by rfl), k7, suB, qe, if_pos hle]
  ·rw [k6 (by rw [leB, qe]; exact kF hle), k6 (by rfl), k5 hc2, k5 (by rw [leB, qe]; exact kE (by omega)), k7, suB, qe, if_neg hle]
 ·rw [k5 rfl, k5 hc, k7, adB, qe]
theorem sgB_nb (neg minus : Bool) (n m : Nat) : sgB neg (nb n) minus (nb m) = (sgn2 neg n minus m).1 := by rw [sgB, qe, qD, qD]
theorem sgV_nb (neg minus : Bool) (n m : Nat) : sgV neg (nb n) minus (nb m) = nb (sgn2 neg n minus m).2 := by rw [sgV, qe, qD, qD]
theorem pc_assume {P : Program} {G : World -> (Nat -> Prop) -> Prop} {g : Nat} {args : List PV} {hs : List Blk} {r : PV} {hs' : List Blk} (Q : Prop) (h1 : ∀ w S μ vs, RepVL w S μ args vs -> Q) (h2 : Q -> PC P G g args hs r hs') : PC P G g args hs r hs' :=
 fun w S μ vs hg hr => h2 (h1 w S μ vs hr) w S μ vs hg hr
theorem mul_bits {a b n m : Nat} (h1 : a < 2 ^ n) (h2 : b < 2 ^ m) : a * b < 2 ^ (n + m) := by
 rw [Nat.pow_add]
 exact Nat.mul_lt_mul'' h1 h2
theorem add_bits {a b n : Nat} (h1 : a < 2 ^ n) (h2 : b < 2 ^ n) : a + b < 2 ^ (n + 1) := by
 rw [Nat.pow_succ]; omega
theorem up_bits {a n m : Nat} (h1 : a < 2 ^ n) (h2 : n <= m) : a < 2 ^ m := Nat.lt_of_lt_of_le h1 (Nat.pow_le_pow_right (by omega) h2)
def O21 (W : Nat) : Orc := [(58, g74), (61, g75), (62, g76 W), (60, h77)]
theorem k21 (x y : Rat) (n m W : Nat) : evF prog (O21 W) [] {} f25 [.q x n, .q y m] [] ql =
 Tr.br (n.ble 800000) (.br (m.ble 800000) (.br (decide (qt x = qt y)) (.br (bz (qr x) && bz (qr y)) (.br (qg (M76 (sgV (qn x) (qr x) (qn y) (qr y)) (qt x) W)) (.ok (.ret (.q (mkq (sgB (qn x) (qr x) (qn y) (qr y)) (sgV (qn x) (qr x) (qn y) (qr y)) (qt x)) W) [])) (.no 1)) (.no 1)) (.br (bz (qr x) && bz (qt y)) (.br (bz (qr y) && bz (qt x)) (.br (bz (muB (qr x) (qt y)) && bz (muB (qr y) (qt x))) (.br (bz (qt x) && bz (qt y)) (.br (qg (M76 (sgV (qn x) (muB (qr x) (qt y)) (qn y) (muB (qr y) (qt x))) (muB (qt x) (qt y)) W)) (.ok (.ret (.q (mkq (sgB (qn x) (muB (qr x) (qt y)) (qn y) (muB (qr y) (qt x))) (sgV (qn x) (muB (qr x) (qt y)) (qn y) (muB (qr y) (qt x))) (muB (qt x) (qt y))) W) [])) (.no 1)) (.no 1)) (.no 1)) (.no 1)) (.no 1))) (.no 1)) (.no 1) := by kernel_rfl
def g21 : Spec := fun args hs K => match args, hs with
 | [.q x n, .q y m], [] => .br (Nat.ble (n + m + 1) 800000) (K (.q (x + y) (n + m + 1)) []) (.no 1)
 | _, _ => .no 1
include hG in
theorem orcg21 (hT : qo G) (W : Nat) : OrcOK prog G (O21 W) := .cons (gk74 hG hT) (.cons (gk75 hG) (.cons (gk76 hG hT W) (.cons (hk77 hG) .nil)))
include hG in
theorem gk21 (hT : qo G) : qc prog G 25 g21 := by
 intro args hs K x h
 unfold g21 at h
 split at h
 case h_2 => cases h
 rename_i x n y m
 obtain ⟨hc, hr⟩ := k8 h
 rw [kG] at hc
 refine ⟨_, _, ?_, hr⟩
 refine pc_assume _ q2_sz fun hq => qj hG (orcg21 hG hT (n + m + 1)) mix enter21 (L := []) (pol := {}) (k9 (by kernel_rfl)) ?_
 obtain ⟨x1, x2, x3⟩ := sz_lt hq.1
 obtain ⟨y1, y2, y3⟩ := sz_lt hq.2
 have dx := x.den_pos
 have dy := y.den_pos
 rw [k21, k5 (by rw [kG]; omega), k5 (by rw [kG]; omega)]
 by_cases hd : x.den = y.den
 ·have hb := sgn2_le (qn x) x.num.natAbs (qn y) y.num.natAbs
  have b1 := add_bits (up_bits x1 (show n <= n + m by omega)) (up_bits y1 (show m <= n + m by omega))
  rw [k5 (kE (show qt x = qt y by rw [rden_eq, rden_eq, hd]))]
  simp only [rnum_eq, rden_eq, muB_nb, sgB_nb, sgV_nb]
  rw [k5 (by rw [qE x1 (by omega), qE y1 (by omega)]; rfl), k5 (decP_iff.2 ⟨by rw [qD], by rw [qD], by rw [qD]; exact dx, by rw [qD]; omega, by rw [qD]; exact up_bits x2 (by omega), by omega, hc⟩), k7, mkq_nb, <- rat_add_same x y hd]
 ·have b1 := mul_bits x1 y2
  have b2 := mul_bits y1 x2
  rw [Nat.add_comm m n] at b2
  have b3 := sgn2_le (qn x) (x.num.natAbs * y.den) (qn y) (y.num.natAbs * x.den)
  have b4 := mul_bits x2 y2
  have b5 := Nat.mul_pos dx dy
  have b6 := add_bits b1 b2
  rw [k6 (kF (show ¬ qt x = qt y from fun h => hd (nb_inj h)))]
  simp only [rnum_eq, rden_eq, muB_nb, sgB_nb, sgV_nb]
  rw [k5 (by rw [qE x1 (by omega), qE y2 (by omega)]; rfl), k5 (by rw [qE y1 (by omega), qE x2 (by omega)]; rfl), k5 (by rw [qE b1 (by omega), qE b2 (by omega)]; rfl),
   k5 (by rw [qE x2 (by omega), qE y2 (by omega)]; rfl), k5 (decP_iff.2 ⟨by rw [qD], by rw [qD], by rw [qD]; exact b5, by rw [qD]; omega, by rw [qD]; exact up_bits b4 (by omega), by omega, hc⟩), k7, mkq_nb, <- rat_add_mkz x y]
def O43 (W : Nat) : Orc := [(58, g74), (62, g76 W), (60, h77)]
theorem k43 (x y : Rat) (n m W : Nat) : evF prog (O43 W) [] {} f75 [.q x n, .q y m] [] ql =
 Tr.br (n.ble 800000) (.br (m.ble 800000) (.br (bz (qr x) && bz (qr y)) (.br (bz (qt x) && bz (qt y)) (.br (qg (M76 (muB (qr x) (qr y)) (muB (qt x) (qt y)) W)) (.ok (.ret (.q (mkq (!qn x == qn y) (muB (qr x) (qr y)) (muB (qt x) (qt y))) W) [])) (.no 1)) (.no 1)) (.no 1)) (.no 1)) (.no 1) := by kernel_rfl
theorem k72 (x y : Rat) (n m W : Nat) : evF prog (O43 W) [] {} f86 [.q x n, .q y m] [] ql =
 Tr.br (n.ble 800000) (.br (m.ble 800000) (.br (decide (qr y = ByteArray.mk #[])) (.ok (.ret (.tup [.agg [.bl false, .s (ByteArray.mk #[]), .s (ByteArray.mk #[])], .i .i64 12]) [])) (.br (bz (qr x) && bz (qt y)) (.br (bz (qt x) && bz (qr y)) (.br (qg (M76 (muB (qr x) (qt y)) (muB (qt x) (qr y)) W)) (.ok (.ret (.tup [.q (mkq (!qn x == qn y) (muB (qr x) (qt y)) (muB (qt x) (qr y))) W, .i .i64 0]) [])) (.no 1)) (.no 1)) (.no 1))) (.no 1)) (.no 1) := by kernel_rfl
def g43 : Spec := fun args hs K => match args, hs with
 | [.q x n, .q y m], [] => .br (Nat.ble (n + m) 800000) (K (.q (x * y) (n + m)) []) (.no 1)
 | _, _ => .no 1
include hG in
theorem orcg43 (hT : qo G) (W : Nat) : OrcOK prog G (O43 W) := .cons (gk74 hG hT) (.cons (gk76 hG hT W) (.cons (hk77 hG) .nil))
include hG in
theorem gk43 (hT : qo G) : qc prog G 75 g43 := by
 intro args hs K x h
 unfold g43 at h
 split at h
 case h_2 => cases h
 rename_i x n y m
 obtain ⟨hc, hr⟩ := k8 h
 rw [kG] at hc
 refine ⟨_, _, ?_, hr⟩
 refine pc_assume _ q2_sz fun hq => qj hG (orcg43 hG hT (n + m)) mix enter43 (L := []) (pol := {}) (k9 (by kernel_rfl)) ?_
 obtain ⟨x1, x2, x3⟩ := sz_lt hq.1
 obtain ⟨y1, y2, y3⟩ := sz_lt hq.2
 have dx := x.den_pos
 have dy := y.den_pos
 have b1 := mul_bits x1 y1
 have b4 := mul_bits x2 y2
 have b5 := Nat.mul_pos dx dy
 rw [k43, k5 (by rw [kG]; omega), k5 (by rw [kG]; omega)]
 simp only [rnum_eq, rden_eq, muB_nb]
 rw [k5 (by rw [qE x1 (by omega), qE y1 (by omega)]; rfl), k5 (by rw [qE x2 (by omega), qE y2 (by omega)]; rfl), k5 (decP_iff.2 ⟨by rw [qD], by rw [qD], by rw [qD]; exact b5, by rw [qD]; exact b1, by rw [qD]; exact b4, by omega, hc⟩), k7, mkq_nb, rat_mul_mkz x y]
 rfl
def g72 : Spec := fun args hs K => match args, hs with
 | [.q x n, .q y m], [] => .br (Nat.ble (n + m) 800000) (.br (decide (y = 0)) (K (.tup [.agg [.bl false, .s ⟨#[]⟩, .s ⟨#[]⟩], .i .i64 12]) []) (K (.tup [.q (x / y) (n + m), .i .i64 0]) [])) (.no 1)
 | _, _ => .no 1
include hG in
theorem gk72 (hT : qo G) : qc prog G 86 g72 := by
 intro args hs K x h
 unfold g72 at h
 split at h
 case h_2 => cases h
 rename_i x n y m
 obtain ⟨hc, hr⟩ := k8 h
 rw [kG] at hc
 by_cases hy : y = 0
 ·rw [k5 (kE hy)] at hr
  refine ⟨_, _, qj hG (orcg43 hG hT (n + m)) mix enter72 (L := []) (pol := {}) (k9 (by kernel_rfl)) ?_, hr⟩
  rw [k72, k5 (by rw [kG]; omega), k5 (by rw [kG]; omega), k5 (kE (by rw [hy]; exact nb_zero))]
  rfl
 rw [k6 (kF hy)] at hr
 refine ⟨_, _, ?_, hr⟩
 refine pc_assume _ q2_sz fun hq => qj hG (orcg43 hG hT (n + m)) mix enter72 (L := []) (pol := {}) (k9 (by kernel_rfl)) ?_
 obtain ⟨x1, x2, x3⟩ := sz_lt hq.1
 obtain ⟨y1, y2, y3⟩ := sz_lt hq.2
 have hz : y.num.natAbs ≠ 0 := fun h => hy (Rat.num_eq_zero.1 (by omega))
 have dx := x.den_pos
 have b1 := mul_bits x1 y2
 have b4 := mul_bits x2 y1
 have b5 := Nat.mul_pos dx (show 0 < y.num.natAbs by omega)
 rw [k72, k5 (by rw [kG]; omega), k5 (by rw [kG]; omega), k6 (kF (fun h => hz ((qG y).1 h)))]
 simp only [rnum_eq, rden_eq, muB_nb]
 rw [k5 (by rw [qE x1 (by omega), qE y2 (by omega)]; rfl), k5 (by rw [qE x2 (by omega), qE y1 (by omega)]; rfl), k5 (decP_iff.2 ⟨by rw [qD], by rw [qD], by rw [qD]; exact b5, by rw [qD]; exact b1, by rw [qD]; exact b4, by omega, hc⟩), k7, mkq_nb, rat_div_mkz x y hz]
 rfl
include hG in
theorem orcg74 (hT : qo G) : OrcOK prog G [(58, g74)] := .cons (gk74 hG hT) .nil
theorem k83 (x : Rat) (n : Nat) : evF prog [(58, g74)] [] {} f102 [.q x n] [] ql =
 Tr.br (n.ble 800000) (.br (!qn x) (.ok (.ret (.agg [.b !decide (qr x = ByteArray.mk #[]), .s (qr x), .s (qt x)]) [])) (.ok (.ret (.agg [.bl false, .s (qr x), .s (qt x)]) []))) (.no 1) := by kernel_rfl
theorem k26 (x : Rat) (n : Nat) : evF prog [(58, g74)] [] {} f97 [.q x n] [] ql =
 Tr.br (n.ble 800000) (.br (decide (qr x = ByteArray.mk #[])) (.ok (.ret (.i .i64 0) [])) (.br (qn x) (.ok (.ret (.i .i64 (-1)) [])) (.ok (.ret (.i .i64 1) [])))) (.no 1) := by kernel_rfl
def g83 : Spec := fun args hs K => match args, hs with
 | [.q x n], [] => .br (Nat.ble n 800000) (K (.q (-x) n) []) (.no 1)
 | _, _ => .no 1
theorem sz_neg (x : Rat) : sz (-x) = sz x := by unfold sz; rw [neg_natAbs, neg_den]
include hG in
theorem gk83 (hT : qo G) : qc prog G 102 g83 := by
 refine spec_ofQ hG (orcg74 hG hT) mix enter83 (L := []) (pol := {}) fun args hs K x h => ?_
 unfold g83 at h
 split at h
 case h_2 => cases h
 rename_i x n
 obtain ⟨hc, hr⟩ := k8 h
 refine ⟨_, q1_sz, k9 (by kernel_rfl), _, _, hr, fun hq => ?_⟩
 have hz : sz (-x) <= n := by rw [sz_neg]; exact hq
 rw [k83, k5 hc, <- rnum_neg, <- rden_neg]
 by_cases h : qn x = true
 ·rw [k6 (by rw [h]; rfl)]
  refine ⟨_, rfl, rle_q ?_ hz⟩
  have : x.num < 0 := of_decide_eq_true h
  show some false = some (decide (-x.num < 0))
  rw [kF (by omega)]
 ·rw [k5 (by rw [Bool.not_eq_true] at h; rw [h]; rfl)]
  refine ⟨_, rfl, rle_q ?_ hz⟩
  have h0 : ¬ x.num < 0 := fun h' => h (kE h')
  show some (!decide (qr (-x) = ⟨#[]⟩)) = some (decide (-x.num < 0))
  congr 1
  by_cases h1 : x.num = 0
  ·rw [kE ((qG _).2 (by rw [neg_natAbs]; omega)), kF (by omega)]; rfl
  ·rw [kF (fun h => by have := (qG _).1 h; rw [neg_natAbs] at this; omega), kE (by omega)]; rfl
def g26 : Spec := fun args hs K => match args, hs with
 | [.q x n], [] => .br (Nat.ble n 800000) (K (.i .i64 (rcmp x 0)) []) (.no 1)
 | _, _ => .no 1
include hG in
theorem gk26 (hT : qo G) : qc prog G 97 g26 := by
 refine qp hG (orcg74 hG hT) mix enter26 (L := []) (pol := {}) fun args hs K x h => ?_
 unfold g26 at h
 split at h
 case h_2 => cases h
 rename_i x n
 obtain ⟨hc, hr⟩ := k8 h
 refine ⟨k9 (by kernel_rfl), _, _, _, ?_, .refl _, hr⟩
 rw [k26, k5 hc]
 unfold rcmp
 by_cases h0 : x.num.natAbs = 0
 ·have : x = 0 := Rat.num_eq_zero.1 (by omega)
  rw [k5 (kE ((qG x).2 h0)), k7]
  subst this
  rfl
 ·rw [k6 (kF (fun h => h0 ((qG x).1 h)))]
  by_cases h1 : x < 0
  ·rw [k5 (rneg_iff.2 h1), if_pos h1]; rfl
  ·have h2 : 0 < x := by
    have hne : x ≠ 0 := fun h => h0 (by rw [h]; rfl)
    grind
   rw [k6 (by rw [Bool.eq_false_iff, Ne, rneg_iff]; exact h1), if_neg h1, if_pos h2]; rfl
def O27 : Orc := [(58, g74), (60, h77), (59, h82)]
theorem k27 (x y : Rat) (n m : Nat) : evF prog O27 [] {} f23 [.q x n, .q y m] [] ql =
 Tr.br (n.ble 800000) (.br (m.ble 800000) (.br (!qn x == qn y) (.br (qn x) (.ok (.ret (.i .i64 (-1)) [])) (.ok (.ret (.i .i64 1) []))) (.br (bz (qr x) && bz (qt y)) (.br (bz (qr y) && bz (qt x)) (.br (qn x) (.br (ib (0 - ncmp (val (muB (qr x) (qt y))) (val (muB (qr y) (qt x))))) (.ok (.ret (.i .i64 (0 - ncmp (val (muB (qr x) (qt y))) (val (muB (qr y) (qt x))))) [])) (.no 9002)) (.ok (.ret (.i .i64 (ncmp (val (muB (qr x) (qt y))) (val (muB (qr y) (qt x))))) []))) (.no 1)) (.no 1))) (.no 1)) (.no 1) := by kernel_rfl
def g27 : Spec := fun args hs K => match args, hs with
 | [.q x n, .q y m], [] => .br (Nat.ble (n + m) 800000) (K (.i .i64 (rcmp x y)) []) (.no 1)
 | _, _ => .no 1
include hG in
theorem orcg27 (hT : qo G) : OrcOK prog G O27 := .cons (gk74 hG hT) (.cons (hk77 hG) (.cons (hk82 hG) .nil))
include hG in
theorem gk27 (hT : qo G) : qc prog G 23 g27 := by
 refine spec_ofQ hG (orcg27 hG hT) mix enter27 (L := []) (pol := {}) fun args hs K x h => ?_
 unfold g27 at h
 split at h
 case h_2 => cases h
 rename_i x n y m
 obtain ⟨hc, hr⟩ := k8 h
 rw [kG] at hc
 refine ⟨_, q2_sz, k9 (by kernel_rfl), _, _, hr, fun hq => ⟨_, ?_, .refl _⟩⟩
 obtain ⟨x1, x2, x3⟩ := sz_lt hq.1
 obtain ⟨y1, y2, y3⟩ := sz_lt hq.2
 have p1 := x.den_pos
 have p2 := y.den_pos
 rw [k27, k5 (by rw [kG]; omega), k5 (by rw [kG]; omega), rcmp_sg]
 simp only [rnum_eq, rden_eq, muB_nb, val_nb]
 have z1 := qE x1 (by omega)
 have z2 := qE x2 (by omega)
 have z3 := qE y1 (by omega)
 have z4 := qE y2 (by omega)
 have nz : ∀ z : Rat, qn z = true -> 0 < z.num.natAbs := by
  intro z hz
  have : z.num < 0 := of_decide_eq_true hz
  omega
 cases hnx : qn x <;> cases hny : qn y
 ·rw [k6 (by rfl), k5 (by rw [z1, z4]; rfl), k5 (by rw [z3, z2]; rfl), k6 rfl, k7]
  unfold ncmp
  simp only [sg]
  simp only [Int.ofNat_lt]
 ·have h1 := Nat.mul_pos (nz y hny) p1
  rw [k5 (by rfl), k6 rfl, k7, if_neg (by simp only [sg]; omega), if_pos (by simp only [sg]; omega)]
 ·have h1 := Nat.mul_pos (nz x hnx) p2
  rw [k5 (by rfl), k5 rfl, k7, if_pos (by simp only [sg]; omega)]
 ·have hn := ncmp_range (x.num.natAbs * y.den) (y.num.natAbs * x.den)
  rw [k6 (by rfl), k5 (by rw [z1, z4]; rfl), k5 (by rw [z3, z2]; rfl), k5 rfl, k5 (by simp only [kA, kD]; omega), k7]
  rw [neg_ncmp]
  rfl
def g71 : Spec := fun args hs K => match args, hs with
 | [.i .i64 n], [] => .br (decide (-72057594037927936 < n) && decide (n <= 9223372036854775807)) (K (.q (n : Rat) (Nat.log2 n.natAbs + 1)) []) (.no 1)
 | _, _ => .no 1
theorem sz_int (n : Int) : sz (n : Rat) <= Nat.log2 n.natAbs + 1 := by
 unfold sz
 show max (Nat.log2 n.natAbs) (Nat.log2 1) + 1 <= _
 have : Nat.log2 1 = 0 := by decide
 omega
include hG in
theorem gk71 : qc prog G 53 g71 := by
 intro args hs K x h
 unfold g71 at h
 split at h
 case h_2 => cases h
 rename_i n
 obtain ⟨hc, hr⟩ := k8 h
 obtain ⟨r, hs', p, e⟩ := ok71 hG [.i .i64 n] [] (fun r hs' => .ok (.ret r hs')) (.ret (.q (n : Rat) 64) []) (by show (Tr.br _ _ _).run = _; rw [k5 hc]; rfl)
 cases e
 exact ⟨_, _, p.le (rle_qq (sz_int n)) (.refl _), hr⟩
def g29 : Spec := fun args hs K => match args, hs with
 | [.q x n, .q y m], [] => .br (Nat.ble (n + m + 1) 800000) (K (.q (x - y) (n + m + 1)) []) (.no 1)
 | _, _ => .no 1
theorem k29 (x y : Rat) (n m : Nat) : evF prog [(25, g21), (102, g83)] [] {} f54 [.q x n, .q y m] [] ql =
 Tr.br (m.ble 800000) (.br ((n + m + 1).ble 800000) (.ok (.ret (.q (x + -y) (n + m + 1)) [])) (.no 1)) (.no 1) := by kernel_rfl
include hG in
theorem gk29 (hT : qo G) : qc prog G 54 g29 := by
 refine qp hG (.cons (gk21 hG hT) (.cons (gk83 hG hT) .nil)) mix enter29 (L := []) (pol := {}) fun args hs K x h => ?_
 unfold g29 at h
 split at h
 case h_2 => cases h
 rename_i x n y m
 obtain ⟨hc, hr⟩ := k8 h
 refine ⟨k9 (by kernel_rfl), _, _, _, ?_, .refl _, hr⟩
 have hc' := hc
 rw [kG] at hc'
 rw [k29, k5 (by rw [kG]; omega), k5 hc, k7, Rat.sub_eq_add_neg]
theorem k80 (x y : Rat) (n m : Nat) : evF prog [(23, g27), (58, g74)] [] {} f121 [.q x n, .q y m] [] ql =
 Tr.br ((n + m).ble 800000) (.br (decide (rcmp x y <= 0)) (.br (n.ble 800000) (.ok (.ret (.q x n) [])) (.no 1)) (.br (m.ble 800000) (.ok (.ret (.q y m) [])) (.no 1))) (.no 1) := by kernel_rfl
def v80 : Spec := fun args hs K => match args, hs with
 | [.q x n, .q y m], [] => .br (qg (x = y /\ n = m /\ n <= 400000)) (K (.q x n) []) (.no 1)
 | _, _ => .no 1
include hG in
theorem orcg80 (hT : qo G) : OrcOK prog G [(23, g27), (58, g74)] := .cons (gk27 hG hT) (.cons (gk74 hG hT) .nil)
include hG in
theorem vk80 (hT : qo G) : qc prog G 121 v80 := by
 refine qp hG (orcg80 hG hT) mix enter80 (L := []) (pol := {}) fun args hs K x h => ?_
 unfold v80 at h
 split at h
 case h_2 => cases h
 rename_i x n y m
 obtain ⟨hc, hr⟩ := k8 h
 obtain ⟨rfl, rfl, hc⟩ := decP_iff.1 hc
 refine ⟨k9 (by kernel_rfl), _, _, _, ?_, .refl _, hr⟩
 rw [k80, k5 (by rw [kG]; omega), k5 (kE (rcmp_le.2 (Rat.le_refl))), k5 (by rw [kG]; omega), k7]
theorem qF {x : Rat} {n m : Nat} (h : n <= m) : VLe (.q x n) (.q x m) := by
 have key : ∀ (w : World) (S : Nat -> Prop) (μ : Mu) (cs : List Value), RepC w S μ (.q x n) cs -> RepC w S μ (.q x m) cs := by
  intro w S μ cs hc
  cases hc
  rename_i h'
  exact .q _ _ _ (Nat.le_trans h' h)
 refine ⟨rfl, fun w S μ => ⟨key w S μ, fun v hv => ?_⟩⟩
 cases hv with
 | cell _ _ _ hv' _ => cases hv'
 | agg _ _ cs _ hc => exact .agg _ _ _ rfl (key w S μ cs hc)
theorem vll0 : VLeL [] [] := ⟨rfl, fun _ _ _ h => by cases h⟩
theorem qJ {u v : PV} {us vs : List PV} (h : VLe u v) (h' : VLeL us vs) : VLeL (u :: us) (v :: vs) := by
 refine ⟨by simp [h'.1], fun j a b ha hb => ?_⟩
 cases j with
 | zero => simp at ha hb; subst ha; subst hb; exact h
 | succ j => simp at ha hb; exact h'.2 j a b ha hb
theorem rle_of_vle {u v : PV} (hu : ∀ m, unfr m u = (u, [])) (hv : ∀ m, unfr m v = (v, [])) (h : VLe u v) : RLe u v := ⟨fun m => by rw [hu, hv]; exact h, fun m => by rw [hu, hv]; exact .refl _⟩
theorem bof_v {hv : PV} {h : Bool} (e : bof hv = some h) : VLe hv (.b h) := by
 rcases bof_cases e with rfl | rfl
 ·exact .refl _
 ·exact vle_bl h
theorem tn_le {hv : PV} {h : Bool} (e : bof hv = some h) {x y : Rat} {n m : Nat} (hxy : x = y) (hn : n <= m) : VLe (.agg [hv, .q x n]) (.agg [.b h, .q y m]) := by
 subst hxy
 exact VLe.agg (qJ (bof_v e) (qJ (qF hn) vll0))
theorem tn_fr {hv : PV} {h : Bool} (e : bof hv = some h) {x : Rat} {n : Nat} (m : Nat) : unfr m (.agg [hv, .q x n]) = (.agg [hv, .q x n], []) := by
 rcases bof_cases e with rfl | rfl <;> rfl
theorem tn_rle {hv : PV} {h : Bool} (e : bof hv = some h) {x y : Rat} {n m : Nat} (hxy : x = y) (hn : n <= m) : RLe (.agg [hv, .q x n]) (.agg [.b h, .q y m]) :=
 rle_of_vle (tn_fr e) (tn_fr (h := h) rfl) (tn_le e hxy hn)
theorem q_rle {x y : Rat} {n m : Nat} (hxy : x = y) (hn : n <= m) : RLe (.q x n) (.q y m) := by
 subst hxy
 exact rle_of_vle (fun _ => rfl) (fun _ => rfl) (qF hn)
def g50 : Spec := fun args hs K => match args, hs with
 | [.q t k], [] => .br (Nat.ble k 400000) (K (.agg [.bl false, .q t k]) []) (.no 1)
 | _, _ => .no 1
theorem enter50 : Enters prog 135 f135 (qd f135) := ⟨func135, by kernel_rfl, rfl⟩
theorem k50 (t : Rat) (k : Nat) : evF prog [(121, v80)] [] {} f135 [.q t k] [] ql =
 Tr.br (qg (t = t /\ k = k /\ k <= 400000)) (.ok (.ret (.agg [.bl false, .q t k]) [])) (.no 1) := by kernel_rfl
include hG in
theorem gk50 (hT : qo G) : qc prog G 135 g50 := by
 refine qp hG (.cons (vk80 hG hT) .nil) mix enter50 (L := []) (pol := {}) fun args hs K x h => ?_
 unfold g50 at h
 split at h
 case h_2 => cases h
 rename_i t k
 obtain ⟨hc, hr⟩ := k8 h
 rw [kG] at hc
 refine ⟨k9 (by kernel_rfl), _, _, _, ?_, .refl _, hr⟩
 rw [k50, k5 (decP_iff.2 ⟨rfl, rfl, hc⟩), k7]
theorem enter124 : Enters prog 202 f202 (qd f202) := ⟨func202, by kernel_rfl, rfl⟩
def g124 : Spec := fun args hs K => match args, hs with
 | [], [] => K (.agg [.bl true, .q 0 1]) []
 | _, _ => .no 1
theorem k124 (_ : Unit) : evF prog [(53, g71)] [] {} f202 [] [] ql =
 Tr.br (decide ((-72057594037927936 : Int) < 0) && decide ((0 : Int) <= 9223372036854775807)) (.ok (.ret (.agg [.bl true, .q (↑(0 : Int) : Rat) 1]) [])) (.no 1) := by kernel_rfl
theorem int1 : (((1 : Int) : Int) : Rat) = 1 := rfl
include hG in
theorem gk124 : qc prog G 202 g124 := by
 refine qp hG (.cons (gk71 hG) .nil) mix enter124 (L := []) (pol := {}) fun args hs K x h => ?_
 unfold g124 at h
 split at h
 case h_2 => cases h
 refine ⟨k9 (by kernel_rfl), _, _, _, ?_, .refl _, h⟩
 rw [k124 ()]
 rfl
def ftT (h : Bool) (t : Rat) : Rat := hide (if h = true then 0 else t)
def g122 : Spec := fun args hs K => match args, hs with
 | [.agg [hv, .q t k]], [] => match bof hv with
  | some h => .br (Nat.ble k 400000 && Nat.ble 1 k) (K (.agg [.b h, .q (ftT h t) k]) []) (.no 1)
  | none => .no 1
 | _, _ => .no 1
theorem enter122 : Enters prog 176 f176 (qd f176) := ⟨func176, by kernel_rfl, rfl⟩
theorem k122 (h : Bool) (t : Rat) (k : Nat) : evF prog [(135, g50), (202, g124)] [] {} f176 [.agg [.b h, .q t k]] [] ql =
 Tr.br h (.ok (.ret (.agg [.bl true, .q (0 : Rat) 1]) [])) (.br (k.ble 400000) (.ok (.ret (.agg [.bl false, .q t k]) [])) (.no 1)) := by kernel_rfl
theorem tn_args {hv : PV} {h : Bool} (e : bof hv = some h) (t : Rat) (k : Nat) : ArgsLe [.agg [hv, .q t k]] [.agg [.b h, .q t k]] := .cons (tn_le e rfl (Nat.le_refl _)) .nil
include hG in
theorem gk122 (hT : qo G) : qc prog G 176 g122 := by
 intro args hs K x h
 unfold g122 at h
 split at h
 case h_2 => cases h
 rename_i hv t k
 split at h
 case h_2 => cases h
 rename_i b hb
 obtain ⟨hc, hr⟩ := k8 h
 simp only [kA, kG] at hc
 have key : ∃ r, (evF prog [(135, g50), (202, g124)] [] {} f176 [.agg [.b b, .q t k]] [] ql).run = some (.ret r []) /\ RLe r (.agg [.b b, .q (ftT b t) k]) := by
  rw [k122, ftT, qe]
  cases b
  ·rw [k6 rfl, k5 (by rw [kG]; omega)]
   exact ⟨_, rfl, tn_rle rfl rfl (Nat.le_refl _)⟩
  ·rw [k5 rfl]
   exact ⟨_, rfl, tn_rle rfl rfl hc.2⟩
 obtain ⟨r, k1, k2⟩ := key
 exact ⟨_, _, PC.args (tn_args hb t k) ((qj hG (.cons (gk50 hG hT) (.cons (gk124 hG) .nil)) mix enter122 (L := []) (pol := {}) (k9 (by kernel_rfl)) k1).le k2 (.refl _)), hr⟩
def qN (h : Bool) (t : Rat) : Rat := hide (if h = true then -1 else (1 - t * t) / (1 + t * t))
def qx (h : Bool) (t : Rat) : Rat := hide (if h = true then 0 else (t + t) / (1 + t * t))
def O133 : Orc := [(25, g21), (54, g29), (75, g43), (53, g71), (86, g72), (176, g122)]
theorem enter133 : Enters prog 156 f156 (qd f156) := ⟨func156, by kernel_rfl, rfl⟩
theorem enter134 : Enters prog 157 f157 (qd f157) := ⟨func157, by kernel_rfl, rfl⟩
theorem k133 (h : Bool) (t : Rat) (k : Nat) : evF prog O133 [] {} f156 [.agg [.b h, .q t k]] [] ql =
 Tr.br (k.ble 400000 && Nat.ble 1 k) (.br h (.br (decide ((-72057594037927936 : Int) < (-1)) && decide ((-1 : Int) <= 9223372036854775807)) (.ok (.ret (.q (↑(-1 : Int) : Rat) 1) [])) (.no 1)) (.br ((k + k).ble 800000) (.br (decide ((-72057594037927936 : Int) < 1) && decide ((1 : Int) <= 9223372036854775807)) (.br (((Int.natAbs (1 : Int)).log2 + 1 + (k + k) + 1).ble 800000) (.br (decide ((-72057594037927936 : Int) < 1) && decide ((1 : Int) <= 9223372036854775807)) (.br (((Int.natAbs (1 : Int)).log2 + 1 + (k + k) + 1).ble 800000) (.br (((Int.natAbs (1 : Int)).log2 + 1 + (k + k) + 1 + ((Int.natAbs (1 : Int)).log2 + 1 + (k + k) + 1)).ble 800000) (.br (decide ((↑(1 : Int) : Rat) + ftT h t * ftT h t = 0)) (.ok (.ret (.agg [.bl false, .s (ByteArray.mk #[]), .s (ByteArray.mk #[])]) [])) (.ok (.ret (.q (((↑(1 : Int) : Rat) - ftT h t * ftT h t) / ((↑(1 : Int) : Rat) + ftT h t * ftT h t)) ((Int.natAbs (1 : Int)).log2 + 1 + (k + k) + 1 + ((Int.natAbs (1 : Int)).log2 + 1 + (k + k) + 1))) []))) (.no 1)) (.no 1)) (.no 1)) (.no 1)) (.no 1)) (.no 1))) (.no 1) := by kernel_rfl
theorem k134 (h : Bool) (t : Rat) (k : Nat) : evF prog O133 [] {} f157 [.agg [.b h, .q t k]] [] ql =
 Tr.br (k.ble 400000 && Nat.ble 1 k) (.br ((k + k + 1).ble 800000) (.br (decide ((-72057594037927936 : Int) < 1) && decide ((1 : Int) <= 9223372036854775807)) (.br ((k + k).ble 800000) (.br (((Int.natAbs (1 : Int)).log2 + 1 + (k + k) + 1).ble 800000) (.br ((k + k + 1 + ((Int.natAbs (1 : Int)).log2 + 1 + (k + k) + 1)).ble 800000) (.br (decide ((↑(1 : Int) : Rat) + ftT h t * ftT h t = 0)) (.ok (.ret (.agg [.bl false, .s (ByteArray.mk #[]), .s (ByteArray.mk #[])]) [])) (.ok (.ret (.q ((ftT h t + ftT h t) / ((↑(1 : Int) : Rat) + ftT h t * ftT h t)) (k + k + 1 + ((Int.natAbs (1 : Int)).log2 + 1 + (k + k) + 1))) []))) (.no 1)) (.no 1)) (.no 1)) (.no 1)) (.no 1)) (.no 1) := by kernel_rfl
def g133 : Spec := fun args hs K => match args, hs with
 | [.agg [hv, .q t k]], [] => match bof hv with
  | some h => .br (Nat.ble k 100000 && Nat.ble 1 k) (K (.q (qN h t) (4 * k + 4)) []) (.no 1)
  | none => .no 1
 | _, _ => .no 1
def g134 : Spec := fun args hs K => match args, hs with
 | [.agg [hv, .q t k]], [] => match bof hv with
  | some h => .br (Nat.ble k 100000 && Nat.ble 1 k) (K (.q (qx h t) (4 * k + 4)) []) (.no 1)
  | none => .no 1
 | _, _ => .no 1
include hG in
theorem orcg133 (hT : qo G) : OrcOK prog G O133 := .cons (gk21 hG hT) (.cons (gk29 hG hT) (.cons (gk43 hG hT) (.cons (gk71 hG) (.cons (gk72 hG hT) (.cons (gk122 hG hT) .nil)))))
theorem sq_pos1 (t : Rat) : ¬ (1 : Rat) + t * t = 0 := by
 have : 0 <= t * t := by
  rcases Rat.le_total (a := 0) (b := t) with h | h
  ·exact Rat.mul_nonneg h h
  ·have := Rat.mul_nonneg (show 0 <= -t by grind) (show 0 <= -t by grind)
   grind
 grind
theorem lg1 : (Int.natAbs (1 : Int)).log2 = 0 := by decide
theorem lgm1 : (Int.natAbs (-1 : Int)).log2 = 0 := by decide
include hG in
theorem gk133 (hT : qo G) : qc prog G 156 g133 := by
 intro args hs K x h
 unfold g133 at h
 split at h
 case h_2 => cases h
 rename_i hv t k
 split at h
 case h_2 => cases h
 rename_i b hb
 obtain ⟨hc, hr⟩ := k8 h
 simp only [kA, kG] at hc
 have key : ∃ r, (evF prog O133 [] {} f156 [.agg [.b b, .q t k]] [] ql).run = some (.ret r []) /\ RLe r (.q (qN b t) (4 * k + 4)) := by
  rw [k133, k5 (by simp only [kA, kG]; omega), qN, qe]
  cases b
  ·rw [k6 rfl, ftT, qe]
   simp only [Bool.false_eq_true, if_false, int1, lg1]
   rw [k5 (by rw [kG]; omega), k5 (by decide), k5 (by rw [kG]; omega), k5 (by decide), k5 (by rw [kG]; omega), k5 (by rw [kG]; omega), k6 (kF (sq_pos1 t))]
   exact ⟨_, rfl, q_rle rfl (by omega)⟩
  ·rw [k5 rfl, k5 (by decide)]
   exact ⟨_, rfl, q_rle rfl (by omega)⟩
 obtain ⟨r, k1, k2⟩ := key
 exact ⟨_, _, PC.args (tn_args hb t k) ((qj hG (orcg133 hG hT) mix enter133 (L := []) (pol := {}) (k9 (by kernel_rfl)) k1).le k2 (.refl _)), hr⟩
include hG in
theorem gk134 (hT : qo G) : qc prog G 157 g134 := by
 intro args hs K x h
 unfold g134 at h
 split at h
 case h_2 => cases h
 rename_i hv t k
 split at h
 case h_2 => cases h
 rename_i b hb
 obtain ⟨hc, hr⟩ := k8 h
 simp only [kA, kG] at hc
 have key : ∃ r, (evF prog O133 [] {} f157 [.agg [.b b, .q t k]] [] ql).run = some (.ret r []) /\ RLe r (.q (qx b t) (4 * k + 4)) := by
  rw [k134, k5 (by simp only [kA, kG]; omega), qx, qe]
  simp only [int1, lg1]
  rw [k5 (by rw [kG]; omega), k5 (by decide), k5 (by rw [kG]; omega), k5 (by rw [kG]; omega), k5 (by rw [kG]; omega), k6 (kF (sq_pos1 _))]
  refine ⟨_, rfl, q_rle ?_ (by omega)⟩
  rw [ftT, qe]
  cases b
  ·rfl
  ·simp only [if_true]; grind
 obtain ⟨r, k1, k2⟩ := key
 exact ⟨_, _, PC.args (tn_args hb t k) ((qj hG (orcg133 hG hT) mix enter134 (L := []) (pol := {}) (k9 (by kernel_rfl)) k1).le k2 (.refl _)), hr⟩
def O123 : Orc := [(135, g50), (53, g71), (86, g72), (202, g124)]
theorem enter123 : Enters prog 201 f201 (qd f201) := ⟨func201, by kernel_rfl, rfl⟩
theorem k123 (h : Bool) (t : Rat) (k : Nat) : evF prog O123 [] {} f201 [.agg [.b h, .q t k]] [] ql =
 Tr.br (decide ((-72057594037927936 : Int) < (-1)) && decide ((-1 : Int) <= 9223372036854775807)) (.br (((-1 : Int).natAbs.log2 + 1 + k).ble 800000) (.br (decide (t = 0)) (.br (!decide ((12 : Int) = 0)) (.ok (.ret (.agg [.bl true, .q (0 : Rat) 1]) [])) (.no 1)) (.br (!decide ((0 : Int) = 0)) (.ok (.ret (.agg [.bl true, .q (0 : Rat) 1]) [])) (.br (((-1 : Int).natAbs.log2 + 1 + k).ble 400000) (.ok (.ret (.agg [.bl false, .q ((↑(-1 : Int) : Rat) / t) ((-1 : Int).natAbs.log2 + 1 + k)]) [])) (.no 1)))) (.no 1)) (.no 1) := by kernel_rfl
def opH (t : Rat) : Bool := hide (decide (t = 0))
def opT (t : Rat) : Rat := hide (if t = 0 then 0 else -1 / t)
def g123 : Spec := fun args hs K => match args, hs with
 | [.agg [hv, .q t k]], [] => match bof hv with
  | some _ => .br (Nat.ble k 100000) (K (.agg [.b (opH t), .q (opT t) (k + 1)]) []) (.no 1)
  | none => .no 1
 | _, _ => .no 1
include hG in
theorem orcg123 (hT : qo G) : OrcOK prog G O123 := .cons (gk50 hG hT) (.cons (gk71 hG) (.cons (gk72 hG hT) (.cons (gk124 hG) .nil)))
include hG in
theorem gk123 (hT : qo G) : qc prog G 201 g123 := by
 intro args hs K x h
 unfold g123 at h
 split at h
 case h_2 => cases h
 rename_i hv t k
 split at h
 case h_2 => cases h
 rename_i b hb
 obtain ⟨hc, hr⟩ := k8 h
 rw [kG] at hc
 have key : ∃ r, (evF prog O123 [] {} f201 [.agg [.b b, .q t k]] [] ql).run = some (.ret r []) /\ RLe r (.agg [.b (opH t), .q (opT t) (k + 1)]) := by
  rw [k123]
  simp only [lgm1]
  rw [k5 (by decide), k5 (by rw [kG]; omega), opH, opT, qe, qe]
  by_cases h0 : t = 0
  ·rw [k5 (kE h0), kE h0, if_pos h0]
   exact ⟨_, rfl, tn_rle rfl rfl (by omega)⟩
  ·rw [k6 (kF h0), kF h0, if_neg h0, k6 (by decide), k5 (by rw [kG]; omega)]
   exact ⟨_, rfl, tn_rle rfl rfl (by omega)⟩
 obtain ⟨r, k1, k2⟩ := key
 exact ⟨_, _, PC.args (tn_args hb t k) ((qj hG (orcg123 hG hT) mix enter123 (L := []) (pol := {}) (k9 (by kernel_rfl)) k1).le k2 (.refl _)), hr⟩
def O93 : Orc := [(25, g21), (54, g29), (75, g43), (135, g50), (53, g71), (86, g72), (176, g122), (201, g123), (202, g124)]
theorem enter93 : Enters prog 170 f170 (qd f170) := ⟨func170, by kernel_rfl, rfl⟩
theorem k93 (h : Bool) (t : Rat) (k : Nat) (g : Bool) (s : Rat) (l : Nat) : evF prog O93 [] {} f170 [.agg [.b h, .q t k], .agg [.b g, .q s l]] [] ql =
 Tr.br (k.ble 400000 && Nat.ble 1 k) (.br (l.ble 400000 && Nat.ble 1 l) (.br h (.br g (.br (decide ((-72057594037927936 : Int) < 0) && decide ((0 : Int) <= 9223372036854775807)) (.br (((Int.natAbs (0 : Int)).log2 + 1).ble 400000) (.ok (.ret (.agg [.bl false, .q (↑(0 : Int) : Rat) 1]) [])) (.no 1)) (.no 1)) (.br h (.br (l.ble 100000) (.ok (.ret (.agg [.b (opH (ftT g s)), .q (opT (ftT g s)) (l + 1)]) [])) (.no 1)) (.br g (.br (k.ble 100000) (.ok (.ret (.agg [.b (opH (ftT h t)), .q (opT (ftT h t)) (k + 1)]) [])) (.no 1)) (.br ((k + l + 1).ble 800000) (.br (decide ((-72057594037927936 : Int) < 1) && decide ((1 : Int) <= 9223372036854775807)) (.br ((k + l).ble 800000) (.br (((Int.natAbs (1 : Int)).log2 + 1 + (k + l) + 1).ble 800000) (.br ((k + l + 1 + ((Int.natAbs (1 : Int)).log2 + 1 + (k + l) + 1)).ble 800000) (.br (decide ((↑(1 : Int) : Rat) - ftT h t * ftT g s = 0)) (.br (!decide ((12 : Int) = 0)) (.ok (.ret (.agg [.bl true, .q (0 : Rat) 1]) [])) (.no 1)) (.br (!decide ((0 : Int) = 0)) (.ok (.ret (.agg [.bl true, .q (0 : Rat) 1]) [])) (.br ((k + l + 1 + ((Int.natAbs (1 : Int)).log2 + 1 + (k + l) + 1)).ble 400000) (.ok (.ret (.agg [.bl false, .q ((ftT h t + ftT g s) / ((↑(1 : Int) : Rat) - ftT h t * ftT g s)) (k + l + 1 + ((Int.natAbs (1 : Int)).log2 + 1 + (k + l) + 1))]) [])) (.no 1)))) (.no 1)) (.no 1)) (.no 1)) (.no 1)) (.no 1))))) (.br h (.br (l.ble 100000) (.ok (.ret (.agg [.b (opH (ftT g s)), .q (opT (ftT g s)) (l + 1)]) [])) (.no 1)) (.br g (.br (k.ble 100000) (.ok (.ret (.agg [.b (opH (ftT h t)), .q (opT (ftT h t)) (k + 1)]) [])) (.no 1)) (.br ((k + l + 1).ble 800000) (.br (decide ((-72057594037927936 : Int) < 1) && decide ((1 : Int) <= 9223372036854775807)) (.br ((k + l).ble 800000) (.br (((Int.natAbs (1 : Int)).log2 + 1 + (k + l) + 1).ble 800000) (.br ((k + l + 1 + ((Int.natAbs (1 : Int)).log2 + 1 + (k + l) + 1)).ble 800000) (.br (decide ((↑(1 : Int) : Rat) - ftT h t * ftT g s = 0)) (.br (!decide ((12 : Int) = 0)) (.ok (.ret (.agg [.bl true, .q (0 : Rat) 1]) [])) (.no 1)) (.br (!decide ((0 : Int) = 0)) (.ok (.ret (.agg [.bl true, .q (0 : Rat) 1]) [])) (.br ((k + l + 1 + ((Int.natAbs (1 : Int)).log2 + 1 + (k + l) + 1)).ble 400000) (.ok (.ret (.agg [.bl false, .q ((ftT h t + ftT g s) / ((↑(1 : Int) : Rat) - ftT h t * ftT g s)) (k + l + 1 + ((Int.natAbs (1 : Int)).log2 + 1 + (k + l) + 1))]) [])) (.no 1)))) (.no 1)) (.no 1)) (.no 1)) (.no 1)) (.no 1))))) (.no 1)) (.no 1) := by kernel_rfl
def thH (h : Bool) (t : Rat) (g : Bool) (s : Rat) : Bool := hide (if h = true then (if g = true then false else decide (s = 0)) else if g = true then decide (t = 0) else decide (1 - t * s = 0))
def thT (h : Bool) (t : Rat) (g : Bool) (s : Rat) : Rat := hide (if h = true then (if g = true then 0 else if s = 0 then 0 else -1 / s) else if g = true then (if t = 0 then 0 else -1 / t) else if 1 - t * s = 0 then 0 else (t + s) / (1 - t * s))
include hG in
theorem orcg93 (hT : qo G) : OrcOK prog G O93 := .cons (gk21 hG hT) (.cons (gk29 hG hT) (.cons (gk43 hG hT) (.cons (gk50 hG hT) (.cons (gk71 hG) (.cons (gk72 hG hT) (.cons (gk122 hG hT) (.cons (gk123 hG hT) (.cons (gk124 hG) .nil))))))))
theorem lg0 : (Int.natAbs (0 : Int)).log2 = 0 := by decide
theorem then_key (h : Bool) (t : Rat) (k : Nat) (g : Bool) (s : Rat) (l : Nat) (hk : k <= 50000) (hl : l <= 50000) (hk1 : 1 <= k) (hl1 : 1 <= l) :
  ∃ r, (evF prog O93 [] {} f170 [.agg [.b h, .q t k], .agg [.b g, .q s l]] [] ql).run = some (.ret r []) /\ RLe r (.agg [.b (thH h t g s), .q (thT h t g s) (2 * k + 2 * l + 3)]) := by
 rw [k93, k5 (by simp only [kA, kG]; omega), k5 (by simp only [kA, kG]; omega), thH, thT, qe, qe]
 simp only [lg0, lg1, opH, opT, ftT, qe, int1]
 cases h <;> cases g
 ·rw [k6 rfl, k6 rfl, k6 rfl, k5 (by rw [kG]; omega), k5 (by decide), k5 (by rw [kG]; omega), k5 (by rw [kG]; omega), k5 (by rw [kG]; omega)]
  simp only [Bool.false_eq_true, if_false]
  by_cases h0 : 1 - t * s = 0
  ·rw [k5 (kE h0), k5 (by decide), kE h0, if_pos h0]
   exact ⟨_, rfl, tn_rle rfl rfl (by omega)⟩
  ·rw [k6 (kF h0), k6 (by decide), k5 (by rw [kG]; omega), kF h0, if_neg h0]
   exact ⟨_, rfl, tn_rle rfl rfl (by omega)⟩
 ·rw [k6 rfl, k6 rfl, k5 rfl, k5 (by rw [kG]; omega)]
  exact ⟨_, rfl, tn_rle rfl rfl (by omega)⟩
 ·rw [k5 rfl, k6 rfl, k5 rfl, k5 (by rw [kG]; omega)]
  exact ⟨_, rfl, tn_rle rfl rfl (by omega)⟩
 ·rw [k5 rfl, k5 rfl, k5 (by decide), k5 (by rw [kG]; omega)]
  exact ⟨_, rfl, tn_rle rfl rfl (by omega)⟩
def g93 : Spec := fun args hs K => match args, hs with
 | [.agg [hv, .q t k], .agg [gv, .q s l]], [] => match bof hv, bof gv with
  | some h, some g => match l with
   | 1 => .br (qg (g = false /\ s = 0 /\ k <= 50000)) (K (.agg [.b h, .q (ftT h t) k]) []) (.no 1)
   | l => .br (Nat.ble k 50000 && Nat.ble 1 k && Nat.ble l 50000 && Nat.ble 1 l) (K (.agg [.b (thH h t g s), .q (thT h t g s) (2 * k + 2 * l + 3)]) []) (.no 1)
  | _, _ => .no 1
 | _, _ => .no 1
theorem RepL_get {w : World} {S : Nat -> Prop} {μ : Mu} : ∀ {vs : List PV} {cs : List Value}, RepL w S μ vs cs -> ∀ v, v ∈ vs -> ∃ ds, RepC w S μ v ds := by
 intro vs
 induction vs with
 | nil => intro cs _ v hv; cases hv
 | cons a vs ih =>
  intro cs h v hv
  cases h with
  | cons _ _ _ cs ds h h' =>
   rcases List.mem_cons.1 hv with rfl | hv
   ·exact ⟨_, h⟩
   ·exact ih h' v hv
theorem RepC_q {w : World} {S : Nat -> Prop} {μ : Mu} {x : Rat} {n : Nat} {cs : List Value} (h : RepC w S μ (.q x n) cs) : sz x <= n := by cases h; assumption
theorem RepV_agg {w : World} {S : Nat -> Prop} {μ : Mu} {vs : List PV} {x : Value} (h : RepV w S μ (.agg vs) x) (v : PV) (hv : v ∈ vs) : ∃ ds, RepC w S μ v ds := by
 cases h with
 | cell _ _ _ hv' _ => cases hv'
 | agg _ _ cs _ hc =>
  cases hc with
  | agg _ _ _ hl => exact RepL_get hl v hv
theorem then_sz {hv : PV} {t : Rat} {k : Nat} {b : PV} (w : World) (S : Nat -> Prop) (μ : Mu) (vs : List Value) (h : RepVL w S μ [.agg [hv, .q t k], b] vs) : sz t <= k := by
 cases h with
 | cons _ _ _ _ _ h _ =>
  obtain ⟨ds, hd⟩ := RepV_agg h (.q t k) (by simp)
  exact RepC_q hd
include hG in
theorem gk93 (hT : qo G) : qc prog G 170 g93 := by
 intro args hs K x h
 unfold g93 at h
 split at h
 case h_2 => cases h
 rename_i hv t k gv s l
 split at h
 case h_2 => cases h
 rename_i b g hb hg
 have hargs : ArgsLe [.agg [hv, .q t k], .agg [gv, .q s l]] [.agg [.b b, .q t k], .agg [.b g, .q s l]] := .cons (tn_le hb rfl (Nat.le_refl _)) (.cons (tn_le hg rfl (Nat.le_refl _)) .nil)
 split at h
 ·obtain ⟨hc, hr⟩ := k8 h
  obtain ⟨rfl, rfl, hk⟩ := decP_iff.1 hc
  refine ⟨_, _, ?_, hr⟩
  refine PC.args hargs (pc_assume _ then_sz fun hq => ?_)
  have hk1 := (sz_lt hq).2.2
  obtain ⟨r, k1, k2⟩ := then_key b t k false 0 1 hk (by omega) hk1 (by omega)
  refine ((qj hG (orcg93 hG hT) mix enter93 (L := []) (pol := {}) (k9 (by kernel_rfl)) k1).le k2 (.refl _)).le ?_ (.refl _)
  have e1 : thH b t false 0 = b := by
   rw [thH, qe]
   cases b
   ·simp only [Bool.false_eq_true, if_false]
    exact kF (by grind)
   ·rfl
  have e2 : thT b t false 0 = ftT b t := by
   rw [thT, ftT, qe, qe]
   cases b
   ·simp only [Bool.false_eq_true, if_false]
    rw [if_neg (by grind)]
    grind
   ·rfl
  rw [e1, e2]
  refine rle_of_vle (fun _ => rfl) (fun _ => rfl) (VLe.agg (qJ (.refl _) (qJ (vle_qq ?_) vll0)))
  rw [ftT, qe]
  cases b
  ·exact hq
  ·exact Nat.le_trans (show sz 0 <= 1 by decide) hk1
 ·obtain ⟨hc, hr⟩ := k8 h
  simp only [kA, kG] at hc
  obtain ⟨r, k1, k2⟩ := then_key b t k g s l (by omega) (by omega) (by omega) (by omega)
  exact ⟨_, _, PC.args hargs ((qj hG (orcg93 hG hT) mix enter93 (L := []) (pol := {}) (k9 (by kernel_rfl)) k1).le k2 (.refl _)), hr⟩
end
section
open Go
theorem getD_mid {α : Type} (d : α) (A B : List α) (a : α) : (A ++ a :: B).getD A.length d = a := by simp [List.getD_eq_getElem?_getD]
theorem set_mid {α : Type} (A B : List α) (a b : α) : (A ++ a :: B).set A.length b = A ++ b :: B := by simp
theorem rev_swap {α : Type} (d : α) (A M B : List α) (a b : α) :
  (A ++ a :: (M ++ b :: B)).getD A.length d = a /\ (A ++ a :: (M ++ b :: B)).getD (A.length + M.length + 1) d = b /\
  ((A ++ a :: (M ++ b :: B)).set A.length b).set (A.length + M.length + 1) a = (A ++ [b]) ++ (M ++ (a :: B)) := by
 have e : A ++ a :: (M ++ b :: B) = (A ++ a :: M) ++ b :: B := by simp
 have l : A.length + M.length + 1 = (A ++ a :: M).length := by simp; omega
 have l2 : A.length + M.length + 1 = (A ++ b :: M).length := by simp; omega
 refine ⟨getD_mid d A _ a, ?_, ?_⟩
 ·rw [e, l]; exact getD_mid d _ B b
 ·rw [set_mid, l2, show A ++ b :: (M ++ b :: B) = (A ++ b :: M) ++ b :: B by simp, set_mid]
  simp
theorem list_ends {α : Type} (l : List α) : l.length <= 1 \/ ∃ a M b, l = a :: (M ++ [b]) := by
 cases l with
 | nil => exact .inl (by simp)
 | cons a t =>
  rcases List.eq_nil_or_concat t with h | ⟨M, b, h⟩
  ·exact .inl (by simp [h])
  ·exact .inr ⟨a, M, b, by rw [h]; simp⟩
theorem rev_goes {α : Type} {R : LS -> Exit -> LS -> Prop} (st : List α -> Int -> Int -> LS) (N : Nat)
  (hstep : ∀ (A M B : List α) (a b : α), (A ++ a :: (M ++ b :: B)).length = N -> R (st (A ++ a :: (M ++ b :: B)) A.length ((A.length + M.length + 1 : Nat) : Int)) .normal (st ((A ++ [b]) ++ (M ++ (a :: B))) ((A.length + 1 : Nat) : Int) ((A.length + M.length : Nat) : Int)))
  (hend : ∀ (A M B : List α), (A ++ (M ++ B)).length = N -> M.length <= 1 -> ∀ (i j : Int), i = A.length -> j = (A.length : Int) + M.length - 1 -> R (st (A ++ (M ++ B)) i j) (.exit 0) (st (A ++ (M ++ B)) i j)) :
  ∀ (n : Nat) (A M B : List α) (i j : Int), (A ++ (M ++ B)).length = N -> M.length <= n -> i = A.length -> j = (A.length : Int) + M.length - 1 -> ∃ i' j', Goes R (st (A ++ (M ++ B)) i j) (.exit 0) (st (A ++ (M.reverse ++ B)) i' j') /\ i' = (A.length + M.length / 2 : Nat) /\ j' = (A.length : Int) + M.length - 1 - (M.length / 2 : Nat)
 | n, A, M, B, i, j, hN, hn, hi, hj => by
  rcases list_ends M with h | ⟨a, M', b, rfl⟩
  ·have hr : M.reverse = M := by
    cases M with
    | nil => rfl
    | cons a t =>
     have h' : t.length + 1 <= 1 := h
     have : t = [] := List.eq_nil_of_length_eq_zero (by omega)
     subst this; rfl
   refine ⟨i, j, ?_, by rw [hi, show M.length / 2 = 0 by omega]; simp, by rw [hj, show M.length / 2 = 0 by omega]; simp⟩
   rw [hr]
   exact .last _ _ _ (hend A M B hN h i j hi hj) (by simp)
  ·match n, hn with
   | n + 1, hn =>
    simp only [kH, List.length_append, kI] at hn hj
    obtain ⟨i', j', h1, h2, h3⟩ := rev_goes st N hstep hend n (A ++ [b]) M' (a :: B) ((A.length + 1 : Nat) : Int) ((A.length + M'.length : Nat) : Int) (by rw [<- hN]; simp) (by omega) (by simp) (by simp; omega)
    refine ⟨i', j', ?_, ?_, ?_⟩
    ·have e1 : A ++ (a :: (M' ++ [b]) ++ B) = A ++ a :: (M' ++ b :: B) := by simp
     have e2 : A ++ ((a :: (M' ++ [b])).reverse ++ B) = A ++ [b] ++ (M'.reverse ++ a :: B) := by simp
     rw [e1, e2, hi, show j = ((A.length + M'.length + 1 : Nat) : Int) by omega]
     exact .more _ _ _ _ (hstep A M' B a b (by rw [<- e1]; exact hN)) h1
    ·rw [h2]; simp; omega
    ·rw [h3]; simp; omega
end
section
open Go Tryz
set_option maxRecDepth 100000
variable {G : World -> (Nat -> Prop) -> Prop} (hG : GOk G)
def b131 : Code := (qi (qd f145)).getD 0 .skip
def pol131 : Pol := { live := [(1, [0, 2, 3])] }
theorem enter131 : Enters prog 145 f145 (qd f145) := ⟨func145, by kernel_rfl, rfl⟩
theorem r131 (n : Nat) (xs : List Int) (i j : Int) : qh prog [] [] pol131 f145.ntmps 1 [0, 2, 3] b131 ⟨[.sl 0 1 0 n, .i .i64 i, .i .i64 j], [some ⟨1, .ints .u8 xs⟩]⟩ =
 Tr.br (decide (i < j)) (.br (ix (j) ((n : Int))) (.br ((0 + j.toNat + 1).ble xs.length) (.br (ix (i) ((n : Int))) (.br ((0 + i.toNat + 1).ble xs.length) (.br (ix (i) ((n : Int))) (.br ((0 + i.toNat + 1).ble xs.length) (.br (ix (j) ((n : Int))) (.br ((0 + j.toNat + 1).ble (xs.set (0 + i.toNat) (xs.getD (0 + j.toNat) (0 : Int))).length) (.br (ib (i + 1)) (.br (ib (j - 1)) (.ok (.out .normal (LS.mk [.sl 0 1 0 n, .i .i64 (i + 1), .i .i64 (j - 1)] [some (.mk 1 (.ints .u8 ((xs.set (0 + i.toNat) (xs.getD (0 + j.toNat) (0 : Int))).set (0 + j.toNat) (xs.getD (0 + i.toNat) (0 : Int)))))]))) (.no 3003)) (.no 3005)) (.no 4001)) (.no 4002)) (.no 4003)) (.no 4004)) (.no 4005)) (.no 4006)) (.no 4009)) (.no 4010)) (.ok (.out (.exit 0) (LS.mk [.sl 0 1 0 n, .i .i64 i, .i .i64 j] [some (.mk 1 (.ints .u8 xs))]))) := by kernel_rfl
def st131 (xs : List Int) (i j : Int) : LS := ⟨[.sl 0 1 0 xs.length, .i .i64 i, .i .i64 j], [some ⟨1, .ints .u8 xs⟩]⟩
theorem step131 (A M B : List Int) (a b : Int) (hs : (A ++ a :: (M ++ b :: B)).length <= 1073741824) :
  (qh prog [] [] pol131 f145.ntmps 1 [0, 2, 3] b131 (st131 (A ++ a :: (M ++ b :: B)) A.length ((A.length + M.length + 1 : Nat) : Int))).run =
   some (.out .normal (st131 ((A ++ [b]) ++ (M ++ (a :: B))) ((A.length + 1 : Nat) : Int) ((A.length + M.length : Nat) : Int))) := by
 have hl : (A ++ a :: (M ++ b :: B)).length = A.length + M.length + B.length + 2 := by simp; omega
 have hl2 : ((A ++ [b]) ++ (M ++ (a :: B))).length = A.length + M.length + B.length + 2 := by simp; omega
 obtain ⟨g1, g2, g3⟩ := rev_swap (0 : Int) A M B a b
 have hs3 : ((A ++ a :: (M ++ b :: B)).set A.length b).length = A.length + M.length + B.length + 2 := by rw [List.length_set, hl]
 unfold st131
 rw [r131]
 have e0 : 0 + ((A.length : Nat) : Int).toNat = A.length := by omega
 have e1 : 0 + ((A.length + M.length + 1 : Nat) : Int).toNat = A.length + M.length + 1 := by omega
 rw [e0, e1, g1, g2]
 repeat rw [k5 (by simp only [kA, kD, kG]; omega)]
 rw [k7, g3, hl, hl2, show ((A.length : Nat) : Int) + 1 = ((A.length + 1 : Nat) : Int) by omega, show ((A.length + M.length + 1 : Nat) : Int) - 1 = ((A.length + M.length : Nat) : Int) by omega]
include hG in
theorem goes131 (xs : List Int) (hs : xs.length <= 1073741824) (j : Int) (hj : j = (xs.length : Int) - 1) : ∃ i' j', Goes (Rnd prog G f145.ntmps 1 [0, 2, 3] b131) (st131 xs 0 j) (.exit 0) (st131 xs.reverse i' j') /\
  i' = (xs.length / 2 : Nat) /\ j' = (xs.length : Int) - 1 - (xs.length / 2 : Nat) := by
 have h := rev_goes (R := Rnd prog G f145.ntmps 1 [0, 2, 3] b131) st131 xs.length ?_ ?_ xs.length [] xs [] 0 j (by simp) (Nat.le_refl _) rfl (by simp; omega)
 ·obtain ⟨i', j', h1, h2, h3⟩ := h
  simp only [List.nil_append, List.append_nil, kI] at h1 h2 h3
  exact ⟨i', j', h1, by omega, by omega⟩
 ·intro A M B a b hN
  exact qb hG OrcOK.nil mix (L := []) (pol := pol131) (O := []) (k9 (by kernel_rfl)) (Nat.le_refl _) (step131 A M B a b (by omega))
 ·intro A M B hN hM i j hi hj
  refine qb hG OrcOK.nil mix (L := []) (pol := pol131) (O := []) (k9 (by kernel_rfl)) (Nat.le_refl _) ?_
  unfold st131
  rw [r131, k6 (kF (by omega)), k7]
def l131 : qy := fun ls K => match ls with
 | ⟨[.sl 0 1 0 n, .i .i64 i, .i .i64 j], [some ⟨1, .ints .u8 xs⟩]⟩ => .br (decide (n = xs.length) && decide (i = 0) && decide (j = (xs.length : Int) - 1) && decide (xs.length <= 1073741824))
   (K (.exit 0) (st131 xs.reverse (xs.length / 2 : Nat) ((xs.length : Int) - 1 - (xs.length / 2 : Nat)))) (.no 1)
 | _ => .no 1
theorem e131 (n : Nat) (xs : List Int) : evF prog [] [(1, l131)] pol131 f145 [.sl 0 1 0 n] [⟨1, .ints .u8 xs⟩] ql =
 Tr.br (ib ((n : Int) - 1)) (.br (decide (n = xs.length) && decide ((0 : Int) = 0) && decide ((n : Int) - 1 = (xs.length : Int) - 1) && decide (xs.length <= 1073741824)) (.ok (.ret (.tup []) [Blk.mk 1 (.ints .u8 xs.reverse)])) (.no 1)) (.no 1003) := by kernel_rfl
theorem e131n (x : Unit) : evF prog [] [(1, unr prog [] [] pol131 f145.ntmps 0 [0, 2, 3] b131 1)] pol131 f145 [.nil] [] ql =
 Tr.br (ib ((0 : Int) - 1)) (.br (decide ((0 : Int) < 0 - 1)) (.no 4010) (.ok (.ret (.tup []) []))) (.no 1003) := by kernel_rfl
def s131 : Spec := fun args hs K => match args, hs with
 | [.sl 0 1 0 n], [⟨1, .ints .u8 xs⟩] => .br (decide (n = xs.length) && decide (xs.length <= 1073741824)) (K (.tup []) [⟨1, .ints .u8 xs.reverse⟩]) (.no 1)
 | [.nil], [] => K (.tup []) []
 | _, _ => .no 1
include hG in
theorem ok131 : qc prog G 145 s131 := by
 intro args hs K x h
 unfold s131 at h
 split at h
 ·rename_i n xs
  obtain ⟨hc, hr⟩ := k8 h
  simp only [kA, kD] at hc
  obtain ⟨rfl, hs⟩ := hc
  refine ⟨_, _, qj hG OrcOK.nil mix enter131 (hs := [⟨1, .ints .u8 xs⟩]) (L := [(1, l131)]) (pol := pol131) (O := []) (lps1 (b := b131) (live := [0, 2, 3]) (sp := l131) (m := 1) (by kernel_rfl) (by kernel_rfl) (by kernel_rfl) ?_) ?_, hr⟩
  ·intro ls K x hm h
   unfold l131 at h
   split at h
   case h_2 => cases h
   rename_i n i j xs
   obtain ⟨hc, hr⟩ := k8 h
   simp only [kA, kD] at hc
   obtain ⟨⟨⟨rfl, rfl⟩, rfl⟩, hs⟩ := hc
   obtain ⟨i', j', h1, rfl, rfl⟩ := goes131 hG xs hs _ rfl
   exact ⟨_, _, qu h1, hr⟩
  ·rw [e131]
   repeat rw [k5 (by simp only [kA, kD, eq_self, true_and, and_true]; omega)]
   rw [k7]
 ·refine ⟨_, _, qj hG OrcOK.nil mix enter131 (hs := []) (L := [(1, unr prog [] [] pol131 f145.ntmps 0 [0, 2, 3] b131 1)]) (pol := pol131) (O := []) (lps1 (b := b131) (live := [0, 2, 3]) (m := 0) (by kernel_rfl) (by kernel_rfl) (by kernel_rfl) (unr_ok (pol := pol131) (L := []) hG OrcOK.nil mix (k9 (by kernel_rfl)) 1)) ?_, h⟩
  rw [e131n ()]
  rfl
 ·cases h
def b119 : Code := (qi (qd f103)).getD 0 .skip
def pol119 : Pol := { live := [(2, [0, 3])], own := [13], wr := [(145, [0])] }
theorem enter119 : Enters prog 103 f103 (qd f103) := ⟨func103, by kernel_rfl, rfl⟩
theorem r119n (x : Int) : qh prog [] [] pol119 f103.ntmps 0 [0, 3] b119 ⟨[.i .i64 x, .nil], []⟩ =
 Tr.br (decide (0 < x)) (.br (!decide ((256 : Int) = 0)) (.br (Nat.blt (0 : Nat) [IntKind.u8.wrap (x.tmod (256 : Int))].length && [IntKind.u8.wrap (x.tmod (256 : Int))].length.ble 4294967296) (.br (!decide ((256 : Int) = 0) && (ib (x.tdiv (256 : Int)))) (.ok (.out .normal (LS.mk [.i .i64 (x.tdiv (256 : Int)), .sl 0 1 0 1] [some (.mk 1 (.ints .u8 [IntKind.u8.wrap (x.tmod (256 : Int))]))]))) (.no 4002)) (.no 5002)) (.no 5005)) (.ok (.out (.exit 0) (LS.mk [.i .i64 x, .nil] []))) := by kernel_rfl
theorem r119 (n : Nat) (x : Int) (xs : List Int) : qh prog [] [] pol119 f103.ntmps 0 [0, 3] b119 ⟨[.i .i64 x, .sl 0 1 0 n], [some ⟨1, .ints .u8 xs⟩]⟩ =
 Tr.br (decide (0 < x)) (.br (!decide ((256 : Int) = 0)) (.br (n.ble xs.length && (n + [IntKind.u8.wrap (x.tmod (256 : Int))].length).ble 4294967296) (.br (!decide ((256 : Int) = 0) && (ib (x.tdiv (256 : Int)))) (.ok (.out .normal (LS.mk [.i .i64 (x.tdiv (256 : Int)), .sl 0 1 0 (n + [IntKind.u8.wrap (x.tmod (256 : Int))].length)] [some (.mk 1 (.ints .u8 (List.take n (List.drop 0 xs) ++ [IntKind.u8.wrap (x.tmod (256 : Int))])))]))) (.no 4002)) (.no 5002)) (.no 5005)) (.ok (.out (.exit 0) (LS.mk [.i .i64 x, .sl 0 1 0 n] [some (.mk 1 (.ints .u8 xs))]))) := by kernel_rfl
def st119 (x : Int) (xs : List Int) : LS := match xs with
 | [] => ⟨[.i .i64 x, .nil], []⟩
 | xs => ⟨[.i .i64 x, .sl 0 1 0 xs.length], [some ⟨1, .ints .u8 xs⟩]⟩
theorem step119 (n : Nat) (xs : List Int) (hn : n ≠ 0) (h63 : n < 9223372036854775808) (hx : xs.length <= 1048576) :
  (qh prog [] [] pol119 f103.ntmps 0 [0, 3] b119 (st119 n xs)).run = some (.out .normal (st119 ((n / 256 : Nat) : Int) (xs ++ [((n % 256 : Nat) : Int)]))) := by
 have h1 : (n : Int).tdiv 256 = ((n / 256 : Nat) : Int) := tdiv_nat n 256
 have h2 : (n : Int).tmod 256 = ((n % 256 : Nat) : Int) := tmod_nat n 256
 have h3 : IntKind.u8.wrap ((n % 256 : Nat) : Int) = ((n % 256 : Nat) : Int) := w8 (by omega) (by omega)
 have h4 : n / 256 <= n := Nat.div_le_self _ _
 cases xs with
 | nil =>
  show (qh prog [] [] pol119 f103.ntmps 0 [0, 3] b119 ⟨[.i .i64 n, .nil], []⟩).run = _
  rw [r119n, h1, h2, h3]
  repeat rw [k5 (by simp only [kA, kD, kG, Nat.blt_eq, kJ, kK, kH, kI]; omega)]
  rw [k7]
  rfl
 | cons y ys =>
  show (qh prog [] [] pol119 f103.ntmps 0 [0, 3] b119 ⟨[.i .i64 n, .sl 0 1 0 (y :: ys).length], [some ⟨1, .ints .u8 (y :: ys)⟩]⟩).run = _
  rw [r119, h1, h2, h3]
  repeat rw [k5 (by simp only [kA, kD, kG, kJ, kK, kH, kI] at hx ⊢; omega)]
  rw [k7, List.drop_zero, List.take_length]
  show _ = some (Res.out .normal ⟨[.i .i64 ((n / 256 : Nat) : Int), .sl 0 1 0 ((y :: ys) ++ [((n % 256 : Nat) : Int)]).length], [some ⟨1, .ints .u8 ((y :: ys) ++ [((n % 256 : Nat) : Int)])⟩]⟩)
  simp
include hG in
theorem goes119 : ∀ (f n : Nat) (xs : List Int), n < 256 ^ f -> n < 9223372036854775808 -> xs.length + f <= 1048576 -> Goes (Rnd prog G f103.ntmps 0 [0, 3] b119) (st119 n xs) (.exit 0) (st119 0 (xs ++ dg 256 n)) := by
 intro f
 induction f with
 | zero =>
  intro n xs h1 h2 h3
  have : n = 0 := by simpa using h1
  subst this
  rw [dg_zero, List.append_nil]
  refine .last _ _ _ (qb hG OrcOK.nil mix (L := []) (pol := pol119) (O := []) (k9 (by kernel_rfl)) (Nat.zero_le _) ?_) (by simp)
  cases xs with
  | nil => exact (congrArg Tr.run (r119n 0)).trans rfl
  | cons y ys => exact (congrArg Tr.run (r119 (y :: ys).length 0 (y :: ys))).trans rfl
 | succ f ih =>
  intro n xs h1 h2 h3
  by_cases h0 : n = 0
  ·subst h0
   rw [dg_zero, List.append_nil]
   refine .last _ _ _ (qb hG OrcOK.nil mix (L := []) (pol := pol119) (O := []) (k9 (by kernel_rfl)) (Nat.zero_le _) ?_) (by simp)
   cases xs with
   | nil => exact (congrArg Tr.run (r119n 0)).trans rfl
   | cons y ys => exact (congrArg Tr.run (r119 (y :: ys).length 0 (y :: ys))).trans rfl
  ·refine .more _ _ _ _ (qb hG OrcOK.nil mix (L := []) (pol := pol119) (O := []) (k9 (by kernel_rfl)) (Nat.zero_le _) (step119 n xs h0 h2 (by omega))) ?_
   have h := ih (n / 256) (xs ++ [((n % 256 : Nat) : Int)]) (by rw [Nat.div_lt_iff_lt_mul (by omega)]; rwa [Nat.pow_succ] at h1) (by omega) (by simp; omega)
   rw [dg_pos (by omega) h0]
   simpa using h
def l119 : qy := fun ls K => match ls with
 | ⟨[.i .i64 x, .nil], []⟩ => .br (decide (0 < x) && decide (x < 9223372036854775808)) (K (.exit 0) ⟨[.i .i64 0, .sl 0 1 0 (dg 256 x.toNat).length], [some ⟨1, .ints .u8 (dg 256 x.toNat)⟩]⟩)
   (.br (decide (x = 0)) (K (.exit 0) ⟨[.i .i64 0, .nil], []⟩) (.no 1))
 | _ => .no 1
theorem e119 (x : Int) : evF prog [(145, s131)] [(2, l119)] pol119 f103 [.i .i64 x] [] ql =
 Tr.br (decide (0 < x) && decide (x < 9223372036854775808)) (.br (decide ((dg (256 : Nat) x.toNat).length = (dg (256 : Nat) x.toNat).length) && decide ((dg (256 : Nat) x.toNat).length <= 1073741824)) (.br ((0 + (dg (256 : Nat) x.toNat).length).ble (dg (256 : Nat) x.toNat).reverse.length) (.ok (.ret (.s (ByteArray.mk (List.map (fun (n : Int) => UInt8.ofNat n.toNat) (List.take (dg (256 : Nat) x.toNat).length (List.drop 0 (dg (256 : Nat) x.toNat).reverse))).toArray)) [])) (.no 7002)) (.no 1)) (.br (decide (x = 0)) (.ok (.ret (.s (ByteArray.mk #[])) [])) (.no 1)) := by kernel_rfl
theorem dg_nbl (n : Nat) : ((dg 256 n).reverse.map fun x => UInt8.ofNat x.toNat) = nbl n := by
 induction n using Nat.strongRecOn with
 | _ n ih =>
  by_cases h : n = 0
  ·subst h; rfl
  ·rw [dg_pos (by omega) h, nbl_pos h, List.reverse_cons, List.map_append, ih (n / 256) (by omega)]
   have e : ((n % 256 : Nat) : Int).toNat = n % 256 := Int.toNat_natCast _
   simp only [List.map_cons, List.map_nil, e]
def s119 : Spec := fun args hs K => match args, hs with
 | [.i .i64 x], [] => .br (decide (0 <= x) && decide (x < 9223372036854775808)) (K (.s (nb x.toNat)) []) (.no 1)
 | _, _ => .no 1
include hG in
theorem ok119 : qc prog G 103 s119 := by
 refine qp hG (.cons (ok131 hG) .nil) mix enter119 (L := [(2, l119)]) (pol := pol119) fun args hs K x h => ?_
 unfold s119 at h
 split at h
 case h_2 => cases h
 rename_i n
 obtain ⟨hc, hr⟩ := k8 h
 simp only [kA, kD] at hc
 refine ⟨lps1 (b := b119) (live := [0, 3]) (sp := l119) (m := 0) (by kernel_rfl) (by kernel_rfl) (by kernel_rfl) ?_, _, _, _, ?_, .refl _, hr⟩
 ·intro ls K x hm h
  unfold l119 at h
  split at h
  case h_2 => cases h
  rename_i n
  by_cases h0 : 0 < n
  ·by_cases h1 : n < 9223372036854775808
   ·rw [k5 (by simp only [kA, kD]; omega)] at h
    obtain ⟨k, rfl⟩ := Int.eq_ofNat_of_zero_le (show 0 <= n by omega)
    have hg := goes119 hG 8 k [] (by omega) (by omega) (by simp)
    rw [Int.toNat_natCast] at h
    refine ⟨_, _, qu hg, ?_⟩
    rw [List.nil_append]
    have : st119 0 (dg 256 k) = ⟨[.i .i64 0, .sl 0 1 0 (dg 256 k).length], [some ⟨1, .ints .u8 (dg 256 k)⟩]⟩ := by
     rw [dg_pos (by omega) (show k ≠ 0 by omega)]; rfl
    rw [this]; exact h
   ·rw [k6 (by rw [kF h1, Bool.and_false]), k6 (kF (by omega))] at h
    cases h
  ·rw [k6 (by rw [kF h0, Bool.false_and])] at h
   obtain ⟨hc, hr⟩ := k8 h
   have := of_decide_eq_true hc
   subst this
   exact ⟨_, _, qu (goes119 hG 0 0 [] (by omega) (by omega) (by simp)), hr⟩
 ·rw [e119]
  by_cases h0 : 0 < n
  ·have hl : (dg 256 n.toNat).length <= 8 := dg_length_le (by omega) (by omega)
   have hlr : (dg 256 n.toNat).reverse.length = (dg 256 n.toNat).length := List.length_reverse
   have ht : List.take (dg 256 n.toNat).length (List.drop 0 (dg 256 n.toNat).reverse) = (dg 256 n.toNat).reverse := by
    rw [List.drop_zero, List.take_of_length_le (by omega)]
   rw [k5 (by simp only [kA, kD]; omega), k5 (by simp only [kA, kD, eq_self, true_and]; omega), k5 (by rw [kG]; omega), k7, ht, dg_nbl]
   rfl
  ·have : n = 0 := by omega
   subst this
   rfl
def b81 : Code := (qi (qd f55)).getD 0 .skip
def pol81 : Pol := { live := [(2, [0, 1, 4, 5, 6])] }
theorem enter81 : Enters prog 55 f55 (qd f55) := ⟨func55, by kernel_rfl, rfl⟩
theorem r81 (n d a b : Int) (z1 z2 : ByteArray) : qh prog [] [] pol81 f55.ntmps 0 [0, 1, 4, 5, 6] b81 ⟨[.i .i64 n, .i .i64 d, .ptr 0 3 0 0 [], .i .i64 a, .i .i64 b], [some ⟨3, .vals [.agg [.bl false, .s z1, .s z2]]⟩]⟩ =
 Tr.br (decide (0 < b)) (.br (!decide (b = 0)) (.ok (.out .normal (LS.mk [.i .i64 n, .i .i64 d, .ptr 0 3 0 0 [], .i .i64 b, .i .i64 (a.tmod b)] [some (.mk 3 (.vals [.agg [.bl false, .s z1, .s z2]]))]))) (.no 4003)) (.ok (.out (.exit 0) (LS.mk [.i .i64 n, .i .i64 d, .ptr 0 3 0 0 [], .i .i64 a, .i .i64 b] [some (.mk 3 (.vals [.agg [.bl false, .s z1, .s z2]]))]))) := by kernel_rfl

def st81 (n d : Int) (z1 z2 : ByteArray) (a b : Int) : LS := ⟨[.i .i64 n, .i .i64 d, .ptr 0 3 0 0 [], .i .i64 a, .i .i64 b], [some ⟨3, .vals [.agg [.bl false, .s z1, .s z2]]⟩]⟩
include hG in
theorem goes81 (n d : Int) (z1 z2 : ByteArray) : ∀ (y x : Nat), Goes (Rnd prog G f55.ntmps 0 [0, 1, 4, 5, 6] b81) (st81 n d z1 z2 x y) (.exit 0) (st81 n d z1 z2 (Nat.gcd x y) 0) := by
 intro y
 induction y using Nat.strongRecOn with
 | _ y ih =>
  intro x
  by_cases h : y = 0
  ·subst h
   refine .last _ _ _ (qb hG OrcOK.nil mix (L := []) (pol := pol81) (O := []) (k9 (by kernel_rfl)) (Nat.zero_le _) ?_) (by simp)
   unfold st81
   rw [r81, k6 (by decide), k7, Nat.gcd_zero_right]; rfl
  ·refine .more _ (st81 n d z1 z2 y (x % y : Nat)) _ _ (qb hG OrcOK.nil mix (L := []) (pol := pol81) (O := []) (k9 (by kernel_rfl)) (Nat.zero_le _) ?_) ?_
   ·unfold st81
    rw [r81, k5 (kE (by omega)), k5 (by rw [kF (by omega)]; rfl), k7, tmod_nat]
   ·have := ih (x % y) (Nat.mod_lt _ (by omega)) y
    rwa [Nat.gcd_comm y, <- Nat.gcd_rec, Nat.gcd_comm y] at this
def l81 : qy := fun ls K => match ls with
 | ⟨[.i .i64 n, .i .i64 d, .ptr 0 3 0 0 [], .i .i64 a, .i .i64 b], [some ⟨3, .vals [.agg [.bl false, .s z1, .s z2]]⟩]⟩ => .br (decide (0 <= a) && decide (0 <= b)) (K (.exit 0) (st81 n d z1 z2 (Nat.gcd a.toNat b.toNat) 0)) (.no 1)
 | _ => .no 1
theorem e81 (n d : Int) : evF prog [(103, s119)] [(2, l81)] pol81 f55 [.i .i64 n, .i .i64 d] [] ql =
 Tr.br (ib (0 - n)) (.br (decide (0 <= if 0 - n > n then 0 - n else n) && decide (0 <= d)) (.br (!decide ((↑((if 0 - n > n then 0 - n else n).toNat.gcd d.toNat) : Int) = 0) && (ib (n.tdiv (↑((if 0 - n > n then 0 - n else n).toNat.gcd d.toNat) : Int)))) (.br (!decide ((↑((if 0 - n > n then 0 - n else n).toNat.gcd d.toNat) : Int) = 0) && (ib (d.tdiv (↑((if 0 - n > n then 0 - n else n).toNat.gcd d.toNat) : Int)))) (.br (ib (0 - n.tdiv (↑((if 0 - n > n then 0 - n else n).toNat.gcd d.toNat) : Int))) (.br (decide (0 <= if 0 - n.tdiv (↑((if 0 - n > n then 0 - n else n).toNat.gcd d.toNat) : Int) > n.tdiv (↑((if 0 - n > n then 0 - n else n).toNat.gcd d.toNat) : Int) then 0 - n.tdiv (↑((if 0 - n > n then 0 - n else n).toNat.gcd d.toNat) : Int) else n.tdiv (↑((if 0 - n > n then 0 - n else n).toNat.gcd d.toNat) : Int)) && decide ((if 0 - n.tdiv (↑((if 0 - n > n then 0 - n else n).toNat.gcd d.toNat) : Int) > n.tdiv (↑((if 0 - n > n then 0 - n else n).toNat.gcd d.toNat) : Int) then 0 - n.tdiv (↑((if 0 - n > n then 0 - n else n).toNat.gcd d.toNat) : Int) else n.tdiv (↑((if 0 - n > n then 0 - n else n).toNat.gcd d.toNat) : Int)) < 9223372036854775808)) (.br (ix (d.tdiv (↑((if 0 - n > n then 0 - n else n).toNat.gcd d.toNat) : Int)) ((9223372036854775808 : Int))) (.ok (.ret (.agg [.b (decide (n.tdiv (↑((if 0 - n > n then 0 - n else n).toNat.gcd d.toNat) : Int) < 0)), .s (nb (if 0 - n.tdiv (↑((if 0 - n > n then 0 - n else n).toNat.gcd d.toNat) : Int) > n.tdiv (↑((if 0 - n > n then 0 - n else n).toNat.gcd d.toNat) : Int) then 0 - n.tdiv (↑((if 0 - n > n then 0 - n else n).toNat.gcd d.toNat) : Int) else n.tdiv (↑((if 0 - n > n then 0 - n else n).toNat.gcd d.toNat) : Int)).toNat), .s (nb (d.tdiv (↑((if 0 - n > n then 0 - n else n).toNat.gcd d.toNat) : Int)).toNat)]) [])) (.no 1)) (.no 1)) (.no 6007)) (.no 5003)) (.no 5006)) (.no 1)) (.no 2005) := by kernel_rfl
def s81 : Spec := fun args hs K => match args, hs with
 | [.i .i64 n, .i .i64 d], [] => .br (decide (0 < d) && decide (d < 4611686018427387904) && decide (-4611686018427387904 < n) && decide (n < 4611686018427387904)) (K (.q (mkRat n d.toNat) 64) []) (.no 1)
 | _, _ => .no 1
theorem max_neg (n : Int) : (if (0 : Int) - n > n then (0 : Int) - n else n) = (n.natAbs : Int) := by split <;> omega
theorem mkRat_num_tdiv (n : Int) {k : Nat} (hk : k ≠ 0) : n.tdiv ((Nat.gcd n.natAbs k : Nat) : Int) = (mkRat n k).num := by
 rw [Rat.num_mkRat, if_neg hk, Nat.gcd_comm k]
 refine Int.tdiv_eq_ediv_of_dvd ?_
 rw [<- Int.dvd_natAbs]; exact_mod_cast Nat.gcd_dvd_left n.natAbs k
theorem mkRat_den_tdiv (n : Int) {k : Nat} (hk : k ≠ 0) : (k : Int).tdiv ((Nat.gcd n.natAbs k : Nat) : Int) = ((mkRat n k).den : Int) := by
 rw [Rat.den_mkRat, if_neg hk, tdiv_nat, Nat.gcd_comm k]
include hG in
theorem ok81 : qc prog G 55 s81 := by
 refine qp hG (.cons (ok119 hG) .nil) mix enter81 (L := [(2, l81)]) (pol := pol81) fun args hs K x h => ?_
 unfold s81 at h
 split at h
 case h_2 => cases h
 rename_i n d
 obtain ⟨hc, hr⟩ := k8 h
 simp only [kA, kD] at hc
 refine ⟨lps1 (b := b81) (live := [0, 1, 4, 5, 6]) (sp := l81) (m := 0) (by kernel_rfl) (by kernel_rfl) (by kernel_rfl) ?_, ?_⟩
 ·intro ls K x hm h
  unfold l81 at h
  split at h
  case h_2 => cases h
  rename_i n d a b z1 z2
  obtain ⟨hc, hr⟩ := k8 h
  simp only [kA, kD] at hc
  obtain ⟨a, rfl⟩ := Int.eq_ofNat_of_zero_le hc.1
  obtain ⟨b, rfl⟩ := Int.eq_ofNat_of_zero_le hc.2
  exact ⟨_, _, qu (goes81 hG n d z1 z2 b a), hr⟩
 ·obtain ⟨k, rfl⟩ := Int.eq_ofNat_of_zero_le (show 0 <= d by omega)
  have hk : k ≠ 0 := by omega
  have hg : 0 < Nat.gcd n.natAbs k := Nat.gcd_pos_of_pos_right _ (by omega)
  rw [e81]
  simp only [max_neg, Int.toNat_natCast, mkRat_num_tdiv n hk, mkRat_den_tdiv n hk]
  have h1 := mkRat_num_le n hk
  have h2 := mkRat_den_le n hk
  have hz : sz (mkRat n k) <= 64 := sz_le (by omega) (by omega) (by omega)
  repeat rw [k5 (by simp only [kA, kD, kJ, kK]; omega)]
  exact ⟨_, _, _, rfl, rle_q rfl hz, hr⟩

theorem enter23 : Enters prog 65 f65 (qd f65) := ⟨func65, by kernel_rfl, rfl⟩
def s23 : Spec := evF prog [(55, s81)] [] {} f65
include hG in
theorem ok23 : qc prog G 65 s23 := spec_ev hG (.cons (ok81 hG) .nil) mix enter23 (fun _ => k9 (by kernel_rfl))
end
section
open Go
set_option maxRecDepth 100000
variable {G : World -> (Nat -> Prop) -> Prop} (hG : GOk G)
end
section
open Go Tryz
set_option maxRecDepth 100000
variable {G : World -> (Nat -> Prop) -> Prop} (hG : GOk G)
theorem enter125 : Enters prog 144 f144 (qd f144) := ⟨func144, by kernel_rfl, rfl⟩
theorem e125 (x : Rat) (n : Nat) : evF prog [(59, s82), (100, s107), (104, s109)] [] {} f144 [.q x n] [] ql =
 Tr.br (decide ((↑(qr x).size : Int) <= 3)) (.br (decide ((↑(qt x).size : Int) <= 2)) (.br (decide (x.num.natAbs < 18446744073709551616) && decide (x.den < 18446744073709551616)) (.br (decide ((1000000 : Int) <= 9223372036854775807)) (.br (decide (ncmp (bv (qa x.num.natAbs x.num.natAbs []).toArray.toList) (bv (qa (Int.toNat 1000000) (Int.toNat 1000000) []).toArray.toList) <= 0)) (.br (decide ((1000 : Int) <= 9223372036854775807)) (.ok (.ret (.b (decide (ncmp (bv (qa x.den x.den []).toArray.toList) (bv (qa (Int.toNat 1000) (Int.toNat 1000) []).toArray.toList) <= 0))) [])) (.no 1)) (.ok (.ret (.bl false) []))) (.no 1)) (.no 1)) (.ok (.ret (.bl false) []))) (.ok (.ret (.bl false) [])) := by kernel_rfl
def smQ (x : Rat) : Bool := decide (x.num.natAbs <= 1000000) && decide (x.den <= 1000)
theorem smQ_iff {x : Rat} : smQ x = true ↔ x.num.natAbs <= 1000000 /\ x.den <= 1000 := by simp [smQ]
def s125 : Spec := fun args hs K => match args, hs with
 | [.q x _], [] => .br (smQ x) (K (.bl true) []) (.no 1)
 | _, _ => .no 1
include hG in
theorem ok125 : qc prog G 144 s125 := by
 refine qp hG (.cons (ok82 hG) (.cons (ok107 hG) (.cons (ok109 hG) .nil))) mix enter125 (L := []) (pol := {}) fun args hs K x h => ?_
 unfold s125 at h
 split at h
 case h_2 => cases h
 rename_i x n
 obtain ⟨hc, hr⟩ := k8 h
 have hs := smQ_iff.1 hc
 have a1 : (qr x).size <= 3 := nb_size_le (k := 3) (by omega)
 have a2 : (qt x).size <= 2 := nb_size_le (k := 2) (by omega)
 have t1 : Int.toNat (1000000 : Int) = 1000000 := by decide
 have t2 : Int.toNat (1000 : Int) = 1000 := by decide
 have nc : ∀ n m : Nat, n <= m -> ncmp n m <= 0 := by
  intro n m h; unfold ncmp; split
  ·omega
  ·rw [if_neg (by omega)]; omega
 refine ⟨k9 (by kernel_rfl), ?_⟩
 rw [e125]
 simp only [bv_nb', bv_nb2]
 rw [k5 (kE (by omega)), k5 (kE (by omega)), k5 (by simp only [kA, kD]; omega), k5 (by decide),
  k5 (kE (nc _ _ (by rw [t1]; omega))), k5 (by decide)]
 exact ⟨_, _, _, rfl, rle_b (kE (nc _ _ (by rw [t2]; omega))), hr⟩
def b95 : Code := (qi (qd f96)).getD 0 .skip
def pol95 : Pol := { live := [(2, [2, 5, 6, 7])] }
theorem enter95 : Enters prog 96 f96 (qd f96) := ⟨func96, by kernel_rfl, rfl⟩
theorem r95 (xs : List Rat) (n i : Int) : qh prog [(144, s125)] [] pol95 f96.ntmps 0 [2, 5, 6, 7] b95 ⟨[.bl false, .lst 3 (.rats 64 xs), .i .i64 n, .i .i64 i], []⟩ =
 Tr.br (decide (i < n)) (.br (ix (i) ((xs.length : Int))) (.br (smQ (xs.getD i.toNat 0)) (.br (ib (i + 1)) (.ok (.out .normal (LS.mk [.bl false, .lst 3 (.rats 64 xs), .i .i64 n, .i .i64 (i + 1)] []))) (.no 7002)) (.no 1)) (.no 4004)) (.ok (.out (.exit 0) (LS.mk [.bl false, .lst 3 (.rats 64 xs), .i .i64 n, .i .i64 i] []))) := by kernel_rfl
def st95 (xs : List Rat) (i : Nat) : LS := ⟨[.bl false, .lst 3 (.rats 64 xs), .i .i64 xs.length, .i .i64 i], []⟩
def l95 : qy := fun ls K => match ls with
 | ⟨[.bl false, .lst 3 (.rats 64 xs), .i .i64 n, .i .i64 i], []⟩ => .br (decide (n = xs.length) && decide (i = 0) && decide (xs.length <= 1073741824) && xs.all smQ) (K (.exit 0) (st95 xs xs.length)) (.no 1)
 | _ => .no 1
include hG in
theorem orc95 : OrcOK prog G [(144, s125)] := .cons (ok125 hG) .nil
include hG in
theorem loop95 : qw prog G f96.ntmps 0 [2, 5, 6, 7] b95 l95 := by
 intro ls K y hm h
 unfold l95 at h
 split at h
 case h_2 => cases h
 rename_i xs n i
 obtain ⟨hc, hr⟩ := k8 h
 simp only [kA, kD] at hc
 obtain ⟨⟨⟨rfl, rfl⟩, hs⟩, ha⟩ := hc
 refine ⟨_, _, qu (Goes.count (R := Rnd prog G f96.ntmps 0 [2, 5, 6, 7] b95) (st95 xs) (e := .exit 0) (ls' := st95 xs xs.length) (by simp) xs.length 0 (fun j _ hj => ?_) ?_), hr⟩
 ·refine qb hG (orc95 hG) mix (L := []) (pol := pol95) (O := [(144, s125)]) (k9 (by kernel_rfl)) (Nat.zero_le _) ?_
  unfold st95
  rw [r95, k5 (kE (by omega)), k5 (by simp only [kA, kD]; omega), k5 (by
   rw [Int.toNat_natCast, List.getD_eq_getElem?_getD, List.getElem?_eq_getElem (show j < xs.length by omega)]
   exact List.all_eq_true.1 ha _ (List.getElem_mem _)), k5 (by simp only [kA, kD]; omega), k7]
  rfl
 ·refine qb hG (orc95 hG) mix (L := []) (pol := pol95) (O := [(144, s125)]) (k9 (by kernel_rfl)) (Nat.zero_le _) ?_
  unfold st95
  rw [Nat.zero_add, r95, k6 (kF (by omega)), k7]
theorem e95 (xs : List Rat) : evF prog [(144, s125)] [(2, l95)] pol95 f96 [.lst 3 (.rats 64 xs)] [] ql =
 Tr.br (decide ((xs.length : Int) = (xs.length : Int)) && decide ((0 : Int) = 0) && decide (xs.length <= 1073741824) && xs.all smQ) (.ok (.ret (.bl true) [])) (.no 1) := by kernel_rfl
def s95 : Spec := fun args hs K => match args, hs with
 | [.lst 3 (.rats 64 xs)], [] => .br (decide (xs.length <= 1073741824) && xs.all smQ) (K (.bl true) []) (.no 1)
 | _, _ => .no 1
include hG in
theorem ok95 : qc prog G 96 s95 := by
 refine qp hG (orc95 hG) mix enter95 (L := [(2, l95)]) (pol := pol95) fun args hs K x h => ?_
 unfold s95 at h
 split at h
 case h_2 => cases h
 rename_i xs
 obtain ⟨hc, hr⟩ := k8 h
 simp only [kA, kD] at hc
 refine ⟨lps1 (b := b95) (live := [2, 5, 6, 7]) (sp := l95) (m := 0) (by kernel_rfl) (by kernel_rfl) (by kernel_rfl) (loop95 hG), _, _, _, ?_, .refl _, hr⟩
 rw [e95, k5 (by simp only [kA, kD]; exact ⟨⟨⟨trivial, trivial⟩, hc.1⟩, hc.2⟩), k7]
def b94 : Code := (qi (qd f95)).getD 0 .skip
def pol94 : Pol := { live := [(2, [0, 2, 5, 6])] }
theorem enter94 : Enters prog 95 f95 (qd f95) := ⟨func95, by kernel_rfl, rfl⟩
theorem r94 (a : ByteArray) (n i : Int) : qh prog [] [] pol94 f95.ntmps 0 [0, 2, 5, 6] b94 ⟨[.s a, .bl false, .i .i64 n, .i .i64 i], []⟩ =
 Tr.br (decide (i < n)) (.br (ix (i) ((a.size : Int))) (.br (decide ((↑(a.1.toList.getD i.toNat (0 : UInt8)).toNat : Int) < 97)) (.ok (.out .ret (LS.mk [.s a, .bl false, .i .i64 n, .i .i64 i] []))) (.br (ix (i) ((a.size : Int))) (.br (decide (122 < (↑(a.1.toList.getD i.toNat (0 : UInt8)).toNat : Int))) (.ok (.out .ret (LS.mk [.s a, .bl false, .i .i64 n, .i .i64 i] []))) (.br (ib (i + 1)) (.ok (.out .normal (LS.mk [.s a, .bl false, .i .i64 n, .i .i64 (i + 1)] []))) (.no 7002))) (.no 5003))) (.no 5008)) (.ok (.out (.exit 0) (LS.mk [.s a, .bl false, .i .i64 n, .i .i64 i] []))) := by kernel_rfl
def st94 (a : ByteArray) (i : Nat) : LS := ⟨[.s a, .bl false, .i .i64 a.size, .i .i64 i], []⟩
def isNm (a : ByteArray) : Bool := a.data.toList.all (fun c => decide (97 <= c.toNat) && decide (c.toNat <= 122)) && decide (1 <= a.size) && decide (a.size <= 12)
def l94 : qy := fun ls K => match ls with
 | ⟨[.s a, .bl false, .i .i64 n, .i .i64 i], []⟩ => .br (decide (n = a.size) && decide (i = 0) && isNm a) (K (.exit 0) (st94 a a.size)) (.no 1)
 | _ => .no 1
include hG in
theorem loop94 : qw prog G f95.ntmps 0 [0, 2, 5, 6] b94 l94 := by
 intro ls K y hm h
 unfold l94 at h
 split at h
 case h_2 => cases h
 rename_i a n i
 obtain ⟨hc, hr⟩ := k8 h
 simp only [kA, kD, isNm] at hc
 obtain ⟨⟨rfl, rfl⟩, ⟨ha, h1⟩, h2⟩ := hc
 have hl := ba_len a
 refine ⟨_, _, qu (Goes.count (R := Rnd prog G f95.ntmps 0 [0, 2, 5, 6] b94) (st94 a) (e := .exit 0) (ls' := st94 a a.size) (by simp) a.size 0 (fun j _ hj => ?_) ?_), hr⟩
 ·refine qb hG .nil mix (L := []) (pol := pol94) (O := []) (k9 (by kernel_rfl)) (Nat.zero_le _) ?_
  have hb := List.all_eq_true.1 ha (a.data.toList[j]'(by omega)) (List.getElem_mem _)
  simp only [kA, kD] at hb
  have hg : (a.data.toList.getD ((j : Nat) : Int).toNat 0) = a.data.toList[j]'(by omega) := by
   rw [Int.toNat_natCast, List.getD_eq_getElem?_getD, List.getElem?_eq_getElem (show j < a.data.toList.length by omega)]; rfl
  unfold st94
  rw [r94, hg, k5 (kE (by omega)), k5 (by simp only [kA, kD]; omega), k6 (kF (by omega)), k5 (by simp only [kA, kD]; omega), k6 (kF (by omega)), k5 (by simp only [kA, kD]; omega), k7]
  rfl
 ·refine qb hG .nil mix (L := []) (pol := pol94) (O := []) (k9 (by kernel_rfl)) (Nat.zero_le _) ?_
  unfold st94
  rw [Nat.zero_add, r94, k6 (kF (by omega)), k7]
theorem e94 (a : ByteArray) : evF prog [] [(2, l94)] pol94 f95 [.s a] [] ql =
 Tr.br (decide ((a.size : Int) = (a.size : Int)) && decide ((0 : Int) = 0) && isNm a) (.br (decide (1 <= (a.size : Int))) (.ok (.ret (.b (decide ((a.size : Int) <= 12))) [])) (.ok (.ret (.bl false) []))) (.no 1) := by kernel_rfl
def s94 : Spec := fun args hs K => match args, hs with
 | [.s a], [] => .br (isNm a) (K (.bl true) []) (.no 1)
 | _, _ => .no 1
include hG in
theorem ok94 : qc prog G 95 s94 := by
 refine qp hG .nil mix enter94 (L := [(2, l94)]) (pol := pol94) fun args hs K x h => ?_
 unfold s94 at h
 split at h
 case h_2 => cases h
 rename_i a
 obtain ⟨hc, hr⟩ := k8 h
 refine ⟨lps1 (b := b94) (live := [0, 2, 5, 6]) (sp := l94) (m := 0) (by kernel_rfl) (by kernel_rfl) (by kernel_rfl) (loop94 hG), ?_⟩
 rw [e94, k5 (by rw [hc]; simp)]
 unfold isNm at hc
 simp only [kA, kD] at hc
 rw [k5 (kE (by omega))]
 exact ⟨_, _, _, rfl, rle_b (kE (by omega)), hr⟩
end
section
namespace Prof
def pr (s a : Rat) : Prop := ∃ p r : Nat, 1 <= p /\ p <= 12 /\ 1 <= r /\ r <= 8 /\ s = mkRat p 6 /\ a = mkRat r 8
def dist (x : Rat) : Prop := ∃ q : Nat, q < 40 /\ x = mkRat q 4
def Bd (x : Rat) (n d : Nat) : Prop := x.num.natAbs <= n /\ x.den <= d
theorem Bd.mk {x : Rat} {n d : Nat} (hd : d ≠ 0) (h : x = mkRat n d) : Bd x n d := by
 have := rat_small hd h
 exact ⟨by simpa using this.1, this.2⟩
theorem Bd.le {x : Rat} {n d n' d' : Nat} (h : Bd x n d) (h1 : n <= n') (h2 : d <= d') : Bd x n' d' := ⟨Nat.le_trans h.1 h1, Nat.le_trans h.2 h2⟩
theorem Bd.cross {x y : Rat} {n d n' d' N : Nat} (h : Bd x n d) (h' : Bd y n' d') (hN : n * d' < N) : x.num.natAbs * y.den < N := Nat.lt_of_le_of_lt (Nat.mul_le_mul h.1 h'.2) hN
theorem mk_pos {n d : Nat} (hn : 0 < n) (hd : 0 < d) : (0 : Rat) < mkRat n d := by
 rw [Rat.mkRat_eq_div, Rat.div_def]
 exact Rat.mul_pos (Rat.intCast_pos.2 (by omega)) (Rat.inv_pos.2 (Rat.natCast_pos.2 hd))
section
variable {s a : Rat} (h : pr s a)
include h
theorem pr.pos : 0 < s /\ 0 < a := by
 obtain ⟨p, r, h1, h2, h3, h4, rfl, rfl⟩ := h
 exact ⟨mk_pos (by omega) (by omega), mk_pos (by omega) (by omega)⟩
theorem pr.bs : Bd s 12 6 := by
 obtain ⟨p, r, h1, h2, h3, h4, rfl, rfl⟩ := h
 exact (Bd.mk (by omega) rfl).le (by omega) (Nat.le_refl _)
end
theorem dist.bx {x : Rat} (h : dist x) : Bd x 39 4 := by
 obtain ⟨q, h1, rfl⟩ := h
 exact (Bd.mk (by omega) rfl).le (by omega) (Nat.le_refl _)
section
variable {x s a : Rat} (hx : dist x) (h : pr s a) {n : Nat} (hn : n <= 50) (h1 : 1 <= n)
include hx h hn h1
end
def vals (x s a : Rat) (n : Nat) : List Rat := (List.range n).map fun j => val (x / cover s a n) s a n (j + 1)
end Prof
end
section
open Prof
theorem natAbs_mul_le {a b : Int} {n m : Nat} (h : a.natAbs <= n) (h' : b.natAbs <= m) : (a * b).natAbs <= n * m := by
 rw [Int.natAbs_mul]; exact Nat.mul_le_mul h h'
theorem Prof.Bd.mul {x y : Rat} {n d n' d' : Nat} (h : Bd x n d) (h' : Bd y n' d') : Bd (x * y) (n * n') (d * d') := by
 have hd : x.den * y.den ≠ 0 := Nat.mul_ne_zero x.den_nz y.den_nz
 have := rat_small hd (Rat.mul_def' x y)
 exact ⟨Nat.le_trans this.1 (natAbs_mul_le h.1 h'.1), Nat.le_trans this.2 (Nat.mul_le_mul h.2 h'.2)⟩
theorem Prof.Bd.sub {x y : Rat} {n d n' d' : Nat} (h : Bd x n d) (h' : Bd y n' d') : Bd (x - y) (n * d' + n' * d) (d * d') := by
 have hd : x.den * y.den ≠ 0 := Nat.mul_ne_zero x.den_nz y.den_nz
 have := rat_small hd (Rat.sub_def' x y)
 refine ⟨Nat.le_trans this.1 ?_, Nat.le_trans this.2 (Nat.mul_le_mul h.2 h'.2)⟩
 have h1 := natAbs_mul_le (a := x.num) (b := (y.den : Int)) h.1 (by simpa using h'.2)
 have h2 := natAbs_mul_le (a := y.num) (b := (x.den : Int)) h'.1 (by simpa using h.2)
 omega
theorem Prof.Bd.add {x y : Rat} {n d n' d' : Nat} (h : Bd x n d) (h' : Bd y n' d') : Bd (x + y) (n * d' + n' * d) (d * d') := by
 have hd : x.den * y.den ≠ 0 := Nat.mul_ne_zero x.den_nz y.den_nz
 have := rat_small hd (Rat.add_def' x y)
 refine ⟨Nat.le_trans this.1 ?_, Nat.le_trans this.2 (Nat.mul_le_mul h.2 h'.2)⟩
 have h1 := natAbs_mul_le (a := x.num) (b := (y.den : Int)) h.1 (by simpa using h'.2)
 have h2 := natAbs_mul_le (a := y.num) (b := (x.den : Int)) h'.1 (by simpa using h.2)
 omega
def tri (ax ay bx by_ cx cy : Rat) : Rat := (bx - ax) * (cy - ay) - (by_ - ay) * (cx - ax)
def cB (x : Rat) : Bool := decide (x.num.natAbs <= 1000) && decide (x.den <= 8)
theorem cB_iff {x : Rat} : cB x = true ↔ Bd x 1000 8 := by simp [cB, Bd]
end
section
open Go Tryz
set_option maxRecDepth 100000
variable {G : World -> (Nat -> Prop) -> Prop} (hG : GOk G)
theorem enter41 : Enters prog 141 f141 (qd f141) := ⟨func141, by kernel_rfl, rfl⟩
def s41 : Spec := evF prog [(54, s29)] [] {} f141
include hG in
theorem ok41 : qc prog G 141 s41 := spec_ev hG (.cons (ok29 hG) .nil) mix enter41 (fun _ => k9 (by kernel_rfl))
theorem enter97 : Enters prog 215 f215 (qd f215) := ⟨func215, by kernel_rfl, rfl⟩
def s97 : Spec := evF prog [(54, s29), (75, s43)] [] {} f215
include hG in
theorem ok97 : qc prog G 215 s97 := spec_ev hG (.cons (ok29 hG) (.cons (ok43 hG) .nil)) mix enter97 (fun _ => k9 (by kernel_rfl))
theorem enter146 : Enters prog 190 f190 (qd f190) := ⟨func190, by kernel_rfl, rfl⟩
def O146 : Orc := [(97, s26), (141, s41), (215, s97)]
theorem e146 (ax ay bx by_ cx cy : Rat) (w1 w2 w3 w4 w5 w6 : Nat) : evF prog O146 [] {} f190 [.agg [.q ax w1, .q ay w2], .agg [.q bx w3, .q by_ w4], .agg [.q cx w5, .q cy w6]] [] ql =
 Tr.br (s32 bx && s32 ax && decide (bx.num.natAbs * ax.den < 72057594037927936) && decide (ax.num.natAbs * bx.den < 72057594037927936)) (.br (s32 by_ && s32 ay && decide (by_.num.natAbs * ay.den < 72057594037927936) && decide (ay.num.natAbs * by_.den < 72057594037927936)) (.br (s32 cx && s32 ax && decide (cx.num.natAbs * ax.den < 72057594037927936) && decide (ax.num.natAbs * cx.den < 72057594037927936)) (.br (s32 cy && s32 ay && decide (cy.num.natAbs * ay.den < 72057594037927936) && decide (ay.num.natAbs * cy.den < 72057594037927936)) (.br (s32 (bx - ax) && s32 (cy - ay)) (.br (s32 (by_ - ay) && s32 (cx - ax)) (.br (s32 ((bx - ax) * (cy - ay)) && s32 ((by_ - ay) * (cx - ax)) && decide (((bx - ax) * (cy - ay)).num.natAbs * ((by_ - ay) * (cx - ax)).den < 72057594037927936) && decide (((by_ - ay) * (cx - ax)).num.natAbs * ((bx - ax) * (cy - ay)).den < 72057594037927936)) (.br (s64 ((bx - ax) * (cy - ay) - (by_ - ay) * (cx - ax))) (.ok (.ret (.i .i64 (rcmp ((bx - ax) * (cy - ay) - (by_ - ay) * (cx - ax)) (0 : Rat))) [])) (.no 1)) (.no 1)) (.no 1)) (.no 1)) (.no 1)) (.no 1)) (.no 1)) (.no 1) := by kernel_rfl
def s146 : Spec := fun args hs K => match args, hs with
 | [.agg [.q ax _, .q ay _], .agg [.q bx _, .q by_ _], .agg [.q cx _, .q cy _]], [] => .br (cB ax && cB ay && cB bx && cB by_ && cB cx && cB cy) (K (.i .i64 (rcmp (tri ax ay bx by_ cx cy) 0)) []) (.no 1)
 | _, _ => .no 1
theorem Bd32' {x : Rat} {n d : Nat} (h : Prof.Bd x n d) (h1 : n < 4294967296) (h2 : d < 4294967296) : s32 x = true := s32_iff.2 ⟨Nat.lt_of_le_of_lt h.1 h1, Nat.lt_of_le_of_lt h.2 h2⟩
theorem subOk {x y : Rat} {n d n' d' : Nat} (h : Prof.Bd x n d) (h' : Prof.Bd y n' d') (h1 : n < 4294967296) (h2 : d < 4294967296) (h3 : n' < 4294967296) (h4 : d' < 4294967296) (h5 : n * d' < 72057594037927936) (h6 : n' * d < 72057594037927936) :
  (s32 x && s32 y && decide (x.num.natAbs * y.den < 72057594037927936) && decide (y.num.natAbs * x.den < 72057594037927936)) = true := by
 rw [Bd32' h h1 h2, Bd32' h' h3 h4]
 simp only [Bool.true_and, kA, kD]
 exact ⟨h.cross h' h5, h'.cross h h6⟩
theorem Bd64 {x : Rat} {n d : Nat} (h : Prof.Bd x n d) (h1 : n < 18446744073709551616) (h2 : d < 18446744073709551616) : s64 x = true := by
 simp only [s64, kA, kD]
 exact ⟨Nat.lt_of_le_of_lt h.1 h1, Nat.lt_of_le_of_lt h.2 h2⟩
include hG in
theorem orc146 : OrcOK prog G O146 := .cons (ok26 hG) (.cons (ok41 hG) (.cons (ok97 hG) .nil))
include hG in
theorem ok146 : qc prog G 190 s146 := by
 refine qp hG (orc146 hG) mix enter146 (L := []) (pol := {}) fun args hs K x h => ?_
 unfold s146 at h
 split at h
 case h_2 => cases h
 rename_i ax w1 ay w2 bx w3 by_ w4 cx w5 cy w6
 obtain ⟨hc, hr⟩ := k8 h
 simp only [kA, cB_iff] at hc
 obtain ⟨⟨⟨⟨⟨h1, h2⟩, h3⟩, h4⟩, h5⟩, h6⟩ := hc
 refine ⟨k9 (by kernel_rfl), _, _, _, ?_, .refl _, hr⟩
 have d1 := h3.sub h1
 have d2 := h6.sub h2
 have d3 := h4.sub h2
 have d4 := h5.sub h1
 have m1 := d1.mul d2
 have m2 := d3.mul d4
 rw [e146, k5 (subOk h3 h1 (by omega) (by omega) (by omega) (by omega) (by omega) (by omega)), k5 (subOk h4 h2 (by omega) (by omega) (by omega) (by omega) (by omega) (by omega)),
  k5 (subOk h5 h1 (by omega) (by omega) (by omega) (by omega) (by omega) (by omega)), k5 (subOk h6 h2 (by omega) (by omega) (by omega) (by omega) (by omega) (by omega)),
  k5 (by rw [Bd32' d1 (by omega) (by omega), Bd32' d2 (by omega) (by omega)]; rfl), k5 (by rw [Bd32' d3 (by omega) (by omega), Bd32' d4 (by omega) (by omega)]; rfl),
  k5 (subOk m1 m2 (by omega) (by omega) (by omega) (by omega) (by omega) (by omega)), k5 (Bd64 (m1.sub m2) (by omega) (by omega)), k7]
 rfl
def pv (px py : Nat -> Rat) : Nat -> PV := fun i => .agg [.q (px i) 64, .q (py i) 64]
def b135 : Code := (qi (qd f151)).getD 0 .skip
def i135 : Code := (qi (qd f151)).getD 1 .skip
def pol135 : Pol := { live := [(7, [0, 4, 5, 18, 19, 20]), (10, [0, 4, 5, 6, 7, 8, 18, 19, 20])] }
theorem enter135 : Enters prog 151 f151 (qd f151) := ⟨func151, by kernel_rfl, rfl⟩
theorem q135 (n : Nat) (px py : Nat -> Rat) (e m i k : Int) (x y : Rat) : qh prog [(190, s146)] [] pol135 f151.ntmps 0 [0, 4, 5, 6, 7, 8, 18, 19, 20] i135 ⟨[.lst 6 (.fn n (pv px py)), .i .i64 e, .i .i64 m, .i .i64 i, .ptr 0 6 0 0 [], .i .i64 k, .lst 6 (.fn n (pv px py)), .i .i64 m, .i .i64 i], [some ⟨6, .vals [.agg [.q x 64, .q y 64]]⟩]⟩ =
 Tr.br (decide (k < m)) (.br (ib (i + 1)) (.br (!decide (m = 0)) (.br (ix ((i + 1).tmod m) ((n : Int))) (.br (ib (i + k)) (.br (!decide (m = 0)) (.br (ix ((i + k).tmod m) ((n : Int))) (.br (cB x && cB y && cB (px ((i + 1).tmod m).toNat) && cB (py ((i + 1).tmod m).toNat) && cB (px ((i + k).tmod m).toNat) && cB (py ((i + k).tmod m).toNat)) (.br (decide (rcmp (tri x y (px ((i + 1).tmod m).toNat) (py ((i + 1).tmod m).toNat) (px ((i + k).tmod m).toNat) (py ((i + k).tmod m).toNat)) (0 : Rat) <= 0)) (.ok (.out .ret (LS.mk [.lst 6 (.fn n fun (a : Nat) => .agg [.q (px a) 64, .q (py a) 64]), .i .i64 3, .i .i64 m, .i .i64 i, .ptr 0 6 0 0 [], .i .i64 k, .lst 6 (.fn n fun (a : Nat) => .agg [.q (px a) 64, .q (py a) 64]), .i .i64 m, .i .i64 i] [some (.mk 6 (.vals [.agg [.q x 64, .q y 64]]))]))) (.br (ib (k + 1)) (.ok (.out .normal (LS.mk [.lst 6 (.fn n fun (a : Nat) => .agg [.q (px a) 64, .q (py a) 64]), .i .i64 e, .i .i64 m, .i .i64 i, .ptr 0 6 0 0 [], .i .i64 (k + 1), .lst 6 (.fn n fun (a : Nat) => .agg [.q (px a) 64, .q (py a) 64]), .i .i64 m, .i .i64 i] [some (.mk 6 (.vals [.agg [.q x 64, .q y 64]]))]))) (.no 12002))) (.no 1)) (.no 13004)) (.no 13005)) (.no 13007)) (.no 13012)) (.no 13013)) (.no 13015)) (.ok (.out (.exit 3) (LS.mk [.lst 6 (.fn n fun (a : Nat) => .agg [.q (px a) 64, .q (py a) 64]), .i .i64 e, .i .i64 m, .i .i64 i, .ptr 0 6 0 0 [], .i .i64 k, .lst 6 (.fn n fun (a : Nat) => .agg [.q (px a) 64, .q (py a) 64]), .i .i64 m, .i .i64 i] [some (.mk 6 (.vals [.agg [.q x 64, .q y 64]]))]))) := by kernel_rfl
def polyB (n : Nat) (px py : Nat -> Rat) : Bool := decide (3 <= n) && decide (n <= 8) && (List.range n).all (fun i => cB (px i) && cB (py i)) &&
 (List.range n).all (fun i => (List.range n).all fun k => decide (k < 2) || decide (0 < tri (px i) (py i) (px ((i + 1) % n)) (py ((i + 1) % n)) (px ((i + k) % n)) (py ((i + k) % n))))
theorem polyB_c {n : Nat} {px py : Nat -> Rat} (h : polyB n px py = true) : 3 <= n /\ n <= 8 /\ (∀ i, i < n -> cB (px i) = true /\ cB (py i) = true) /\
  ∀ i k, i < n -> 2 <= k -> k < n -> 0 < tri (px i) (py i) (px ((i + 1) % n)) (py ((i + 1) % n)) (px ((i + k) % n)) (py ((i + k) % n)) := by
 simp only [polyB, kA, kD, List.all_eq_true, List.mem_range, Bool.or_eq_true] at h
 obtain ⟨⟨⟨h1, h2⟩, h3⟩, h4⟩ := h
 exact ⟨h1, h2, h3, fun i k hi hk hkn => (h4 i hi k hkn).resolve_left (by omega)⟩
def sti135 (n i : Nat) (px py : Nat -> Rat) (k : Int) : LS := ⟨[.lst 6 (.fn n (pv px py)), .i .i64 0, .i .i64 n, .i .i64 i, .ptr 0 6 0 0 [], .i .i64 k, .lst 6 (.fn n (pv px py)), .i .i64 n, .i .i64 i], [some ⟨6, .vals [.agg [.q (px i) 64, .q (py i) 64]]⟩]⟩
def Pi135 (ls : LS) : Prop := ∃ n i px py, ls = sti135 n i px py 2 /\ i < n /\ polyB n px py = true
def li135 : qy := fun ls K => .br (qg (Pi135 ls)) (K (.exit 3) ⟨ls.t.set 5 (ls.t.getD 2 .any), ls.h⟩) (.no 1)
include hG in
theorem orc135 : OrcOK prog G [(190, s146)] := .cons (ok146 hG) .nil
include hG in
theorem loopi135 : qw prog G f151.ntmps 0 [0, 4, 5, 6, 7, 8, 18, 19, 20] i135 li135 := by
 intro ls K y hm h
 obtain ⟨hc, hr⟩ := k8 h
 obtain ⟨n, i, px, py, rfl, hi, hp⟩ := decP_iff.1 hc
 obtain ⟨p1, p2, p3, p4⟩ := polyB_c hp
 refine ⟨_, _, qu (Goes.count (R := Rnd prog G f151.ntmps 0 [0, 4, 5, 6, 7, 8, 18, 19, 20] i135) (fun k => sti135 n i px py ((k : Nat) : Int)) (e := .exit 3) (ls' := sti135 n i px py n) (by simp) (n - 2) 2 (fun k hk2 hk => ?_) ?_), hr⟩
 ·refine qb hG (orc135 hG) mix (L := []) (pol := pol135) (O := [(190, s146)]) (k9 (by kernel_rfl)) (Nat.zero_le _) ?_
  have e1 : (((i : Nat) : Int) + 1).tmod n = (((i + 1) % n : Nat) : Int) := tmod_nat (i + 1) n
  have e2 : (((i : Nat) : Int) + ((k : Nat) : Int)).tmod n = (((i + k) % n : Nat) : Int) := tmod_nat (i + k) n
  have m1 := Nat.mod_lt (i + 1) (show 0 < n by omega)
  have m2 := Nat.mod_lt (i + k) (show 0 < n by omega)
  unfold sti135
  rw [q135, e1, e2, Int.toNat_natCast, Int.toNat_natCast]
  have c1 := p3 i hi
  have c2 := p3 _ m1
  have c3 := p3 _ m2
  have c4 := p4 i k hi hk2 (by omega)
  generalize (i + 1) % n = u at *
  generalize (i + k) % n = v at *
  rw [k5 (kE (by omega)), k5 (by simp only [kA, kD]; omega), k5 (by rw [kJ, kK]; omega), k5 (by simp only [kA, kD]; omega), k5 (by simp only [kA, kD]; omega), k5 (by rw [kJ, kK]; omega),
   k5 (by simp only [kA, kD]; omega), k5 (by rw [c1.1, c1.2, c2.1, c2.2, c3.1, c3.2]; rfl), k6 (kF (by rw [rcmp_le]; exact Rat.not_le.2 c4)), k5 (by simp only [kA, kD]; omega), k7]
  rfl
 ·refine qb hG (orc135 hG) mix (L := []) (pol := pol135) (O := [(190, s146)]) (k9 (by kernel_rfl)) (Nat.zero_le _) ?_
  unfold sti135
  rw [q135, k6 (kF (by omega)), k7, show ((2 + (n - 2) : Nat) : Int) = (n : Int) by omega]
  rfl
theorem r135 (n : Nat) (px py : Nat -> Rat) (m i : Int) : qh prog [(190, s146)] [(10, li135)] pol135 f151.ntmps 0 [0, 4, 5, 18, 19, 20] b135 ⟨[.lst 6 (.fn n (pv px py)), .i .i64 0, .i .i64 m, .lst 6 (.fn n (pv px py)), .i .i64 m, .i .i64 i], []⟩ =
 Tr.br (decide (i < m)) (.br (ix (i) ((n : Int))) (.br (qg (Pi135 (LS.mk [.lst 6 (.fn n fun (a : Nat) => .agg [.q (px a) 64, .q (py a) 64]), .i .i64 0, .i .i64 m, .i .i64 i, .ptr 0 6 0 0 [], .i .i64 2, .lst 6 (.fn n fun (a : Nat) => .agg [.q (px a) 64, .q (py a) 64]), .i .i64 m, .i .i64 i] [some (.mk 6 (.vals [.agg [.q (px i.toNat) 64, .q (py i.toNat) 64]]))]))) (.br (ib (i + 1)) (.ok (.out .normal (LS.mk [.lst 6 (.fn n fun (a : Nat) => .agg [.q (px a) 64, .q (py a) 64]), .i .i64 0, .i .i64 m, .lst 6 (.fn n fun (a : Nat) => .agg [.q (px a) 64, .q (py a) 64]), .i .i64 m, .i .i64 (i + 1)] []))) (.no 15002)) (.no 1)) (.no 9005)) (.ok (.out (.exit 1) (LS.mk [.lst 6 (.fn n fun (a : Nat) => .agg [.q (px a) 64, .q (py a) 64]), .i .i64 0, .i .i64 m, .lst 6 (.fn n fun (a : Nat) => .agg [.q (px a) 64, .q (py a) 64]), .i .i64 m, .i .i64 i] []))) := by kernel_rfl
def sto135 (n : Nat) (px py : Nat -> Rat) (i : Int) : LS := ⟨[.lst 6 (.fn n (pv px py)), .i .i64 0, .i .i64 n, .lst 6 (.fn n (pv px py)), .i .i64 n, .i .i64 i], []⟩
def Po135 (ls : LS) : Prop := ∃ n px py, ls = sto135 n px py 0 /\ polyB n px py = true
def lo135 : qy := fun ls K => .br (qg (Po135 ls)) (K (.exit 1) ⟨ls.t.set 5 (ls.t.getD 2 .any), ls.h⟩) (.no 1)
include hG in
theorem lps135 {m : Nat} (hm : m = 0) : LpsOK prog G pol135 f151.ntmps m [(10, li135)] b135 := by
 subst hm
 exact lps1 (b := i135) (live := [0, 4, 5, 6, 7, 8, 18, 19, 20]) (sp := li135) (by kernel_rfl) (by kernel_rfl) (by kernel_rfl) (loopi135 hG)
include hG in
theorem loopo135 : qw prog G f151.ntmps 0 [0, 4, 5, 18, 19, 20] b135 lo135 := by
 intro ls K y hm h
 obtain ⟨hc, hr⟩ := k8 h
 obtain ⟨n, px, py, rfl, hp⟩ := decP_iff.1 hc
 obtain ⟨p1, p2, p3, p4⟩ := polyB_c hp
 refine ⟨_, _, qu (Goes.count (R := Rnd prog G f151.ntmps 0 [0, 4, 5, 18, 19, 20] b135) (fun i => sto135 n px py ((i : Nat) : Int)) (e := .exit 1) (ls' := sto135 n px py n) (by simp) n 0 (fun i _ hi => ?_) ?_), hr⟩
 ·refine qb hG (orc135 hG) mix (L := [(10, li135)]) (pol := pol135) (O := [(190, s146)]) (lps135 hG rfl) (Nat.zero_le _) ?_
  unfold sto135
  rw [r135, Int.toNat_natCast, k5 (kE (by omega)), k5 (by simp only [kA, kD]; omega), k5 (decP_iff.2 ⟨n, i, px, py, rfl, by omega, hp⟩), k5 (by simp only [kA, kD]; omega), k7]
  rfl
 ·refine qb hG (orc135 hG) mix (L := [(10, li135)]) (pol := pol135) (O := [(190, s146)]) (lps135 hG rfl) (Nat.zero_le _) ?_
  unfold sto135
  rw [r135, k6 (kF (by omega)), k7, Nat.zero_add]
  rfl
theorem e135 (n : Nat) (px py : Nat -> Rat) : evF prog [(190, s146)] [(7, lo135), (10, li135)] pol135 f151 [.lst 6 (.fn n (pv px py)), .i .i64 8] [] ql =
 Tr.br (decide (8 < (n : Int))) (.ok (.ret (.i .i64 2) [])) (.br (decide ((n : Int) < 3)) (.ok (.ret (.i .i64 3) [])) (.br (qg (Po135 (LS.mk [.lst 6 (.fn n fun (a : Nat) => .agg [.q (px a) 64, .q (py a) 64]), .i .i64 0, .i .i64 (n : Int), .lst 6 (.fn n fun (a : Nat) => .agg [.q (px a) 64, .q (py a) 64]), .i .i64 (n : Int), .i .i64 0] []))) (.ok (.ret (.i .i64 0) [])) (.no 1))) := by kernel_rfl
def P135 (args : List PV) : Prop := ∃ v n px py, args = [v, .i .i64 8] /\ VLe v (.lst 6 (.fn n (pv px py))) /\ polyB n px py = true
def s135 : Spec := fun args hs K => match hs with
 | [] => .br (qg (P135 args)) (K (.i .i64 0) []) (.no 1)
 | _ => .no 1
theorem loops135 : qi (qd f151) = [b135, i135] := by kernel_rfl
include hG in
theorem ok135 : qc prog G 151 s135 := by
 intro args hs K x h
 unfold s135 at h
 split at h
 case h_2 => cases h
 obtain ⟨hc, hr⟩ := k8 h
 obtain ⟨v, n, px, py, rfl, hv, hp⟩ := decP_iff.1 hc
 obtain ⟨p1, p2, p3, p4⟩ := polyB_c hp
 refine ⟨_, _, PC.args (.cons hv (.refl _)) (qj hG (orc135 hG) mix enter135 (hs := []) (L := [(7, lo135), (10, li135)]) (pol := pol135) (O := [(190, s146)]) (LpsOK.of loops135 fun a ha live sp h1 h2 => ?_) ?_), hr⟩
 ·simp only [List.mem_cons, List.not_mem_nil, or_false] at ha
  rcases ha with rfl | rfl
  ·have e1 : assoc (qq b135) pol135.live = some [0, 4, 5, 18, 19, 20] := by kernel_rfl
   have e2 : Lps.look (qq b135) [(7, lo135), (10, li135)] = some lo135 := by kernel_rfl
   rw [e1] at h1; rw [e2] at h2; cases h1; cases h2
   exact loopo135 hG
  ·have e1 : assoc (qq i135) pol135.live = some [0, 4, 5, 6, 7, 8, 18, 19, 20] := by kernel_rfl
   have e2 : Lps.look (qq i135) [(7, lo135), (10, li135)] = some li135 := by kernel_rfl
   rw [e1] at h1; rw [e2] at h2; cases h1; cases h2
   exact loopi135 hG
 ·rw [e135, k6 (kF (by omega)), k6 (kF (by omega)), k5 (decP_iff.2 ⟨n, px, py, rfl, hp⟩), k7]
theorem enter126 : Enters prog 117 f117 (qd f117) := ⟨func117, by kernel_rfl, rfl⟩
def s126 : Spec := evF prog [(151, s135)] [] {} f117
include hG in
theorem ok126 : qc prog G 117 s126 := spec_ev hG (.cons (ok135 hG) .nil) mix enter126 (fun _ => k9 (by kernel_rfl))
structure Lk where
 len : Rat
 low : Rat
 high : Rat
 spd : Rat
 brk : Rat
 np : Nat
 px : Nat -> Rat
 py : Nat -> Rat
def lkPV (d : Lk) : PV := .agg [.q d.len 64, .q d.low 64, .q d.high 64, .q d.spd 64, .q d.brk 64, .lst 6 (.fn d.np (pv d.px d.py))]
def lkB (d : Lk) : Bool := smQ d.len && smQ d.low && smQ d.high && smQ d.spd && smQ d.brk && decide (0 < d.len) && decide (d.low < d.high) && decide (0 < d.spd) && decide (0 < d.brk) && polyB d.np d.px d.py
def b96 : Code := (qi (qd f98)).getD 0 .skip
def pol96 : Pol := { live := [(9, [2, 50, 51, 52])] }
def O96 : Orc := [(97, s26), (23, s27), (96, s95), (117, s126)]
theorem enter96 : Enters prog 98 f98 (qd f98) := ⟨func98, by kernel_rfl, rfl⟩
def st96 (n : Nat) (px py : Nat -> Rat) (i : Int) : LS := ⟨[.i .i64 0, .lst 6 (.fn n (pv px py)), .i .i64 n, .i .i64 i], []⟩
theorem r96 (n : Nat) (px py : Nat -> Rat) (i : Int) : qh prog O96 [] pol96 f98.ntmps 0 [2, 50, 51, 52] b96 (st96 n px py i) =
 Tr.br (decide (i < (n : Int))) (.br (ix (i) ((n : Int))) (.br (decide ([px i.toNat, py i.toNat].length <= 1073741824) && [px i.toNat, py i.toNat].all smQ) (.br (ib (i + 1)) (.ok (.out .normal (LS.mk [.i .i64 0, .lst 6 (.fn n fun (a : Nat) => .agg [.q (px a) 64, .q (py a) 64]), .i .i64 (n : Int), .i .i64 (i + 1)] []))) (.no 14002)) (.no 1)) (.no 11004)) (.ok (.out (.exit 0) (LS.mk [.i .i64 0, .lst 6 (.fn n fun (a : Nat) => .agg [.q (px a) 64, .q (py a) 64]), .i .i64 (n : Int), .i .i64 i] []))) := by kernel_rfl
def Pl96 (ls : LS) : Prop := ∃ n px py, ls = st96 n px py 0 /\ polyB n px py = true
def l96 : qy := fun ls K => .br (qg (Pl96 ls)) (K (.exit 0) ⟨ls.t.set 3 (ls.t.getD 2 .any), ls.h⟩) (.no 1)
theorem e96 (d : Lk) : evF prog O96 [(9, l96)] pol96 f98 [lkPV d] [] ql =
 Tr.br (decide ([d.len, d.low, d.high, d.spd, d.brk].length <= 1073741824) && [d.len, d.low, d.high, d.spd, d.brk].all smQ) (.br (s64 d.len) (.br (decide (rcmp d.len (0 : Rat) <= 0)) (.ok (.ret (.i .i64 1) [])) (.br (s32 d.low && s32 d.high) (.br (decide (0 <= rcmp d.low d.high)) (.ok (.ret (.i .i64 1) [])) (.br (s64 d.spd) (.br (decide (rcmp d.spd (0 : Rat) <= 0)) (.ok (.ret (.i .i64 1) [])) (.br (s64 d.brk) (.br (decide (rcmp d.brk (0 : Rat) <= 0)) (.ok (.ret (.i .i64 1) [])) (.br (qg (P135 [.lst 6 (.fn d.np fun (a : Nat) => .agg [.q (d.px a) 64, .q (d.py a) 64]), .i .i64 8])) (.br (!decide ((0 : Int) = 0)) (.ok (.ret (.i .i64 0) [])) (.br (qg (Pl96 (LS.mk [.i .i64 0, .lst 6 (.fn d.np fun (a : Nat) => .agg [.q (d.px a) 64, .q (d.py a) 64]), .i .i64 (d.np : Int), .i .i64 0] []))) (.ok (.ret (.i .i64 0) [])) (.no 1))) (.no 1))) (.no 1))) (.no 1))) (.no 1))) (.no 1)) (.no 1) := by kernel_rfl
def P96 (args : List PV) : Prop := ∃ v d, args = [v] /\ VLe v (lkPV d) /\ lkB d = true
def s96 : Spec := fun args hs K => match hs with
 | [] => .br (qg (P96 args)) (K (.i .i64 0) []) (.no 1)
 | _ => .no 1
theorem cB_smQ {x : Rat} (h : cB x = true) : smQ x = true := by
 simp only [cB, kA, kD] at h
 exact smQ_iff.2 ⟨by omega, by omega⟩
theorem smQ_s32 {x : Rat} (h : smQ x = true) : s32 x = true := by
 have := smQ_iff.1 h
 exact s32_iff.2 ⟨by omega, by omega⟩
theorem lkB_c {d : Lk} (h : lkB d = true) : smQ d.len = true /\ smQ d.low = true /\ smQ d.high = true /\ smQ d.spd = true /\ smQ d.brk = true /\ 0 < d.len /\ d.low < d.high /\ 0 < d.spd /\ 0 < d.brk /\ polyB d.np d.px d.py = true := by
 simp only [lkB, kA, kD] at h
 obtain ⟨⟨⟨⟨⟨⟨⟨⟨⟨h1, h2⟩, h3⟩, h4⟩, h5⟩, h6⟩, h7⟩, h8⟩, h9⟩, h10⟩ := h
 exact ⟨h1, h2, h3, h4, h5, h6, h7, h8, h9, h10⟩
include hG in
theorem orc96 : OrcOK prog G O96 := .cons (ok26 hG) (.cons (ok27 hG) (.cons (ok95 hG) (.cons (ok126 hG) .nil)))
include hG in
theorem loop96 : qw prog G f98.ntmps 0 [2, 50, 51, 52] b96 l96 := by
 intro ls K y hm h
 obtain ⟨hc, hr⟩ := k8 h
 obtain ⟨n, px, py, rfl, hp⟩ := decP_iff.1 hc
 obtain ⟨p1, p2, p3, p4⟩ := polyB_c hp
 refine ⟨_, _, qu (Goes.count (R := Rnd prog G f98.ntmps 0 [2, 50, 51, 52] b96) (fun i => st96 n px py ((i : Nat) : Int)) (e := .exit 0) (ls' := st96 n px py n) (by simp) n 0 (fun i _ hi => ?_) ?_), hr⟩
 ·refine qb hG (orc96 hG) mix (L := []) (pol := pol96) (O := O96) (k9 (by kernel_rfl)) (Nat.zero_le _) ?_
  have c := p3 i (by omega)
  rw [r96, Int.toNat_natCast, k5 (kE (by omega)), k5 (by simp only [kA, kD]; omega), k5 (by
   simp only [List.all_cons, List.all_nil, cB_smQ c.1, cB_smQ c.2, kH, kI]; rfl), k5 (by simp only [kA, kD]; omega), k7]
  rfl
 ·refine qb hG (orc96 hG) mix (L := []) (pol := pol96) (O := O96) (k9 (by kernel_rfl)) (Nat.zero_le _) ?_
  rw [r96, k6 (kF (by omega)), k7, Nat.zero_add]
  rfl
include hG in
theorem ok96 : qc prog G 98 s96 := by
 intro args hs K x h
 unfold s96 at h
 split at h
 case h_2 => cases h
 obtain ⟨hc, hr⟩ := k8 h
 obtain ⟨v, d, rfl, hv, hd⟩ := decP_iff.1 hc
 obtain ⟨h1, h2, h3, h4, h5, h6, h7, h8, h9, h10⟩ := lkB_c hd
 refine ⟨_, _, PC.args (.cons hv (.refl _)) (qj hG (orc96 hG) mix enter96 (hs := []) (L := [(9, l96)]) (pol := pol96) (O := O96) (lps1 (b := b96) (live := [2, 50, 51, 52]) (sp := l96) (m := 0) (by kernel_rfl) (by kernel_rfl) (by kernel_rfl) (loop96 hG)) ?_), hr⟩
 rw [e96, k5 (by simp only [List.all_cons, List.all_nil, h1, h2, h3, h4, h5, kH, kI]; rfl),
  k5 (s32_s64 (smQ_s32 h1)), k6 (kF (by rw [rcmp_le]; exact Rat.not_le.2 h6)), k5 (by rw [smQ_s32 h2, smQ_s32 h3]; rfl), k6 (kF (by rw [rcmp_ge]; exact Rat.not_le.2 h7)),
  k5 (s32_s64 (smQ_s32 h4)), k6 (kF (by rw [rcmp_le]; exact Rat.not_le.2 h8)), k5 (s32_s64 (smQ_s32 h5)), k6 (kF (by rw [rcmp_le]; exact Rat.not_le.2 h9)),
  k5 (decP_iff.2 ⟨_, d.np, d.px, d.py, rfl, .refl _, h10⟩), k6 (by decide), k5 (decP_iff.2 ⟨d.np, d.px, d.py, rfl, h10⟩), k7]

structure Am where
 name : ByteArray
 bx : Rat
 by_ : Rat
 t : Rat
 n : Nat
 lk : Nat -> Lk
def qA (A : Am) : PV := .agg [.s A.name, .agg [.agg [.q A.bx 64, .q A.by_ 64], .agg [.bl false, .q A.t 64]], .lst 16 (.fn A.n (fun j => lkPV (A.lk j)))]
def armB (A : Am) : Bool := isNm A.name && smQ A.bx && smQ A.by_ && smQ A.t && decide (1 <= A.n) && decide (A.n <= 3) && (List.range A.n).all (fun j => lkB (A.lk j))
theorem armB_c {A : Am} (h : armB A = true) : isNm A.name = true /\ smQ A.bx = true /\ smQ A.by_ = true /\ smQ A.t = true /\ 1 <= A.n /\ A.n <= 3 /\ ∀ j, j < A.n -> lkB (A.lk j) = true := by
 simp only [armB, kA, kD, List.all_eq_true, List.mem_range] at h
 obtain ⟨⟨⟨⟨⟨⟨h1, h2⟩, h3⟩, h4⟩, h5⟩, h6⟩, h7⟩ := h
 exact ⟨h1, h2, h3, h4, h5, h6, h7⟩
def b52 : Code := (qi (qd f49)).getD 0 .skip
def pol52 : Pol := { live := [(9, [2, 48, 49, 50])] }
def O52 : Orc := [(97, s26), (95, s94), (96, s95), (98, s96)]
theorem enter52 : Enters prog 49 f49 (qd f49) := ⟨func49, by kernel_rfl, rfl⟩
def st52 (n : Nat) (lk : Nat -> Lk) (i : Int) : LS := ⟨[.i .i64 0, .lst 16 (.fn n (fun j => lkPV (lk j))), .i .i64 n, .i .i64 i], []⟩
theorem r52 (n : Nat) (lk : Nat -> Lk) (i : Int) : qh prog O52 [] pol52 f49.ntmps 0 [2, 48, 49, 50] b52 (st52 n lk i) =
 Tr.br (decide (i < (n : Int))) (.br (ix (i) ((n : Int))) (.br (qg (P96 [lkPV (lk i.toNat)])) (.br (!decide ((0 : Int) = 0)) (.ok (.out .ret (LS.mk [.i .i64 0, .lst 16 (.fn n fun (j : Nat) => lkPV (lk j)), .i .i64 (n : Int), .i .i64 i] []))) (.br (ib (i + 1)) (.ok (.out .normal (LS.mk [.i .i64 0, .lst 16 (.fn n fun (j : Nat) => lkPV (lk j)), .i .i64 (n : Int), .i .i64 (i + 1)] []))) (.no 15002))) (.no 1)) (.no 11004)) (.ok (.out (.exit 0) (LS.mk [.i .i64 0, .lst 16 (.fn n fun (j : Nat) => lkPV (lk j)), .i .i64 (n : Int), .i .i64 i] []))) := by kernel_rfl
def Pl52 (ls : LS) : Prop := ∃ n lk, ls = st52 n lk 0 /\ n <= 3 /\ ∀ j, j < n -> lkB (lk j) = true
def l52 : qy := fun ls K => .br (qg (Pl52 ls)) (K (.exit 0) ⟨ls.t.set 3 (ls.t.getD 2 .any), ls.h⟩) (.no 1)
theorem e52 (A : Am) : evF prog O52 [(9, l52)] pol52 f49 [qA A] [] ql =
 Tr.br (isNm A.name) (.br (decide (3 < (A.n : Int))) (.ok (.ret (.i .i64 2) [])) (.br (decide ((A.n : Int) = 0)) (.ok (.ret (.i .i64 1) [])) (.br (decide ([A.bx, A.by_, A.t].length <= 1073741824) && [A.bx, A.by_, A.t].all smQ) (.br (qg (Pl52 (LS.mk [.i .i64 0, .lst 16 (.fn A.n fun (j : Nat) => lkPV (A.lk j)), .i .i64 (A.n : Int), .i .i64 0] []))) (.ok (.ret (.i .i64 0) [])) (.no 1)) (.no 1)))) (.no 1) := by kernel_rfl
def P52 (args : List PV) : Prop := ∃ v A, args = [v] /\ VLe v (qA A) /\ armB A = true
def s52 : Spec := fun args hs K => match hs with
 | [] => .br (qg (P52 args)) (K (.i .i64 0) []) (.no 1)
 | _ => .no 1
include hG in
theorem orc52 : OrcOK prog G O52 := .cons (ok26 hG) (.cons (ok94 hG) (.cons (ok95 hG) (.cons (ok96 hG) .nil)))
include hG in
theorem loop52 : qw prog G f49.ntmps 0 [2, 48, 49, 50] b52 l52 := by
 intro ls K y hm h
 obtain ⟨hc, hr⟩ := k8 h
 obtain ⟨n, lk, rfl, hn, hp⟩ := decP_iff.1 hc
 refine ⟨_, _, qu (Goes.count (R := Rnd prog G f49.ntmps 0 [2, 48, 49, 50] b52) (fun i => st52 n lk ((i : Nat) : Int)) (e := .exit 0) (ls' := st52 n lk n) (by simp) n 0 (fun i _ hi => ?_) ?_), hr⟩
 ·refine qb hG (orc52 hG) mix (L := []) (pol := pol52) (O := O52) (k9 (by kernel_rfl)) (Nat.zero_le _) ?_
  rw [r52, Int.toNat_natCast, k5 (kE (by omega)), k5 (by simp only [kA, kD]; omega), k5 (decP_iff.2 ⟨_, lk i, rfl, .refl _, hp i (by omega)⟩), k6 (by decide), k5 (by simp only [kA, kD]; omega), k7]
  rfl
 ·refine qb hG (orc52 hG) mix (L := []) (pol := pol52) (O := O52) (k9 (by kernel_rfl)) (Nat.zero_le _) ?_
  rw [r52, k6 (kF (by omega)), k7, Nat.zero_add]
  rfl
include hG in
theorem ok52 : qc prog G 49 s52 := by
 intro args hs K x h
 unfold s52 at h
 split at h
 case h_2 => cases h
 obtain ⟨hc, hr⟩ := k8 h
 obtain ⟨v, A, rfl, hv, hA⟩ := decP_iff.1 hc
 obtain ⟨h1, h2, h3, h4, h5, h6, h7⟩ := armB_c hA
 refine ⟨_, _, PC.args (.cons hv (.refl _)) (qj hG (orc52 hG) mix enter52 (hs := []) (L := [(9, l52)]) (pol := pol52) (O := O52) (lps1 (b := b52) (live := [2, 48, 49, 50]) (sp := l52) (m := 0) (by kernel_rfl) (by kernel_rfl) (by kernel_rfl) (loop52 hG)) ?_), hr⟩
 rw [e52, k5 h1, k6 (kF (by omega)), k6 (kF (by omega)), k5 (by simp only [List.all_cons, List.all_nil, h2, h3, h4, kH, kI]; rfl)]
 first
  | rw [k5 (decP_iff.2 ⟨A.n, A.lk, rfl, h6, h7⟩), k7]
  | rw [k6 (by decide), k5 (decP_iff.2 ⟨A.n, A.lk, rfl, h6, h7⟩), k7]
theorem enter85 : Enters prog 57 f57 (qd f57) := ⟨func57, by kernel_rfl, rfl⟩
theorem e85 (A : Am) (k : Int) : evF prog [(49, s52)] [] {} f57 [qA A, .i .i64 k] [] ql =
 Tr.br (qg (P52 [qA A])) (.br (!decide ((0 : Int) = 0)) (.ok (.ret (.i .i64 0) [])) (.br (!decide (k = (A.n : Int))) (.ok (.ret (.i .i64 1) [])) (.ok (.ret (.i .i64 0) [])))) (.no 1) := by kernel_rfl
def P85 (args : List PV) : Prop := ∃ v A, args = [v, .i .i64 ((A.n : Nat) : Int)] /\ VLe v (qA A) /\ armB A = true
def s85 : Spec := fun args hs K => match hs with
 | [] => .br (qg (P85 args)) (K (.i .i64 0) []) (.no 1)
 | _ => .no 1
include hG in
theorem ok85 : qc prog G 57 s85 := by
 intro args hs K x h
 unfold s85 at h
 split at h
 case h_2 => cases h
 obtain ⟨hc, hr⟩ := k8 h
 obtain ⟨v, A, rfl, hv, hA⟩ := decP_iff.1 hc
 refine ⟨_, _, PC.args (.cons hv (.refl _)) (qj hG (.cons (ok52 hG) .nil) mix enter85 (hs := []) (L := []) (pol := {}) (k9 (by kernel_rfl)) ?_), hr⟩
 rw [e85, k5 (decP_iff.2 ⟨_, A, rfl, .refl _, hA⟩), k6 (by decide), k6 (by simp), k7]
end
section
open Go
set_option maxRecDepth 100000
variable {G : World -> (Nat -> Prop) -> Prop} (hG : GOk G)
def fldV (v : PV) (k : Nat) : PV := match v with
 | .agg vs => vs.getD k .any
 | _ => .any
def dq (v : PV) : Rat := match v with
 | .q x _ => x
 | _ => 0
def ds (v : PV) : ByteArray := match v with
 | .s x => x
 | _ => ⟨#[]⟩
def dn (v : PV) : Nat := match v with
 | .lst _ c => c.len
 | _ => 0
def dg' (v : PV) (i : Nat) : PV := match v with
 | .lst _ c => c.get i
 | _ => .any
def dLk (v : PV) : Lk := ⟨dq (fldV v 0), dq (fldV v 1), dq (fldV v 2), dq (fldV v 3), dq (fldV v 4), dn (fldV v 5), fun i => dq (fldV (dg' (fldV v 5) i) 0), fun i => dq (fldV (dg' (fldV v 5) i) 1)⟩
def dArm (v : PV) : Am := ⟨ds (fldV v 0), dq (fldV (fldV (fldV v 1) 0) 0), dq (fldV (fldV (fldV v 1) 0) 1), dq (fldV (fldV (fldV v 1) 1) 1), dn (fldV v 2), fun j => dLk (dg' (fldV v 2) j)⟩
def okA (v : PV) : Prop := VLe v (qA (dArm v)) /\ armB (dArm v) = true
theorem okA_arm {A : Am} (h : armB A = true) : okA (qA A) := ⟨.refl _, h⟩
end
section
open Go Tryz
set_option maxRecDepth 100000
variable {G : World -> (Nat -> Prop) -> Prop} (hG : GOk G)
theorem enter45 : Enters prog 14 f14 (qd f14) := ⟨func14, by kernel_rfl, rfl⟩
theorem e45 (l : List Int) (n : Int) : evF prog [(28, s24)] [] {} f14 [.ptr 0 1 0 0 [], .i .i64 n] [⟨1, .vals [.agg [.lst 1 (.ints .i64 l)]]⟩] ql =
 Tr.br (decide ((l.length : Int) = 0)) (.ok (.ret (PV.i .i64 0) [{ e := 1, c := Cont.vals [PV.agg [PV.lst 1 (.ints .i64 l)]] }])) (.br (decide (n < 1)) (.ok (.ret (PV.i .i64 0) [{ e := 1, c := Cont.vals [PV.agg [PV.lst 1 (.ints .i64 l)]] }])) (.br (ix ((0 : Int)) ((l.length : Int))) (.br (decide ((0 : Int) <= 1) && decide (1 <= (l.length : Int))) (.br (decide (0 < n) && decide (n <= 4294967296)) (.ok (.ret (PV.i .i64 (l.getD (Int.toNat 0) (0 : Int) % n)) [{ e := 1, c := Cont.vals [PV.agg [PV.lst 1 (.ints .i64 (List.take ((Cont.ints .i64 l).len - Int.toNat 1) (List.drop (Int.toNat 1) l)))]] }])) (.no 1)) (.no 5004)) (.no 4003))) := by kernel_rfl
theorem e45n (n : Int) : evF prog [(28, s24)] [] {} f14 [.ptr 0 1 0 0 [], .i .i64 n] [⟨1, .vals [.agg [.nil]]⟩] ql =
 Tr.br (decide ((0 : Int) = 0)) (.ok (.ret (PV.i .i64 0) [{ e := 1, c := Cont.vals [PV.agg [PV.nil]] }])) (.br (decide (n < 1)) (.ok (.ret (PV.i .i64 0) [{ e := 1, c := Cont.vals [PV.agg [PV.nil]] }])) (.no 4003)) := by kernel_rfl
def nx (v : PV) (n : Int) : Int := (intsW v).headD 0 % n
def rs (v : PV) : PV := match v with
 | .lst 1 (.ints .i64 xs) => .lst 1 (.ints .i64 xs.tail)
 | v => v
theorem okW_rs {v : PV} (h : okW v = true) : okW (rs v) = true := by
 rcases okW_cases h with rfl | ⟨xs, rfl⟩ <;> rfl
theorem qv (v : PV) {n : Int} (h : 0 < n) : 0 <= nx v n /\ nx v n < n := ⟨Int.emod_nonneg _ (by omega), Int.emod_lt_of_pos _ h⟩
def s45 : Spec := fun args hs K => match args, hs with
 | [.ptr 0 1 0 0 [], .i .i64 n], [⟨1, .vals [.agg [.w v]]⟩] => .br (okW v && decide (0 < n) && decide (n <= 4294967296)) (K (.i .i64 (nx v n)) [⟨1, .vals [.agg [.w (rs v)]]⟩]) (.no 1)
 | _, _ => .no 1
include hG in
theorem ok45 : qc prog G 14 s45 := by
 intro args hs K x h
 unfold s45 at h
 split at h
 case h_2 => cases h
 rename_i n v
 obtain ⟨hc, hr⟩ := k8 h
 simp only [kA, kD] at hc
 obtain ⟨⟨hw, h0⟩, h1⟩ := hc
 have ho := KsLe.one (KLe.vals (e := 1) (VLeL.cons (VLe.agg (VLeL.cons (vle_w_out hw) .nil)) .nil))
 have hi := KsLe.one (KLe.vals (e := 1) (VLeL.cons (VLe.agg (VLeL.cons (vle_w_in (okW_rs hw)) .nil)) .nil))
 refine ⟨_, _, PC.blocks ho (PC.le (r := .i .i64 (nx v n)) (hs' := [⟨1, .vals [.agg [rs v]]⟩]) ?_ (.refl _) hi), hr⟩
 rcases okW_cases hw with rfl | ⟨l, rfl⟩
 ·refine qj hG (.cons (ok24 hG) .nil) mix enter45 (L := []) (pol := {}) (k9 (by kernel_rfl)) ?_
  rw [e45n, k5 (by decide), k7]
  show some (Res.ret (.i .i64 0) _) = some (Res.ret (.i .i64 (0 % n)) _)
  rw [Int.zero_emod]; rfl
 ·refine qj hG (.cons (ok24 hG) .nil) mix enter45 (L := []) (pol := {}) (k9 (by kernel_rfl)) ?_
  rw [e45]
  cases l with
  | nil =>
   rw [k5 (by decide), k7]
   show some (Res.ret (.i .i64 0) _) = some (Res.ret (.i .i64 (0 % n)) _)
   rw [Int.zero_emod]; rfl
  | cons y ys =>
   have hl : (y :: ys).length = ys.length + 1 := rfl
   rw [k6 (kF (by omega)), k6 (kF (by omega)), k5 (by simp only [kA, kD]; omega), k5 (by simp only [kA, kD]; omega), k5 (by simp only [kA, kD]; omega), k7]
   have ht : List.take ((Cont.ints .i64 (y :: ys)).len - Int.toNat 1) (List.drop (Int.toNat 1) (y :: ys)) = ys := by
    show List.take (ys.length + 1 - 1) ys = ys
    rw [Nat.add_sub_cancel, List.take_length]
   rw [ht]
   rfl
theorem enter104 : Enters prog 92 f92 (qd f92) := ⟨func92, by kernel_rfl, rfl⟩
theorem e104 (a b : Int) : evF prog [(55, s81)] [] {} f92 [.i .i64 a, .i .i64 b] [] ql =
 Tr.br (decide ((0 : Int) < 4) && decide ((4 : Int) < 4611686018427387904) && decide ((-4611686018427387904 : Int) < a) && decide (a < 4611686018427387904)) (.br (decide ((0 : Int) < 4) && decide ((4 : Int) < 4611686018427387904) && decide ((-4611686018427387904 : Int) < b) && decide (b < 4611686018427387904)) (.ok (.ret (PV.agg [PV.q (mkRat a (Int.toNat 4)) 64, PV.q (mkRat b (Int.toNat 4)) 64]) [])) (.no 1)) (.no 1) := by kernel_rfl
def smI (a : Int) : Bool := decide (-1000000 < a) && decide (a < 1000000)
theorem smI_iff {a : Int} : smI a = true ↔ -1000000 < a /\ a < 1000000 := by simp [smI]
def s104 : Spec := fun args hs K => match args, hs with
 | [.i .i64 a, .i .i64 b], [] => .br (smI a && smI b) (K (.agg [.q (mkRat a 4) 64, .q (mkRat b 4) 64]) []) (.no 1)
 | _, _ => .no 1
include hG in
theorem ok104 : qc prog G 92 s104 := by
 refine qp hG (.cons (ok81 hG) .nil) mix enter104 (L := []) (pol := {}) fun args hs K x h => ?_
 unfold s104 at h
 split at h
 case h_2 => cases h
 rename_i a b
 obtain ⟨hc, hr⟩ := k8 h
 simp only [kA, smI_iff] at hc
 refine ⟨k9 (by kernel_rfl), _, _, _, ?_, .refl _, hr⟩
 rw [e104]
 repeat rw [k5 (by simp only [kA, kD]; omega)]
 rw [k7]
 rfl
theorem enter105 : Enters prog 93 f93 (qd f93) := ⟨func93, by kernel_rfl, rfl⟩
theorem e105 (a b c d : Int) : evF prog [(92, s104)] [] {} f93 [.i .i64 a, .i .i64 b, .i .i64 c, .i .i64 d] [] ql =
 Tr.br (smI a && smI b) (.br (smI c && smI b) (.br (smI c && smI d) (.br (smI a && smI d) (.ok (.ret (PV.lst 6 (.vals [PV.agg [PV.q (mkRat a (4 : Nat)) 64, PV.q (mkRat b (4 : Nat)) 64], PV.agg [PV.q (mkRat c (4 : Nat)) 64, PV.q (mkRat b (4 : Nat)) 64], PV.agg [PV.q (mkRat c (4 : Nat)) 64, PV.q (mkRat d (4 : Nat)) 64], PV.agg [PV.q (mkRat a (4 : Nat)) 64, PV.q (mkRat d (4 : Nat)) 64]])) [])) (.no 1)) (.no 1)) (.no 1)) (.no 1) := by kernel_rfl
def s105 : Spec := fun args hs K => match args, hs with
 | [.i .i64 a, .i .i64 b, .i .i64 c, .i .i64 d], [] => .br (smI a && smI b && smI c && smI d) (K (.lst 6 (.vals [.agg [.q (mkRat a 4) 64, .q (mkRat b 4) 64], .agg [.q (mkRat c 4) 64, .q (mkRat b 4) 64], .agg [.q (mkRat c 4) 64, .q (mkRat d 4) 64], .agg [.q (mkRat a 4) 64, .q (mkRat d 4) 64]])) []) (.no 1)
 | _, _ => .no 1
include hG in
theorem ok105 : qc prog G 93 s105 := by
 refine qp hG (.cons (ok104 hG) .nil) mix enter105 (L := []) (pol := {}) fun args hs K x h => ?_
 unfold s105 at h
 split at h
 case h_2 => cases h
 rename_i a b c d
 obtain ⟨hc, hr⟩ := k8 h
 simp only [kA] at hc
 obtain ⟨⟨⟨ha, hb⟩, hc⟩, hd⟩ := hc
 refine ⟨k9 (by kernel_rfl), _, _, _, ?_, .refl _, hr⟩
 rw [e105, k5 (by rw [ha, hb]; rfl), k5 (by rw [hc, hb]; rfl), k5 (by rw [hc, hd]; rfl), k5 (by rw [ha, hd]; rfl), k7]
def b68 : Code := (qi (qd f47)).getD 0 .skip
def pol68 : Pol := { live := [(4, [0, 4, 5, 30, 31])], wr := [(14, [0])] }
def O68 : Orc := [(14, s45), (55, s81), (92, s104), (93, s105)]
theorem enter68 : Enters prog 47 f47 (qd f47) := ⟨func47, by kernel_rfl, rfl⟩
def lkC (a b c d e : Rat) (s : Cont) : PV := .agg [.q a 64, .q b 64, .q c 64, .q d 64, .q e 64, .lst 6 s]
def zArm (z1 z2 z3 z4 z5 z6 z7 : ByteArray) : PV := .agg [.s z1, .agg [.agg [.agg [.bl false, .s z2, .s z3], .agg [.bl false, .s z4, .s z5]], .agg [.bl false, .agg [.bl false, .s z6, .s z7]]], .nil]
def frA (nm : ByteArray) (bx by_ t : Rat) (l : PV) : PV := .agg [.s nm, .agg [.agg [.q bx 64, .q by_ 64], .agg [.bl false, .q t 64]], l]
def E : ByteArray := ⟨#[]⟩
def st68 (v : PV) (nm : ByteArray) (bx by_ t : Rat) (l : PV) (bs : List (Option Blk)) (c i : Int) : LS := ⟨[.ptr 0 1 0 0 [], .ptr 1 12 0 0 [], .ptr 2 12 0 0 [], .i .i64 c, .i .i64 i], [some ⟨1, .vals [.agg [.w v]]⟩, some ⟨12, .vals [zArm E E E E E E E]⟩, some ⟨12, .vals [frA nm bx by_ t l]⟩] ++ bs⟩
def r6 (v : PV) : PV := rs (rs (rs (rs (rs (rs v)))))
def shV (v : PV) : Cont := if nx (rs (rs (rs (rs (rs v))))) 3 = 2 then
  .vals [.agg [.q (mkRat (-1) 4) 64, .q (mkRat (-1) 4) 64], .agg [.q (mkRat (4 + 2 * nx v 4 + 1) 4) 64, .q (mkRat 0 4) 64], .agg [.q (mkRat (-1) 4) 64, .q (mkRat 1 4) 64]]
 else .vals [.agg [.q (mkRat (-1) 4) 64, .q (mkRat (-1) 4) 64], .agg [.q (mkRat (4 + 2 * nx v 4 + 1) 4) 64, .q (mkRat (-1) 4) 64], .agg [.q (mkRat (4 + 2 * nx v 4 + 1) 4) 64, .q (mkRat 1 4) 64], .agg [.q (mkRat (-1) 4) 64, .q (mkRat 1 4) 64]]
def lenV (v : PV) : Rat := mkRat (4 + 2 * nx v 4) (Int.toNat 4)
def lowV (v : PV) : Rat := mkRat (-1 - nx (rs v) 6) (Int.toNat 3)
def highV (v : PV) : Rat := mkRat (1 + nx (rs (rs v)) 6) (Int.toNat 3)
def spdV (v : PV) : Rat := mkRat 1 (4 + nx (rs (rs (rs v))) 8).toNat
def brkV (v : PV) : Rat := mkRat 1 (10 + nx (rs (rs (rs (rs v)))) 20).toNat
def lkV (v : PV) : PV := lkC (lenV v) (lowV v) (highV v) (spdV v) (brkV v) (shV v)
def okN (v : PV) (n : Int) : Bool := okW v && decide (0 < n) && decide (n <= 4294967296)
def ovf (x : Int) : Bool := decide ((-9223372036854775808 : Int) <= x) && decide (x <= 9223372036854775807)
def frq (d n : Int) : Bool := decide (0 < d) && decide (d < 4611686018427387904) && decide ((-4611686018427387904 : Int) < n) && decide (n < 4611686018427387904)
def tr68 (v : PV) (L : Cont -> LS) : Tr :=
 .br (okN v 4) (.br (ovf (2 * nx v 4)) (.br (ovf (4 + 2 * nx v 4)) (.br (frq 4 (4 + 2 * nx v 4))
 (.br (okN (rs v) 6) (.br (ovf (-1 - nx (rs v) 6)) (.br (frq 3 (-1 - nx (rs v) 6))
 (.br (okN (rs (rs v)) 6) (.br (ovf (1 + nx (rs (rs v)) 6)) (.br (frq 3 (1 + nx (rs (rs v)) 6))
 (.br (okN (rs (rs (rs v))) 8) (.br (ovf (4 + nx (rs (rs (rs v))) 8)) (.br (frq (4 + nx (rs (rs (rs v))) 8) 1)
 (.br (okN (rs (rs (rs (rs v)))) 20) (.br (ovf (10 + nx (rs (rs (rs (rs v)))) 20)) (.br (frq (10 + nx (rs (rs (rs (rs v)))) 20) 1)
 (.br (ovf (4 + 2 * nx v 4 + 1)) (.br (smI (-1) && smI (-1) && smI (4 + 2 * nx v 4 + 1) && smI 1)
 (.br (okN (rs (rs (rs (rs (rs v))))) 3) (.br (decide (nx (rs (rs (rs (rs (rs v))))) 3 = 2))
  (.br (ovf (4 + 2 * nx v 4 + 1)) (.br (smI (4 + 2 * nx v 4 + 1) && smI 0)
   (.ok (.out .normal (L (.vals [.agg [.q (mkRat (-1) 4) 64, .q (mkRat (-1) 4) 64], .agg [.q (mkRat (4 + 2 * nx v 4 + 1) 4) 64, .q (mkRat 0 4) 64], .agg [.q (mkRat (-1) 4) 64, .q (mkRat 1 4) 64]])))) (.no 1)) (.no 1))
  (.ok (.out .normal (L (.vals [.agg [.q (mkRat (-1) 4) 64, .q (mkRat (-1) 4) 64], .agg [.q (mkRat (4 + 2 * nx v 4 + 1) 4) 64, .q (mkRat (-1) 4) 64], .agg [.q (mkRat (4 + 2 * nx v 4 + 1) 4) 64, .q (mkRat 1 4) 64], .agg [.q (mkRat (-1) 4) 64, .q (mkRat 1 4) 64]])))))
 (.no 1)) (.no 1)) (.no 1)) (.no 1)) (.no 1)) (.no 1)) (.no 1)) (.no 1)) (.no 1)) (.no 1)) (.no 1)) (.no 1)) (.no 1)) (.no 1)) (.no 1)) (.no 1)) (.no 1)) (.no 1)) (.no 1)
theorem tr68_run (v : PV) (hw : okW v = true) (L : Cont -> LS) : (tr68 v L).run = some (.out .normal (L (shV v))) := by
 have w1 := okW_rs hw
 have w2 := okW_rs w1
 have w3 := okW_rs w2
 have w4 := okW_rs w3
 have w5 := okW_rs w4
 have g0 := qv v (show (0 : Int) < 4 by omega)
 have g1 := qv (rs v) (show (0 : Int) < 6 by omega)
 have g2 := qv (rs (rs v)) (show (0 : Int) < 6 by omega)
 have g3 := qv (rs (rs (rs v))) (show (0 : Int) < 8 by omega)
 have g4 := qv (rs (rs (rs (rs v)))) (show (0 : Int) < 20 by omega)
 unfold tr68 shV
 by_cases hb : nx (rs (rs (rs (rs (rs v))))) 3 = 2
 ·rw [if_pos hb]
  repeat rw [k5 (by simp only [okN, ovf, frq, hw, w1, w2, w3, w4, w5, Bool.true_and, kA, kD, smI_iff]; omega)]
  rw [k7]
 ·rw [if_neg hb]
  repeat rw [k5 (by simp only [okN, ovf, frq, hw, w1, w2, w3, w4, w5, Bool.true_and, kA, kD, smI_iff]; omega)]
  rw [k6 (kF hb), k7]
theorem step68a (v : PV) (hw : okW v = true) (nm : ByteArray) (bx by_ t : Rat) (c : Int) (hc : 0 < c) :
  (qh prog O68 [] pol68 f47.ntmps 1 [0, 4, 5, 30, 31] b68 (st68 v nm bx by_ t .nil [] c 0)).run = some (.out .normal (st68 (r6 v) nm bx by_ t (.sl 3 16 0 1) [some ⟨16, .vals [lkV v]⟩] c 1)) :=
 (show _ = (Tr.br (decide ((0 : Int) < c)) (tr68 v fun s => st68 (r6 v) nm bx by_ t (.sl 3 16 0 1) [some ⟨16, .vals [lkC (lenV v) (lowV v) (highV v) (spdV v) (brkV v) s]⟩] c 1) (.ok (.out (.exit 0) (st68 v nm bx by_ t .nil [] c 0)))).run by kernel_rfl).trans ((k5 (kE hc)).trans (tr68_run v hw _))
theorem step68b (v : PV) (hw : okW v = true) (nm : ByteArray) (bx by_ t : Rat) (c : Int) (a1 b1 c1 d1 e1 : Rat) (s1 : Cont) (hc : 1 < c) :
  (qh prog O68 [] pol68 f47.ntmps 1 [0, 4, 5, 30, 31] b68 (st68 v nm bx by_ t (.sl 3 16 0 1) [some ⟨16, .vals [lkC a1 b1 c1 d1 e1 s1]⟩] c 1)).run = some (.out .normal (st68 (r6 v) nm bx by_ t (.sl 3 16 0 2) [some ⟨16, .vals [lkC a1 b1 c1 d1 e1 s1, lkV v]⟩] c 2)) :=
 (show _ = (Tr.br (decide ((1 : Int) < c)) (tr68 v fun s => st68 (r6 v) nm bx by_ t (.sl 3 16 0 2) [some ⟨16, .vals [lkC a1 b1 c1 d1 e1 s1, lkC (lenV v) (lowV v) (highV v) (spdV v) (brkV v) s]⟩] c 2) (.ok (.out (.exit 0) (st68 v nm bx by_ t (.sl 3 16 0 1) [some ⟨16, .vals [lkC a1 b1 c1 d1 e1 s1]⟩] c 1)))).run by kernel_rfl).trans ((k5 (kE hc)).trans (tr68_run v hw _))
theorem step68c (v : PV) (hw : okW v = true) (nm : ByteArray) (bx by_ t : Rat) (c : Int) (a1 b1 c1 d1 e1 a2 b2 c2 d2 e2 : Rat) (s1 s2 : Cont) (hc : 2 < c) :
  (qh prog O68 [] pol68 f47.ntmps 1 [0, 4, 5, 30, 31] b68 (st68 v nm bx by_ t (.sl 3 16 0 2) [some ⟨16, .vals [lkC a1 b1 c1 d1 e1 s1, lkC a2 b2 c2 d2 e2 s2]⟩] c 2)).run = some (.out .normal (st68 (r6 v) nm bx by_ t (.sl 3 16 0 3) [some ⟨16, .vals [lkC a1 b1 c1 d1 e1 s1, lkC a2 b2 c2 d2 e2 s2, lkV v]⟩] c 3)) :=
 (show _ = (Tr.br (decide ((2 : Int) < c)) (tr68 v fun s => st68 (r6 v) nm bx by_ t (.sl 3 16 0 3) [some ⟨16, .vals [lkC a1 b1 c1 d1 e1 s1, lkC a2 b2 c2 d2 e2 s2, lkC (lenV v) (lowV v) (highV v) (spdV v) (brkV v) s]⟩] c 3) (.ok (.out (.exit 0) (st68 v nm bx by_ t (.sl 3 16 0 2) [some ⟨16, .vals [lkC a1 b1 c1 d1 e1 s1, lkC a2 b2 c2 d2 e2 s2]⟩] c 2)))).run by kernel_rfl).trans ((k5 (kE hc)).trans (tr68_run v hw _))
def Pl68 (v z : PV) (u1 u2 u3 : Nat) (c i : Int) : Prop := okW v = true /\ i = 0 /\ 1 <= c /\ c <= 3 /\ z = zArm E E E E E E E /\ u1 = 64 /\ u2 = 64 /\ u3 = 64
def l68 : qy := fun ls K => match ls with
 | ⟨[.ptr 0 1 0 0 [], .ptr 1 12 0 0 [], .ptr 2 12 0 0 [], .i .i64 c, .i .i64 i], [some ⟨1, .vals [.agg [.w v]]⟩, some ⟨12, .vals [z]⟩, some ⟨12, .vals [.agg [.s nm, .agg [.agg [.q bx u1, .q by_ u2], .agg [.bl false, .q t u3]], .nil]]⟩]⟩ =>
  .br (qg (Pl68 v z u1 u2 u3 c i)) (.br (decide (c = 1)) (K (.exit 0) (st68 (r6 v) nm bx by_ t (.sl 3 16 0 1) [some ⟨16, .vals [lkV v]⟩] c 1))
   (.br (decide (c = 2)) (K (.exit 0) (st68 (r6 (r6 v)) nm bx by_ t (.sl 3 16 0 2) [some ⟨16, .vals [lkV v, lkV (r6 v)]⟩] c 2))
    (K (.exit 0) (st68 (r6 (r6 (r6 v))) nm bx by_ t (.sl 3 16 0 3) [some ⟨16, .vals [lkV v, lkV (r6 v), lkV (r6 (r6 v))]⟩] c 3)))) (.no 1)
 | _ => .no 1
include hG in
theorem orc68 : OrcOK prog G O68 := .cons (ok45 hG) (.cons (ok81 hG) (.cons (ok104 hG) (.cons (ok105 hG) .nil)))
include hG in
theorem rnd68 {ls ls' : LS} {e : Exit} (hl : 1 <= ls.h.length) (h : (qh prog O68 [] pol68 f47.ntmps 1 [0, 4, 5, 30, 31] b68 ls).run = some (.out e ls')) : Rnd prog G f47.ntmps 1 [0, 4, 5, 30, 31] b68 ls e ls' :=
 qb hG (orc68 hG) mix (L := []) (pol := pol68) (O := O68) (k9 (by kernel_rfl)) hl h
theorem okW_r6 {v : PV} (h : okW v = true) : okW (r6 v) = true := okW_rs (okW_rs (okW_rs (okW_rs (okW_rs (okW_rs h)))))
include hG in
theorem loop68 : qw prog G f47.ntmps 1 [0, 4, 5, 30, 31] b68 l68 := by
 intro ls K y hm h
 unfold l68 at h
 split at h
 case h_2 => cases h
 rename_i c i v z nm bx u1 by_ u2 t u3
 obtain ⟨hc, hr⟩ := k8 h
 obtain ⟨hw, rfl, h1, h3, rfl, rfl, rfl, rfl⟩ := decP_iff.1 hc
 have a1 := rnd68 hG (ls := st68 v nm bx by_ t .nil [] c 0) (by simp [st68]) (step68a v hw nm bx by_ t c (by omega))
 have w1 := okW_r6 hw
 by_cases e1 : c = 1
 ·subst e1
  rw [k5 (by decide)] at hr
  have a2 := rnd68 hG (ls := st68 (r6 v) nm bx by_ t (.sl 3 16 0 1) [some ⟨16, .vals [lkV v]⟩] 1 1) (ls' := st68 (r6 v) nm bx by_ t (.sl 3 16 0 1) [some ⟨16, .vals [lkV v]⟩] 1 1) (e := .exit 0) (by simp [st68]) (by kernel_rfl)
  exact ⟨_, _, qu (.more _ _ _ _ a1 (.last _ _ _ a2 (by simp))), hr⟩
 ·rw [k6 (kF e1)] at hr
  have a2 := rnd68 hG (ls := st68 (r6 v) nm bx by_ t (.sl 3 16 0 1) [some ⟨16, .vals [lkV v]⟩] c 1) (by simp [st68]) (step68b (r6 v) w1 nm bx by_ t c _ _ _ _ _ _ (by omega))
  by_cases e2 : c = 2
  ·subst e2
   rw [k5 (by decide)] at hr
   have a3 := rnd68 hG (ls := st68 (r6 (r6 v)) nm bx by_ t (.sl 3 16 0 2) [some ⟨16, .vals [lkV v, lkV (r6 v)]⟩] 2 2) (ls' := st68 (r6 (r6 v)) nm bx by_ t (.sl 3 16 0 2) [some ⟨16, .vals [lkV v, lkV (r6 v)]⟩] 2 2) (e := .exit 0) (by simp [st68]) (by kernel_rfl)
   exact ⟨_, _, qu (.more _ _ _ _ a1 (.more _ _ _ _ a2 (.last _ _ _ a3 (by simp)))), hr⟩
  ·have e3 : c = 3 := by omega
   subst e3
   rw [k6 (by decide)] at hr
   have a3 := rnd68 hG (ls := st68 (r6 (r6 v)) nm bx by_ t (.sl 3 16 0 2) [some ⟨16, .vals [lkV v, lkV (r6 v)]⟩] 3 2) (by simp [st68]) (step68c (r6 (r6 v)) (okW_r6 w1) nm bx by_ t 3 _ _ _ _ _ _ _ _ _ _ _ _ (by omega))
   have a4 := rnd68 hG (ls := st68 (r6 (r6 (r6 v))) nm bx by_ t (.sl 3 16 0 3) [some ⟨16, .vals [lkV v, lkV (r6 v), lkV (r6 (r6 v))]⟩] 3 3) (ls' := st68 (r6 (r6 (r6 v))) nm bx by_ t (.sl 3 16 0 3) [some ⟨16, .vals [lkV v, lkV (r6 v), lkV (r6 (r6 v))]⟩] 3 3) (e := .exit 0) (by simp [st68]) (by kernel_rfl)
   exact ⟨_, _, qu (.more _ _ _ _ a1 (.more _ _ _ _ a2 (.more _ _ _ _ a3 (.last _ _ _ a4 (by simp))))), hr⟩
def lf68 (v : PV) (vs : List PV) (u : PV) : Tr := .ok (.ret (frA ⟨#[111, 110, 101]⟩ (mkRat (40 * 0) 4) (mkRat 0 4) (mkRat ([(0 : Int), 1, -1, 1].getD (nx v 4).toNat 0) (1 + nx (rs v) 3).toNat) (.fr 16 (.vals vs))) [⟨1, .vals [.agg [.w u]]⟩])
theorem e68 (v : PV) : (evF prog O68 [(4, l68)] pol68 f47 [.ptr 0 1 0 0 [], .i .i64 0] [⟨1, .vals [.agg [.w v]]⟩] ql).run =
  (Tr.br (okN v 4) (.br (ix (nx v 4) (([(0 : Int), 1, -1, 1].length : Int))) (.br (okN (rs v) 3) (.br (ovf (1 + nx (rs v) 3)) (.br (frq (1 + nx (rs v) 3) ([(0 : Int), 1, -1, 1].getD (nx v 4).toNat 0)) (.br (okN (rs (rs v)) 3) (.br (ovf (1 + nx (rs (rs v)) 3)) (.br (qg (Pl68 (rs (rs (rs v))) (zArm E E E E E E E) 64 64 64 (1 + nx (rs (rs v)) 3) 0)) (.br (decide (1 + nx (rs (rs v)) 3 = 1)) (lf68 v [lkV (rs (rs (rs v)))] (r6 (rs (rs (rs v))))) (.br (decide (1 + nx (rs (rs v)) 3 = 2)) (lf68 v [lkV (rs (rs (rs v))), lkV (r6 (rs (rs (rs v))))] (r6 (r6 (rs (rs (rs v)))))) (lf68 v [lkV (rs (rs (rs v))), lkV (r6 (rs (rs (rs v)))), lkV (r6 (r6 (rs (rs (rs v)))))] (r6 (r6 (r6 (rs (rs (rs v))))))))) (.no 1)) (.no 1)) (.no 1)) (.no 1)) (.no 1)) (.no 1)) (.no 1)) (.no 1)).run := by kernel_rfl
theorem okN_t {v : PV} {n : Int} (h : okW v = true) (h1 : 0 < n) (h2 : n <= 4294967296) : okN v n = true := by
 simp only [okN, h, Bool.true_and, kA, kD]; omega
def itR6 : Nat -> PV -> PV
 | 0, v => v
 | k + 1, v => itR6 k (r6 v)
def lkD (v : PV) : Lk := ⟨lenV v, lowV v, highV v, spdV v, brkV v, (shV v).len, fun i => dq (fldV ((shV v).get i) 0), fun i => dq (fldV ((shV v).get i) 1)⟩
def qP (v : PV) : Am := ⟨⟨#[111, 110, 101]⟩, mkRat (40 * 0) 4, mkRat 0 4, mkRat ([(0 : Int), 1, -1, 1].getD (nx v 4).toNat 0) (1 + nx (rs v) 3).toNat, (1 + nx (rs (rs v)) 3).toNat, fun j => lkD (itR6 j (rs (rs (rs v))))⟩
theorem shV_get (v : PV) (i : Nat) (h : i < (shV v).len) : (shV v).get i = .agg [.q (dq (fldV ((shV v).get i) 0)) 64, .q (dq (fldV ((shV v).get i) 1)) 64] := by
 unfold shV at *
 by_cases hb : nx (rs (rs (rs (rs (rs v))))) 3 = 2
 ·simp only [hb, if_true, Cont.len, kH, kI] at h ⊢
  match i, h with
  | 0, _ => rfl
  | 1, _ => rfl
  | 2, _ => rfl
  | i + 3, h => omega
 ·simp only [hb, if_false, Cont.len, kH, kI] at h ⊢
  match i, h with
  | 0, _ => rfl
  | 1, _ => rfl
  | 2, _ => rfl
  | 3, _ => rfl
  | i + 4, h => omega
theorem lkV_le (v : PV) : VLe (lkV v) (lkPV (lkD v)) := by
 refine VLe.agg (VLeL.cons (.refl _) (VLeL.cons (.refl _) (VLeL.cons (.refl _) (VLeL.cons (.refl _) (VLeL.cons (.refl _) (VLeL.cons ?_ .nil))))))
 refine VLe.lst rfl fun i hi => ?_
 have := shV_get v i hi
 have e : (Cont.fn (lkD v).np (pv (lkD v).px (lkD v).py)).get i = (shV v).get i := this.symm
 rw [e]
 exact .refl _
theorem rle_arm (nm : ByteArray) (bx by_ t : Rat) (vs : List PV) (n : Nat) (f : Nat -> PV) (hl : vs.length = n) (h : ∀ (i : Nat) (v : PV), vs[i]? = some v -> noRef 8 v = true /\ VLe v (f i)) :
  RLe (frA nm bx by_ t (.fr 16 (.vals vs))) (frA nm bx by_ t (.fr 16 (.fn n f))) := by
 subst hl
 exact ⟨fun m => .refl _, fun m => KsLe.one (KLe.fn rfl h)⟩
def armFr (A : Am) : PV := frA A.name A.bx A.by_ A.t (.fr 16 (.fn A.n (fun j => lkPV (A.lk j))))
def s68 : Spec := fun args hs K => match args, hs with
 | [.ptr 0 1 0 0 [], .i .i64 k], [⟨1, .vals [.agg [.w v]]⟩] => .br (okW v && decide (k = 0)) (K (armFr (qP v)) [⟨1, .vals [.agg [.w (itR6 (qP v).n (rs (rs (rs v))))]]⟩]) (.no 1)
 | _, _ => .no 1
include hG in
theorem ok68 : qc prog G 47 s68 := by
 refine qp hG (orc68 hG) mix enter68 (L := [(4, l68)]) (pol := pol68) fun args hs K x h => ?_
 unfold s68 at h
 split at h
 case h_2 => cases h
 rename_i k v
 obtain ⟨hc, hr⟩ := k8 h
 simp only [kA, kD] at hc
 obtain ⟨hw, rfl⟩ := hc
 refine ⟨lps1 (b := b68) (live := [0, 4, 5, 30, 31]) (sp := l68) (m := 1) (by kernel_rfl) (by kernel_rfl) (by kernel_rfl) (loop68 hG), ?_⟩
 have w1 := okW_rs hw
 have w2 := okW_rs w1
 have w3 := okW_rs w2
 have g0 := qv v (show (0 : Int) < 4 by omega)
 have g1 := qv (rs v) (show (0 : Int) < 3 by omega)
 have g2 := qv (rs (rs v)) (show (0 : Int) < 3 by omega)
 have gt : ∀ i : Nat, -2 < [(0 : Int), 1, -1, 1].getD i 0 /\ [(0 : Int), 1, -1, 1].getD i 0 < 2 := by
  intro i
  match i with
  | 0 => decide
  | 1 => decide
  | 2 => decide
  | 3 => decide
  | i + 4 => exact ⟨by show (-2 : Int) < 0; decide, by show (0 : Int) < 2; decide⟩
 have gt' := gt (nx v 4).toNat
 rw [e68]
 rw [k5 (okN_t hw (by decide) (by decide)), k5 (by simp only [kA, kD, kH, kI]; omega), k5 (okN_t w1 (by decide) (by decide)),
  k5 (by simp only [ovf, kA, kD]; omega), k5 (by simp only [frq, kA, kD]; omega), k5 (okN_t w2 (by decide) (by decide)), k5 (by simp only [ovf, kA, kD]; omega),
  k5 (decP_iff.2 ⟨w3, rfl, by omega, by omega, rfl, rfl, rfl, rfl⟩)]
 have hn : (qP v).n = (1 + nx (rs (rs v)) 3).toNat := rfl
 have one : ∀ (vs : List PV), vs.length = (qP v).n -> (∀ i u, vs[i]? = some u -> u = lkV (itR6 i (rs (rs (rs v))))) ->
   RLe (frA (qP v).name (qP v).bx (qP v).by_ (qP v).t (.fr 16 (.vals vs))) (armFr (qP v)) := by
  intro vs hl hv
  refine rle_arm _ _ _ _ _ _ _ hl fun i u hu => ?_
  rw [hv i u hu]
  exact ⟨rfl, lkV_le _⟩
 by_cases e1 : 1 + nx (rs (rs v)) 3 = 1
 ·have hn1 : (qP v).n = 1 := by omega
  rw [hn1] at hr
  rw [k5 (kE e1)]
  refine ⟨_, _, _, rfl, one [lkV (rs (rs (rs v)))] (by rw [hn1]; rfl) (fun i u hu => ?_), hr⟩
  match i, hu with
  | 0, hu => exact (Option.some.inj hu).symm
  | i + 1, hu => simp at hu
 ·rw [k6 (kF e1)]
  by_cases e2 : 1 + nx (rs (rs v)) 3 = 2
  ·have hn1 : (qP v).n = 2 := by omega
   rw [hn1] at hr
   rw [k5 (kE e2)]
   refine ⟨_, _, _, rfl, one [lkV (rs (rs (rs v))), lkV (r6 (rs (rs (rs v))))] (by rw [hn1]; rfl) (fun i u hu => ?_), hr⟩
   match i, hu with
   | 0, hu => exact (Option.some.inj hu).symm
   | 1, hu => exact (Option.some.inj hu).symm
   | i + 2, hu => simp at hu
  ·have hn1 : (qP v).n = 3 := by omega
   rw [hn1] at hr
   rw [k6 (kF e2)]
   refine ⟨_, _, _, rfl, one [lkV (rs (rs (rs v))), lkV (r6 (rs (rs (rs v)))), lkV (r6 (r6 (rs (rs (rs v)))))] (by rw [hn1]; rfl) (fun i u hu => ?_), hr⟩
   match i, hu with
   | 0, hu => exact (Option.some.inj hu).symm
   | 1, hu => exact (Option.some.inj hu).symm
   | 2, hu => exact (Option.some.inj hu).symm
   | i + 3, hu => simp at hu
theorem enter15 : Enters prog 13 f13 (qd f13) := ⟨func13, by kernel_rfl, rfl⟩
def pol15 : Pol := { own := [6], wr := [(47, [0])] }
theorem e15 (v : PV) : evF prog [(47, s68)] [] pol15 f13 [.w v] [] ql =
 Tr.br (okW v && decide ((0 : Int) = 0)) (.br ((qP v).n.ble (qP v).n) (.ok (.ret (PV.agg [PV.s (qP v).name, PV.agg [PV.agg [PV.q (qP v).bx 64, PV.q (qP v).by_ 64], PV.agg [PV.bl false, PV.q (qP v).t 64]], PV.fr 16 (.fn (qP v).n fun (j : Nat) => PV.agg [PV.q ((qP v).lk (j + 0)).len 64, PV.q ((qP v).lk (j + 0)).low 64, PV.q ((qP v).lk (j + 0)).high 64, PV.q ((qP v).lk (j + 0)).spd 64, PV.q ((qP v).lk (j + 0)).brk 64, PV.lst 6 (.fn ((qP v).lk (j + 0)).np fun (a : Nat) => PV.agg [PV.q (((qP v).lk (j + 0)).px a) 64, PV.q (((qP v).lk (j + 0)).py a) 64])])]) [])) (.no 15)) (.no 1) := by kernel_rfl
def s15 : Spec := fun args hs K => match args, hs with
 | [.w v], [] => .br (okW v) (K (armFr (qP v)) []) (.no 1)
 | _, _ => .no 1
include hG in
theorem ok15 : qc prog G 13 s15 := by
 refine qp hG (.cons (ok68 hG) .nil) mix enter15 (L := []) (pol := pol15) fun args hs K x h => ?_
 unfold s15 at h
 split at h
 case h_2 => cases h
 rename_i v
 obtain ⟨hc, hr⟩ := k8 h
 refine ⟨k9 (by kernel_rfl), _, _, _, ?_, .refl _, hr⟩
 rw [e15, k5 (by rw [hc]; decide), k5 (by rw [kG]; omega), k7]
 rfl

theorem smQ_mk {n : Int} {d : Nat} (hd : d ≠ 0) (hn : n.natAbs <= 1000000) (hd2 : d <= 1000) : smQ (mkRat n d) = true :=
 smQ_iff.2 ⟨Nat.le_trans (mkRat_num_le n hd) hn, Nat.le_trans (mkRat_den_le n hd) hd2⟩
theorem mk_posI {n : Int} {d : Nat} (hn : 0 < n) (hd : 0 < d) : (0 : Rat) < mkRat n d := by
 rw [show n = ((n.toNat : Nat) : Int) by omega]; exact Prof.mk_pos (by omega) hd
theorem mk_negI {n : Int} {d : Nat} (hn : n < 0) (hd : 0 < d) : mkRat n d < (0 : Rat) := by
 have h := mk_posI (n := -n) (d := d) (by omega) hd
 rw [<- Rat.neg_mkRat] at h
 grind
def shF (g : Int) (b : Bool) : Cont := match b with
 | true => .vals [.agg [.q (mkRat (-1) 4) 64, .q (mkRat (-1) 4) 64], .agg [.q (mkRat (4 + 2 * g + 1) 4) 64, .q (mkRat 0 4) 64], .agg [.q (mkRat (-1) 4) 64, .q (mkRat 1 4) 64]]
 | false => .vals [.agg [.q (mkRat (-1) 4) 64, .q (mkRat (-1) 4) 64], .agg [.q (mkRat (4 + 2 * g + 1) 4) 64, .q (mkRat (-1) 4) 64], .agg [.q (mkRat (4 + 2 * g + 1) 4) 64, .q (mkRat 1 4) 64], .agg [.q (mkRat (-1) 4) 64, .q (mkRat 1 4) 64]]
theorem shV_F (v : PV) : shV v = shF (nx v 4) (decide (nx (rs (rs (rs (rs (rs v))))) 3 = 2)) := by
 unfold shV
 by_cases hb : nx (rs (rs (rs (rs (rs v))))) 3 = 2
 ·rw [if_pos hb, kE hb]; rfl
 ·rw [if_neg hb, kF hb]; rfl
theorem shF_ok : ∀ (g : Nat) (b : Bool), g < 4 -> polyB (shF g b).len (fun i => dq (fldV ((shF g b).get i) 0)) (fun i => dq (fldV ((shF g b).get i) 1)) = true
 | 0, true, _ => by kernel_rfl
 | 1, true, _ => by kernel_rfl
 | 2, true, _ => by kernel_rfl
 | 3, true, _ => by kernel_rfl
 | 0, false, _ => by kernel_rfl
 | 1, false, _ => by kernel_rfl
 | 2, false, _ => by kernel_rfl
 | 3, false, _ => by kernel_rfl
theorem lkB_V (v : PV) : lkB (lkD v) = true := by
 have g0 := qv v (show (0 : Int) < 4 by omega)
 have g1 := qv (rs v) (show (0 : Int) < 6 by omega)
 have g2 := qv (rs (rs v)) (show (0 : Int) < 6 by omega)
 have g3 := qv (rs (rs (rs v))) (show (0 : Int) < 8 by omega)
 have g4 := qv (rs (rs (rs (rs v)))) (show (0 : Int) < 20 by omega)
 have t3 : Int.toNat 3 = 3 := rfl
 have t4 : Int.toNat 4 = 4 := rfl
 have p := shF_ok (nx v 4).toNat (decide (nx (rs (rs (rs (rs (rs v))))) 3 = 2)) (by omega)
 rw [Int.toNat_of_nonneg g0.1, <- shV_F] at p
 have hlh : lowV v < highV v := by
  have a := mk_negI (n := -1 - nx (rs v) 6) (d := 3) (by omega) (by omega)
  have b := mk_posI (n := 1 + nx (rs (rs v)) 6) (d := 3) (by omega) (by omega)
  unfold lowV highV
  rw [t3]
  grind
 simp only [lkB, kA, kD]
 refine ⟨⟨⟨⟨⟨⟨⟨⟨⟨?_, ?_⟩, ?_⟩, ?_⟩, ?_⟩, ?_⟩, hlh⟩, ?_⟩, ?_⟩, p⟩
 ·exact smQ_mk (by omega) (by omega) (by omega)
 ·exact smQ_mk (by omega) (by omega) (by omega)
 ·exact smQ_mk (by omega) (by omega) (by omega)
 ·exact smQ_mk (by omega) (by omega) (by omega)
 ·exact smQ_mk (by omega) (by omega) (by omega)
 ·exact mk_posI (by omega) (by omega)
 ·exact mk_posI (by omega) (by omega)
 ·exact mk_posI (by omega) (by omega)
theorem armB_V (v : PV) : armB (qP v) = true := by
 have g0 := qv v (show (0 : Int) < 4 by omega)
 have g1 := qv (rs v) (show (0 : Int) < 3 by omega)
 have g2 := qv (rs (rs v)) (show (0 : Int) < 3 by omega)
 have hn : (qP v).n = (1 + nx (rs (rs v)) 3).toNat := rfl
 simp only [armB, kA, kD, List.all_eq_true]
 refine ⟨⟨⟨⟨⟨⟨by kernel_rfl, by kernel_rfl⟩, by kernel_rfl⟩, ?_⟩, by omega⟩, by omega⟩, fun j _ => lkB_V _⟩
 have gt : ∀ i : Nat, ([(0 : Int), 1, -1, 1].getD i 0).natAbs <= 1 := by
  intro i
  match i with
  | 0 => decide
  | 1 => decide
  | 2 => decide
  | 3 => decide
  | i + 4 => show (0 : Int).natAbs <= 1; decide
 have := gt (nx v 4).toNat
 exact smQ_mk (by omega) (by omega) (by omega)
def b106a : Code := (qi (qd f94)).getD 0 .skip
def b106b : Code := (qi (qd f94)).getD 1 .skip
def pol106 : Pol := { live := [(3, [1, 4, 5, 12, 13, 14]), (8, [1, 4, 5, 26, 27, 28])] }
theorem enter106 : Enters prog 94 f94 (qd f94) := ⟨func94, by kernel_rfl, rfl⟩
def st106a (x : Rat) (w : Nat) (bl : List UInt8) (i : Nat) : LS := ⟨[.ptr 0 3 0 0 [], .i .i64 (bv (bl.take i) : Nat), .i .i64 0, .lst 1 (.ints .u8 (bl.map fun c => (c.toNat : Int))), .i .i64 (bl.length : Nat), .i .i64 (i : Nat)], [some ⟨3, .vals [.q x w]⟩]⟩
def st106b (x : Rat) (w : Nat) (a : Int) (bl : List UInt8) (i : Nat) : LS := ⟨[.ptr 0 3 0 0 [], .i .i64 a, .i .i64 (bv (bl.take i) : Nat), .lst 1 (.ints .u8 (bl.map fun c => (c.toNat : Int))), .i .i64 (bl.length : Nat), .i .i64 (i : Nat)], [some ⟨3, .vals [.q x w]⟩]⟩
theorem r106a (x : Rat) (w : Nat) (a b n i : Int) (l : List Int) : qh prog [] [] pol106 f94.ntmps 0 [1, 4, 5, 12, 13, 14] b106a ⟨[.ptr 0 3 0 0 [], .i .i64 a, .i .i64 b, .lst 1 (.ints .u8 l), .i .i64 n, .i .i64 i], [some ⟨3, .vals [.q x w]⟩]⟩ =
 Tr.br (decide (i < n)) (.br (ix (i) ((l.length : Int))) (.br (ib ((256 : Int) * a)) (.br (ib ((256 : Int) * a + IntKind.i64.wrap (l.getD i.toNat 0))) (.br (ib (i + 1)) (.ok (.out .normal (LS.mk [.ptr 0 3 0 0 [], .i .i64 ((256 : Int) * a + IntKind.i64.wrap (l.getD i.toNat 0)), .i .i64 b, .lst 1 (.ints .u8 l), .i .i64 n, .i .i64 (i + 1)] [some (.mk 3 (.vals [.q x w]))]))) (.no 7002)) (.no 6002)) (.no 6005)) (.no 5003)) (.ok (.out (.exit 0) (LS.mk [.ptr 0 3 0 0 [], .i .i64 a, .i .i64 b, .lst 1 (.ints .u8 l), .i .i64 n, .i .i64 i] [some (.mk 3 (.vals [.q x w]))]))) := by kernel_rfl
theorem r106b (x : Rat) (w : Nat) (a b n i : Int) (l : List Int) : qh prog [] [] pol106 f94.ntmps 0 [1, 4, 5, 26, 27, 28] b106b ⟨[.ptr 0 3 0 0 [], .i .i64 a, .i .i64 b, .lst 1 (.ints .u8 l), .i .i64 n, .i .i64 i], [some ⟨3, .vals [.q x w]⟩]⟩ =
 Tr.br (decide (i < n)) (.br (ix (i) ((l.length : Int))) (.br (ib ((256 : Int) * b)) (.br (ib ((256 : Int) * b + IntKind.i64.wrap (l.getD i.toNat 0))) (.br (ib (i + 1)) (.ok (.out .normal (LS.mk [.ptr 0 3 0 0 [], .i .i64 a, .i .i64 ((256 : Int) * b + IntKind.i64.wrap (l.getD i.toNat 0)), .lst 1 (.ints .u8 l), .i .i64 n, .i .i64 (i + 1)] [some (.mk 3 (.vals [.q x w]))]))) (.no 12002)) (.no 11002)) (.no 11005)) (.no 10003)) (.ok (.out (.exit 2) (LS.mk [.ptr 0 3 0 0 [], .i .i64 a, .i .i64 b, .lst 1 (.ints .u8 l), .i .i64 n, .i .i64 i] [some (.mk 3 (.vals [.q x w]))]))) := by kernel_rfl
def bI (l : List Int) : Int := (bv (l.map fun n => UInt8.ofNat n.toNat) : Nat)
theorem bI_map (bl : List UInt8) : bI (bl.map fun c => (c.toNat : Int)) = (bv bl : Nat) := by
 unfold bI
 rw [List.map_map]
 have : (List.map ((fun n : Int => UInt8.ofNat n.toNat) ∘ fun c : UInt8 => (c.toNat : Int)) bl) = bl := by
  rw [List.map_congr_left (g := id) (fun c _ => by simp), List.map_id]
 rw [this]
def F106 (l : List Int) (n i : Int) : Prop := ∃ bl : List UInt8, l = (bl.map fun c => (c.toNat : Int)) /\ n = (bl.length : Nat) /\ i = 0 /\ bl.length <= 2
def l106a : qy := fun ls K => match ls with
 | ⟨[.ptr 0 3 0 0 [], .i .i64 a, .i .i64 b, .lst 1 (.ints .u8 l), .i .i64 n, .i .i64 i], [some ⟨3, .vals [.q x w]⟩]⟩ => .br (qg (F106 l n i /\ a = 0 /\ b = 0)) (K (.exit 0) ⟨[.ptr 0 3 0 0 [], .i .i64 (bI l), .i .i64 b, .lst 1 (.ints .u8 l), .i .i64 n, .i .i64 n], [some ⟨3, .vals [.q x w]⟩]⟩) (.no 1)
 | _ => .no 1
def l106b : qy := fun ls K => match ls with
 | ⟨[.ptr 0 3 0 0 [], .i .i64 a, .i .i64 b, .lst 1 (.ints .u8 l), .i .i64 n, .i .i64 i], [some ⟨3, .vals [.q x w]⟩]⟩ => .br (qg (F106 l n i /\ b = 0)) (K (.exit 2) ⟨[.ptr 0 3 0 0 [], .i .i64 a, .i .i64 (bI l), .lst 1 (.ints .u8 l), .i .i64 n, .i .i64 n], [some ⟨3, .vals [.q x w]⟩]⟩) (.no 1)
 | _ => .no 1
theorem bv2_lt (bl : List UInt8) (i : Nat) (h : bl.length <= 2) : bv (bl.take i) < 65536 := by
 have h1 := bv_lt (bl.take i)
 have h2 : 256 ^ (bl.take i).length <= 256 ^ 2 := Nat.pow_le_pow_right (by omega) (by rw [List.length_take]; omega)
 omega
theorem bv_take_succ (bl : List UInt8) (i : Nat) (h : i < bl.length) : bv (bl.take (i + 1)) = bv (bl.take i) * 256 + (bl.getD i 0).toNat := by
 rw [List.take_add_one, List.getElem?_eq_getElem h, List.getD_eq_getElem?_getD, List.getElem?_eq_getElem h]
 exact bv_snoc _ _
theorem byte_get (bl : List UInt8) (i : Nat) (h : i < bl.length) : IntKind.i64.wrap ((bl.map fun c => (c.toNat : Int)).getD i 0) = ((bl.getD i 0).toNat : Int) := by
 rw [List.getD_eq_getElem?_getD, List.getD_eq_getElem?_getD, List.getElem?_map, List.getElem?_eq_getElem h]
 have := UInt8.toNat_lt (bl[i])
 show IntKind.i64.wrap ((bl[i].toNat : Nat) : Int) = ((bl[i].toNat : Nat) : Int)
 exact wi64 (by omega) (by omega)
include hG in
theorem loop106a : qw prog G f94.ntmps 0 [1, 4, 5, 12, 13, 14] b106a l106a := by
 intro ls K y hm h
 unfold l106a at h
 split at h
 case h_2 => cases h
 rename_i a b l n i x w
 obtain ⟨hc, hr⟩ := k8 h
 obtain ⟨⟨bl, rfl, rfl, rfl, hl⟩, rfl, rfl⟩ := decP_iff.1 hc
 have hg := Goes.count (R := Rnd prog G f94.ntmps 0 [1, 4, 5, 12, 13, 14] b106a) (fun i => st106a x w bl i) (e := .exit 0) (ls' := st106a x w bl bl.length) (by simp) bl.length 0
  (fun i _ hi => qb hG .nil mix (L := []) (pol := pol106) (O := []) (k9 (by kernel_rfl)) (Nat.zero_le _) (by
   have hi' : i < bl.length := by omega
   have b1 := bv2_lt bl i hl
   have b2 := bv2_lt bl (i + 1) hl
   have b3 := bv_take_succ bl i hi'
   have b4 := byte_get bl i hi'
   unfold st106a
   rw [r106a, Int.toNat_natCast, b4, k5 (kE (by omega)), k5 (by simp only [kA, kD, List.length_map]; omega), k5 (by simp only [kA, kD]; omega), k5 (by simp only [kA, kD]; omega), k5 (by simp only [kA, kD]; omega), k7]
   have e1 : 256 * ((bv (bl.take i) : Nat) : Int) + ((bl.getD i 0).toNat : Int) = ((bv (bl.take (i + 1)) : Nat) : Int) := by omega
   rw [e1]
   rfl))
  (by
   refine qb hG .nil mix (L := []) (pol := pol106) (O := []) (k9 (by kernel_rfl)) (Nat.zero_le _) ?_
   unfold st106a
   rw [Nat.zero_add, r106a, k6 (kF (by omega)), k7])
 refine ⟨_, _, qu hg, ?_⟩
 unfold st106a
 rw [List.take_length, <- bI_map]
 exact hr
include hG in
theorem loop106b : qw prog G f94.ntmps 0 [1, 4, 5, 26, 27, 28] b106b l106b := by
 intro ls K y hm h
 unfold l106b at h
 split at h
 case h_2 => cases h
 rename_i a b l n i x w
 obtain ⟨hc, hr⟩ := k8 h
 obtain ⟨⟨bl, rfl, rfl, rfl, hl⟩, rfl⟩ := decP_iff.1 hc
 have hg := Goes.count (R := Rnd prog G f94.ntmps 0 [1, 4, 5, 26, 27, 28] b106b) (fun i => st106b x w a bl i) (e := .exit 2) (ls' := st106b x w a bl bl.length) (by simp) bl.length 0
  (fun i _ hi => qb hG .nil mix (L := []) (pol := pol106) (O := []) (k9 (by kernel_rfl)) (Nat.zero_le _) (by
   have hi' : i < bl.length := by omega
   have b1 := bv2_lt bl i hl
   have b2 := bv2_lt bl (i + 1) hl
   have b3 := bv_take_succ bl i hi'
   have b4 := byte_get bl i hi'
   unfold st106b
   rw [r106b, Int.toNat_natCast, b4, k5 (kE (by omega)), k5 (by simp only [kA, kD, List.length_map]; omega), k5 (by simp only [kA, kD]; omega), k5 (by simp only [kA, kD]; omega), k5 (by simp only [kA, kD]; omega), k7]
   have e1 : 256 * ((bv (bl.take i) : Nat) : Int) + ((bl.getD i 0).toNat : Int) = ((bv (bl.take (i + 1)) : Nat) : Int) := by omega
   rw [e1]
   rfl))
  (by
   refine qb hG .nil mix (L := []) (pol := pol106) (O := []) (k9 (by kernel_rfl)) (Nat.zero_le _) ?_
   unfold st106b
   rw [Nat.zero_add, r106b, k6 (kF (by omega)), k7])
 refine ⟨_, _, qu hg, ?_⟩
 unfold st106b
 rw [List.take_length, <- bI_map]
 exact hr
theorem e106 (x : Rat) (w : Nat) : evF prog [] [(3, l106a), (8, l106b)] pol106 f94 [.q x w] [] ql =
 Tr.br (qg (F106 (List.map (fun (c : UInt8) => (c.toNat : Int)) (qa x.num.natAbs x.num.natAbs []).toArray.toList) (↑(List.map (fun (c : UInt8) => (c.toNat : Int)) (qa x.num.natAbs x.num.natAbs []).toArray.toList).length : Int) (0 : Int) /\ (0 : Int) = 0 /\ (0 : Int) = 0)) (.br (qg (F106 (List.map (fun (c : UInt8) => (c.toNat : Int)) (qa x.den x.den []).toArray.toList) (↑(List.map (fun (c : UInt8) => (c.toNat : Int)) (qa x.den x.den []).toArray.toList).length : Int) (0 : Int) /\ (0 : Int) = 0)) (.br (qn x) (.br (ib (0 - bI (List.map (fun (c : UInt8) => (c.toNat : Int)) (qa x.num.natAbs x.num.natAbs []).toArray.toList))) (.ok (.ret (.tup [.i .i64 (0 - bI (List.map (fun (c : UInt8) => (c.toNat : Int)) (qa x.num.natAbs x.num.natAbs []).toArray.toList)), .i .i64 (if (1 : Int) > bI (List.map (fun (c : UInt8) => (c.toNat : Int)) (qa x.den x.den []).toArray.toList) then (1 : Int) else bI (List.map (fun (c : UInt8) => (c.toNat : Int)) (qa x.den x.den []).toArray.toList))]) [])) (.no 14002)) (.ok (.ret (.tup [.i .i64 (bI (List.map (fun (c : UInt8) => (c.toNat : Int)) (qa x.num.natAbs x.num.natAbs []).toArray.toList)), .i .i64 (if (1 : Int) > bI (List.map (fun (c : UInt8) => (c.toNat : Int)) (qa x.den x.den []).toArray.toList) then (1 : Int) else bI (List.map (fun (c : UInt8) => (c.toNat : Int)) (qa x.den x.den []).toArray.toList))]) []))) (.no 1)) (.no 1) := by kernel_rfl
def smX (x : Rat) : Bool := decide (x.num.natAbs < 1000) && decide (x.den < 1000)
def s106 : Spec := fun args hs K => match args, hs with
 | [.q x _], [] => .br (smX x) (K (.tup [.i .i64 x.num, .i .i64 x.den]) []) (.no 1)
 | _, _ => .no 1


theorem bI_nbl (n : Nat) : bI (List.map (fun (c : UInt8) => (c.toNat : Int)) (qa n n []).toArray.toList) = (n : Int) := by
 rw [show (qa n n []).toArray.toList = nbl n from rfl, bI_map, bv_nbl]
theorem F106_nbl {n : Nat} (h : n < 65536) : F106 (List.map (fun (c : UInt8) => (c.toNat : Int)) (qa n n []).toArray.toList) ((List.map (fun (c : UInt8) => (c.toNat : Int)) (qa n n []).toArray.toList).length : Nat) 0 := by
 rw [show (qa n n []).toArray.toList = nbl n from rfl]
 exact ⟨nbl n, rfl, by rw [List.length_map], rfl, nbl_length_le (k := 2) (by omega)⟩
include hG in
theorem ok106 : qc prog G 94 s106 := by
 refine qp hG .nil mix enter106 (L := [(3, l106a), (8, l106b)]) (pol := pol106) fun args hs K x h => ?_
 unfold s106 at h
 split at h
 case h_2 => cases h
 rename_i x w
 obtain ⟨hc, hr⟩ := k8 h
 simp only [smX, kA, kD] at hc
 refine ⟨lps2 (b1 := b106a) (live1 := [1, 4, 5, 12, 13, 14]) (sp1 := l106a) (b2 := b106b) (live2 := [1, 4, 5, 26, 27, 28]) (sp2 := l106b) (m := 0) (by kernel_rfl) (by kernel_rfl) (by kernel_rfl) (by kernel_rfl) (by kernel_rfl) (loop106a hG) (loop106b hG), ?_⟩
 have hd := x.den_pos
 rw [e106, bI_nbl, bI_nbl, k5 (decP_iff.2 ⟨F106_nbl (by omega), rfl, rfl⟩), k5 (decP_iff.2 ⟨F106_nbl (by omega), rfl⟩)]
 have e2 : (if (1 : Int) > (x.den : Int) then (1 : Int) else (x.den : Int)) = (x.den : Int) := if_neg (by omega)
 rw [e2]
 cases hn : qn x with
 | true =>
  have hneg : x.num < 0 := of_decide_eq_true hn
  rw [k5 rfl, k5 (by simp only [kA, kD]; omega), k7, show (0 : Int) - (x.num.natAbs : Int) = x.num by omega]
  exact ⟨_, _, _, rfl, .refl _, hr⟩
 | false =>
  have hneg : ¬ x.num < 0 := of_decide_eq_false hn
  rw [k6 rfl, k7, show (x.num.natAbs : Int) = x.num by omega]
  exact ⟨_, _, _, rfl, .refl _, hr⟩
def b69 : Code := (qi (qd f48)).getD 0 .skip
def pol69 : Pol := { live := [(3, [1, 5, 14, 15, 16])], wr := [(14, [0])] }
theorem enter69 : Enters prog 48 f48 (qd f48) := ⟨func48, by kernel_rfl, rfl⟩
def O69 : Orc := [(14, s45), (55, s81), (94, s106)]
def n69 (v : PV) (n : Nat) (lk : Nat -> Lk) (i : Int) : LS := ⟨[.ptr 0 1 0 0 [], .nil, .lst 16 (.fn n (fun j => lkPV (lk j))), .i .i64 n, .i .i64 i], [some ⟨1, .vals [.agg [.w v]]⟩]⟩
def x69 (v : PV) (n : Nat) (lk : Nat -> Lk) (xs : List Rat) (i : Int) : LS := ⟨[.ptr 0 1 0 0 [], .sl 1 3 0 xs.length, .lst 16 (.fn n (fun j => lkPV (lk j))), .i .i64 n, .i .i64 i], [some ⟨1, .vals [.agg [.w v]]⟩, some ⟨3, .rats 64 xs⟩]⟩
theorem r69n (v : PV) (n : Nat) (lk : Nat -> Lk) (i : Int) : qh prog O69 [] pol69 f48.ntmps 1 [1, 5, 14, 15, 16] b69 (n69 v n lk i) =
 Tr.br (decide (i < (n : Int))) (.br (ix (i) ((n : Int))) (.br (smX (lk i.toNat).low) (.br (smX (lk i.toNat).high) (.br (okW v && decide ((0 : Int) < 9) && decide ((9 : Int) <= 4294967296)) (.br (ib ((8 : Int) * (lk i.toNat).low.num)) (.br (ib ((8 : Int) * (lk i.toNat).low.num * (↑(lk i.toNat).high.den : Int))) (.br (ib ((lk i.toNat).high.num * (↑(lk i.toNat).low.den : Int))) (.br (ib ((lk i.toNat).low.num * (↑(lk i.toNat).high.den : Int))) (.br (ib ((lk i.toNat).high.num * (↑(lk i.toNat).low.den : Int) - (lk i.toNat).low.num * (↑(lk i.toNat).high.den : Int))) (.br (ib (((lk i.toNat).high.num * (↑(lk i.toNat).low.den : Int) - (lk i.toNat).low.num * (↑(lk i.toNat).high.den : Int)) * nx v (9 : Int))) (.br (ib ((8 : Int) * (lk i.toNat).low.num * (↑(lk i.toNat).high.den : Int) + ((lk i.toNat).high.num * (↑(lk i.toNat).low.den : Int) - (lk i.toNat).low.num * (↑(lk i.toNat).high.den : Int)) * nx v (9 : Int))) (.br (ib ((8 : Int) * (↑(lk i.toNat).low.den : Int))) (.br (ib ((8 : Int) * (↑(lk i.toNat).low.den : Int) * (↑(lk i.toNat).high.den : Int))) (.br (decide ((0 : Int) < 8 * (↑(lk i.toNat).low.den : Int) * (↑(lk i.toNat).high.den : Int)) && decide ((8 : Int) * (↑(lk i.toNat).low.den : Int) * (↑(lk i.toNat).high.den : Int) < 4611686018427387904) && decide ((-4611686018427387904 : Int) < 8 * (lk i.toNat).low.num * (↑(lk i.toNat).high.den : Int) + ((lk i.toNat).high.num * (↑(lk i.toNat).low.den : Int) - (lk i.toNat).low.num * (↑(lk i.toNat).high.den : Int)) * nx v (9 : Int)) && decide ((8 : Int) * (lk i.toNat).low.num * (↑(lk i.toNat).high.den : Int) + ((lk i.toNat).high.num * (↑(lk i.toNat).low.den : Int) - (lk i.toNat).low.num * (↑(lk i.toNat).high.den : Int)) * nx v (9 : Int) < 4611686018427387904)) (.br (Nat.blt (0 : Nat) [mkRat ((8 : Int) * (lk i.toNat).low.num * (↑(lk i.toNat).high.den : Int) + ((lk i.toNat).high.num * (↑(lk i.toNat).low.den : Int) - (lk i.toNat).low.num * (↑(lk i.toNat).high.den : Int)) * nx v (9 : Int)) ((8 : Int) * (↑(lk i.toNat).low.den : Int) * (↑(lk i.toNat).high.den : Int)).toNat].length && [mkRat ((8 : Int) * (lk i.toNat).low.num * (↑(lk i.toNat).high.den : Int) + ((lk i.toNat).high.num * (↑(lk i.toNat).low.den : Int) - (lk i.toNat).low.num * (↑(lk i.toNat).high.den : Int)) * nx v (9 : Int)) ((8 : Int) * (↑(lk i.toNat).low.den : Int) * (↑(lk i.toNat).high.den : Int)).toNat].length.ble 4294967296) (.br (ib (i + 1)) (.ok (.out .normal { t := [.ptr 0 1 0 0 [], .sl 1 3 0 1, .lst 16 (.fn n fun (j : Nat) => lkPV (lk j)), .i .i64 (n : Int), .i .i64 (i + 1)], h := [some { e := 1, c := Cont.vals [.agg [(rs v).w]] }, some { e := 3, c := Cont.rats 64 [mkRat ((8 : Int) * (lk i.toNat).low.num * (↑(lk i.toNat).high.den : Int) + ((lk i.toNat).high.num * (↑(lk i.toNat).low.den : Int) - (lk i.toNat).low.num * (↑(lk i.toNat).high.den : Int)) * nx v (9 : Int)) ((8 : Int) * (↑(lk i.toNat).low.den : Int) * (↑(lk i.toNat).high.den : Int)).toNat] }] })) (.no 10002)) (.no 9002)) (.no 1)) (.no 9005)) (.no 9007)) (.no 9009)) (.no 9010)) (.no 9012)) (.no 9013)) (.no 9016)) (.no 9019)) (.no 9021)) (.no 1)) (.no 1)) (.no 1)) (.no 5004)) (.ok (.out (.exit 0) { t := [.ptr 0 1 0 0 [], .nil, .lst 16 (.fn n fun (j : Nat) => lkPV (lk j)), .i .i64 (n : Int), .i .i64 i], h := [some { e := 1, c := Cont.vals [.agg [v.w]] }] })) := by kernel_rfl
theorem r69 (v : PV) (n : Nat) (lk : Nat -> Lk) (xs : List Rat) (i : Int) : qh prog O69 [] pol69 f48.ntmps 1 [1, 5, 14, 15, 16] b69 (x69 v n lk xs i) =
 Tr.br (decide (i < (n : Int))) (.br (ix (i) ((n : Int))) (.br (smX (lk i.toNat).low) (.br (smX (lk i.toNat).high) (.br (okW v && decide ((0 : Int) < 9) && decide ((9 : Int) <= 4294967296)) (.br (ib ((8 : Int) * (lk i.toNat).low.num)) (.br (ib ((8 : Int) * (lk i.toNat).low.num * (↑(lk i.toNat).high.den : Int))) (.br (ib ((lk i.toNat).high.num * (↑(lk i.toNat).low.den : Int))) (.br (ib ((lk i.toNat).low.num * (↑(lk i.toNat).high.den : Int))) (.br (ib ((lk i.toNat).high.num * (↑(lk i.toNat).low.den : Int) - (lk i.toNat).low.num * (↑(lk i.toNat).high.den : Int))) (.br (ib (((lk i.toNat).high.num * (↑(lk i.toNat).low.den : Int) - (lk i.toNat).low.num * (↑(lk i.toNat).high.den : Int)) * nx v (9 : Int))) (.br (ib ((8 : Int) * (lk i.toNat).low.num * (↑(lk i.toNat).high.den : Int) + ((lk i.toNat).high.num * (↑(lk i.toNat).low.den : Int) - (lk i.toNat).low.num * (↑(lk i.toNat).high.den : Int)) * nx v (9 : Int))) (.br (ib ((8 : Int) * (↑(lk i.toNat).low.den : Int))) (.br (ib ((8 : Int) * (↑(lk i.toNat).low.den : Int) * (↑(lk i.toNat).high.den : Int))) (.br (decide ((0 : Int) < 8 * (↑(lk i.toNat).low.den : Int) * (↑(lk i.toNat).high.den : Int)) && decide ((8 : Int) * (↑(lk i.toNat).low.den : Int) * (↑(lk i.toNat).high.den : Int) < 4611686018427387904) && decide ((-4611686018427387904 : Int) < 8 * (lk i.toNat).low.num * (↑(lk i.toNat).high.den : Int) + ((lk i.toNat).high.num * (↑(lk i.toNat).low.den : Int) - (lk i.toNat).low.num * (↑(lk i.toNat).high.den : Int)) * nx v (9 : Int)) && decide ((8 : Int) * (lk i.toNat).low.num * (↑(lk i.toNat).high.den : Int) + ((lk i.toNat).high.num * (↑(lk i.toNat).low.den : Int) - (lk i.toNat).low.num * (↑(lk i.toNat).high.den : Int)) * nx v (9 : Int) < 4611686018427387904)) (.br (xs.length.ble xs.length && (xs.length + [mkRat ((8 : Int) * (lk i.toNat).low.num * (↑(lk i.toNat).high.den : Int) + ((lk i.toNat).high.num * (↑(lk i.toNat).low.den : Int) - (lk i.toNat).low.num * (↑(lk i.toNat).high.den : Int)) * nx v (9 : Int)) ((8 : Int) * (↑(lk i.toNat).low.den : Int) * (↑(lk i.toNat).high.den : Int)).toNat].length).ble 4294967296) (.br (ib (i + 1)) (.ok (.out .normal { t := [.ptr 0 1 0 0 [], .sl 1 3 0 (xs.length + [mkRat ((8 : Int) * (lk i.toNat).low.num * (↑(lk i.toNat).high.den : Int) + ((lk i.toNat).high.num * (↑(lk i.toNat).low.den : Int) - (lk i.toNat).low.num * (↑(lk i.toNat).high.den : Int)) * nx v (9 : Int)) ((8 : Int) * (↑(lk i.toNat).low.den : Int) * (↑(lk i.toNat).high.den : Int)).toNat].length), .lst 16 (.fn n fun (j : Nat) => lkPV (lk j)), .i .i64 (n : Int), .i .i64 (i + 1)], h := [some { e := 1, c := Cont.vals [.agg [(rs v).w]] }, some { e := 3, c := Cont.rats 64 (List.take xs.length (List.drop 0 xs) ++ [mkRat ((8 : Int) * (lk i.toNat).low.num * (↑(lk i.toNat).high.den : Int) + ((lk i.toNat).high.num * (↑(lk i.toNat).low.den : Int) - (lk i.toNat).low.num * (↑(lk i.toNat).high.den : Int)) * nx v (9 : Int)) ((8 : Int) * (↑(lk i.toNat).low.den : Int) * (↑(lk i.toNat).high.den : Int)).toNat]) }] })) (.no 10002)) (.no 9002)) (.no 1)) (.no 9005)) (.no 9007)) (.no 9009)) (.no 9010)) (.no 9012)) (.no 9013)) (.no 9016)) (.no 9019)) (.no 9021)) (.no 1)) (.no 1)) (.no 1)) (.no 5004)) (.ok (.out (.exit 0) { t := [.ptr 0 1 0 0 [], .sl 1 3 0 xs.length, .lst 16 (.fn n fun (j : Nat) => lkPV (lk j)), .i .i64 (n : Int), .i .i64 i], h := [some { e := 1, c := Cont.vals [.agg [v.w]] }, some { e := 3, c := Cont.rats 64 xs }] })) := by kernel_rfl

def itRs : Nat -> PV -> PV
 | 0, v => v
 | k + 1, v => rs (itRs k v)
theorem okW_itRs {v : PV} (h : okW v = true) : ∀ k, okW (itRs k v) = true
 | 0 => h
 | k + 1 => okW_rs (okW_itRs h k)
def cf0 (l h : Rat) (k : Int) : Rat := mkRat ((8 : Int) * l.num * (h.den : Int) + (h.num * (l.den : Int) - l.num * (h.den : Int)) * k) ((8 : Int) * (l.den : Int) * (h.den : Int)).toNat
def cf1 (lk : Nat -> Lk) (v : PV) (j : Nat) : Rat := cf0 (lk j).low (lk j).high (nx (itRs j v) 9)
def cfL (lk : Nat -> Lk) (v : PV) (n : Nat) : List Rat := (List.range n).map (cf1 lk v)
theorem cfL_succ (lk : Nat -> Lk) (v : PV) (n : Nat) : cfL lk v (n + 1) = cfL lk v n ++ [cf1 lk v n] := by simp [cfL, List.range_succ]
theorem cfL_len (lk : Nat -> Lk) (v : PV) (n : Nat) : (cfL lk v n).length = n := by simp [cfL]
theorem nabs_mul {a b : Int} {A B : Nat} (ha : a.natAbs <= A) (hb : b.natAbs <= B) : (a * b).natAbs <= A * B := by
 rw [Int.natAbs_mul]; exact Nat.mul_le_mul ha hb
theorem smX_iff {x : Rat} : smX x = true ↔ x.num.natAbs < 1000 /\ x.den < 1000 := by simp [smX]
def st69 (v : PV) (n : Nat) (lk : Nat -> Lk) (xs : List Rat) (i : Int) : LS := match xs with
 | [] => n69 v n lk i
 | xs => x69 v n lk xs i
theorem st69_x {v : PV} {n : Nat} {lk : Nat -> Lk} {xs : List Rat} {i : Int} (h : xs ≠ []) : st69 v n lk xs i = x69 v n lk xs i := by
 cases xs with
 | nil => exact absurd rfl h
 | cons x xs => rfl
include hG in
theorem orc69 : OrcOK prog G O69 := .cons (ok45 hG) (.cons (ok81 hG) (.cons (ok106 hG) .nil))
theorem step69 (v : PV) (hw : okW v = true) (n : Nat) (lk : Nat -> Lk) (xs : List Rat) (j : Nat) (hn : n <= 3) (hj : j < n) (hx : xs.length <= 1000) (h1 : smX (lk j).low = true) (h2 : smX (lk j).high = true) :
  (qh prog O69 [] pol69 f48.ntmps 1 [1, 5, 14, 15, 16] b69 (st69 v n lk xs ((j : Nat) : Int))).run = some (.out .normal (st69 (rs v) n lk (xs ++ [cf0 (lk j).low (lk j).high (nx v 9)]) ((j + 1 : Nat) : Int))) := by
 obtain ⟨a1, a2⟩ := smX_iff.1 h1
 obtain ⟨a3, a4⟩ := smX_iff.1 h2
 have d1 := (lk j).low.den_pos
 have d2 := (lk j).high.den_pos
 have g := qv v (show (0 : Int) < 9 by omega)
 have b1 : ((8 : Int) * (lk j).low.num * ((lk j).high.den : Int)).natAbs <= 8 * 1000 * 1000 := nabs_mul (nabs_mul (by omega) (by omega)) (by omega)
 have b2 : ((lk j).high.num * ((lk j).low.den : Int)).natAbs <= 1000 * 1000 := nabs_mul (by omega) (by omega)
 have b3 : ((lk j).low.num * ((lk j).high.den : Int)).natAbs <= 1000 * 1000 := nabs_mul (by omega) (by omega)
 have b4 : (((lk j).high.num * ((lk j).low.den : Int) - (lk j).low.num * ((lk j).high.den : Int)) * nx v 9).natAbs <= 2000000 * 9 := nabs_mul (by omega) (by omega)
 have b5 : ((8 : Int) * ((lk j).low.den : Int) * ((lk j).high.den : Int)).natAbs <= 8 * 1000 * 1000 := nabs_mul (nabs_mul (by omega) (by omega)) (by omega)
 have b6 : 0 < (8 : Int) * ((lk j).low.den : Int) * ((lk j).high.den : Int) := Int.mul_pos (by omega) (by omega)
 rw [st69_x (xs := xs ++ [cf0 (lk j).low (lk j).high (nx v 9)]) (by simp)]
 cases xs with
 | nil =>
  show (qh prog O69 [] pol69 f48.ntmps 1 [1, 5, 14, 15, 16] b69 (n69 v n lk ((j : Nat) : Int))).run = _
  rw [r69n, Int.toNat_natCast, k5 (kE (by omega)), k5 (by simp only [kA, kD]; omega), k5 h1, k5 h2, k5 (by rw [hw]; decide)]
  repeat rw [k5 (by simp only [kA, kD, Nat.blt_eq, kG, kH, kI]; omega)]
  rw [k7]
  rfl
 | cons y ys =>
  show (qh prog O69 [] pol69 f48.ntmps 1 [1, 5, 14, 15, 16] b69 (x69 v n lk (y :: ys) ((j : Nat) : Int))).run = _
  rw [r69, Int.toNat_natCast, k5 (kE (by omega)), k5 (by simp only [kA, kD]; omega), k5 h1, k5 h2, k5 (by rw [hw]; decide)]
  simp only [kH] at hx
  repeat rw [k5 (by simp only [kA, kD, Nat.blt_eq, kG, kH, kI]; omega)]
  rw [k7, List.drop_zero, List.take_length]
  have hlen : ((y :: ys) ++ [cf0 (lk j).low (lk j).high (nx v 9)]).length = (y :: ys).length + 1 := by simp
  unfold x69
  rw [hlen]
  rfl
def Pl69 (v : PV) (n : Nat) (f : Nat -> PV) (m i : Int) : Prop := ∃ lk : Nat -> Lk, f = (fun j => lkPV (lk j)) /\ m = n /\ i = 0 /\ 1 <= n /\ n <= 3 /\ okW v = true /\ ∀ j, j < n -> smX (lk j).low = true /\ smX (lk j).high = true
def cfF (f : Nat -> PV) (v : PV) (n : Nat) : List Rat := cfL (fun j => dLk (f j)) v n
def l69 : qy := fun ls K => match ls with
 | ⟨[.ptr 0 1 0 0 [], .nil, .lst 16 (.fn n f), .i .i64 m, .i .i64 i], [some ⟨1, .vals [.agg [.w v]]⟩]⟩ => .br (qg (Pl69 v n f m i)) (K (.exit 0) ⟨[.ptr 0 1 0 0 [], .sl 1 3 0 (cfF f v n).length, .lst 16 (.fn n f), .i .i64 m, .i .i64 m], [some ⟨1, .vals [.agg [.w (itRs n v)]]⟩, some ⟨3, .rats 64 (cfF f v n)⟩]⟩) (.no 1)
 | _ => .no 1
include hG in
theorem loop69 : qw prog G f48.ntmps 1 [1, 5, 14, 15, 16] b69 l69 := by
 intro ls K y hm h
 unfold l69 at h
 split at h
 case h_2 => cases h
 rename_i n f m i v
 obtain ⟨hc, hr⟩ := k8 h
 obtain ⟨lk, rfl, rfl, rfl, hn1, hn, hw, hp⟩ := decP_iff.1 hc
 have hg := Goes.count (R := Rnd prog G f48.ntmps 1 [1, 5, 14, 15, 16] b69) (fun i => st69 (itRs i v) n lk (cfL lk v i) ((i : Nat) : Int)) (e := .exit 0) (ls' := st69 (itRs n v) n lk (cfL lk v n) n) (by simp) n 0
  (fun i _ hi => qb hG (orc69 hG) mix (L := []) (pol := pol69) (O := O69) (k9 (by kernel_rfl)) (by cases cfL lk v i <;> simp [st69, n69, x69]) (by
   rw [cfL_succ]
   exact step69 (itRs i v) (okW_itRs hw i) n lk _ i hn (by omega) (by rw [cfL_len]; omega) (hp i (by omega)).1 (hp i (by omega)).2))
  (by
   refine qb hG (orc69 hG) mix (L := []) (pol := pol69) (O := O69) (k9 (by kernel_rfl)) (by cases cfL lk v (0 + n) <;> simp [st69, n69, x69]) ?_
   rw [Nat.zero_add]
   cases hc : cfL lk v n with
   | nil =>
    show (qh prog O69 [] pol69 f48.ntmps 1 [1, 5, 14, 15, 16] b69 (n69 (itRs n v) n lk ((n : Nat) : Int))).run = _
    rw [r69n, k6 (kF (by omega)), k7]; rfl
   | cons y ys =>
    show (qh prog O69 [] pol69 f48.ntmps 1 [1, 5, 14, 15, 16] b69 (x69 (itRs n v) n lk (y :: ys) ((n : Nat) : Int))).run = _
    rw [r69, k6 (kF (by omega)), k7]; rfl)
 refine ⟨_, _, qu hg, ?_⟩
 rw [st69_x (by intro h0; have := cfL_len lk v n; rw [h0] at this; simp at this; omega)]
 exact hr
theorem e69 (A : Am) (v : PV) : evF prog O69 [(3, l69)] pol69 f48 [qA A, .ptr 0 1 0 0 []] [⟨1, .vals [.agg [.w v]]⟩] ql =
 Tr.br (qg (Pl69 v A.n (fun (j : Nat) => lkPV (A.lk j)) (A.n : Int) (0 : Int))) (.br ((cfF (fun (j : Nat) => lkPV (A.lk j)) v A.n).length.ble (cfF (fun (j : Nat) => lkPV (A.lk j)) v A.n).length) (.ok (.ret (.fr 3 (.rats 64 (List.take (cfF (fun (j : Nat) => lkPV (A.lk j)) v A.n).length (List.drop 0 (cfF (fun (j : Nat) => lkPV (A.lk j)) v A.n))))) [{ e := 1, c := Cont.vals [.agg [(itRs A.n v).w]] }])) (.no 15)) (.no 1) := by kernel_rfl
def limX (A : Am) : Bool := (List.range A.n).all fun j => smX (A.lk j).low && smX (A.lk j).high
def P69 (arm v : PV) : Prop := okA arm /\ limX (dArm arm) = true /\ okW v = true
def s69 : Spec := fun args hs K => match args, hs with
 | [.agg [.s nm, .agg [.agg [.q bx w1, .q by_ w2], .agg [hf, .q t w3]], .lst 16 c], .ptr 0 1 0 0 []], [⟨1, .vals [.agg [.w v]]⟩] =>
  .br (qg (P69 (.agg [.s nm, .agg [.agg [.q bx w1, .q by_ w2], .agg [hf, .q t w3]], .lst 16 c]) v)) (K (.fr 3 (.rats 64 (cfF c.get v c.len))) [⟨1, .vals [.agg [.w (itRs c.len v)]]⟩]) (.no 1)
 | _, _ => .no 1
include hG in
theorem ok69 : qc prog G 48 s69 := by
 intro args hs K x h
 unfold s69 at h
 split at h
 case h_2 => cases h
 rename_i nm bx w1 by_ w2 hf t w3 c v
 obtain ⟨hc, hr⟩ := k8 h
 obtain ⟨⟨hv, hA⟩, hx, hw⟩ := decP_iff.1 hc
 generalize hA' : dArm (.agg [.s nm, .agg [.agg [.q bx w1, .q by_ w2], .agg [hf, .q t w3]], .lst 16 c]) = A at *
 have ek : cfF c.get v c.len = cfF (fun j => lkPV (A.lk j)) v A.n := by rw [<- hA']; rfl
 have en : c.len = A.n := by rw [<- hA']; rfl
 obtain ⟨h1, h2, h3, h4, h5, h6, h7⟩ := armB_c hA
 have hlim : ∀ j, j < A.n -> smX (A.lk j).low = true /\ smX (A.lk j).high = true := by
  intro j hj
  have := List.all_eq_true.1 hx j (List.mem_range.2 hj)
  rwa [kA] at this
 rw [ek, en] at hr
 refine ⟨_, _, PC.args (.cons hv (.refl _)) (qj hG (orc69 hG) mix enter69 (L := [(3, l69)]) (pol := pol69) (O := O69) (lps1 (b := b69) (live := [1, 5, 14, 15, 16]) (sp := l69) (m := 1) (by kernel_rfl) (by kernel_rfl) (by kernel_rfl) (loop69 hG)) ?_), hr⟩
 rw [e69, k5 (decP_iff.2 ⟨A.lk, rfl, rfl, rfl, h5, h6, hw, hlim⟩), k5 (by rw [kG]; omega), k7, List.drop_zero, List.take_length]
def pol33 : Pol := { wr := [(48, [1])], own := [9] }
theorem enter33 : Enters prog 15 f15 (qd f15) := ⟨func15, by kernel_rfl, rfl⟩
def s33 : Spec := fun args hs K => match args, hs with
 | [.agg [.s nm, .agg [.agg [.q bx w1, .q by_ w2], .agg [.bl hf, .q t w3]], .lst 16 c], .w v], [] =>
  .br (qg (P69 (.agg [.s nm, .agg [.agg [.q bx w1, .q by_ w2], .agg [.bl hf, .q t w3]], .lst 16 c]) v)) (K (.fr 3 (.rats 64 (cfF c.get v c.len))) []) (.no 1)
 | _, _ => .no 1
theorem e33 (nm : ByteArray) (bx by_ t : Rat) (w1 w2 w3 : Nat) (hf : Bool) (c : Cont) (v : PV) : evF prog [(48, s69)] [] pol33 f15 [.agg [.s nm, .agg [.agg [.q bx w1, .q by_ w2], .agg [.bl hf, .q t w3]], .lst 16 c], .w v] [] ql =
 Tr.br (qg (P69 (.agg [.s nm, .agg [.agg [.q bx w1, .q by_ w2], .agg [.bl hf, .q t w3]], .lst 16 c]) v)) (.br ((cfF c.get v (match c with | Cont.ints k xs => xs.length | Cont.rats n xs => xs.length | Cont.vals vs => vs.length | Cont.fn n f => n)).length.ble (cfF c.get v (match c with | Cont.ints k xs => xs.length | Cont.rats n xs => xs.length | Cont.vals vs => vs.length | Cont.fn n f => n)).length) (.ok (.ret (.fr 3 (.rats 64 (List.take (Cont.rats (64 : Nat) (cfF c.get v c.len)).len (List.drop 0 (cfF c.get v c.len))))) [])) (.no 15)) (.no 1) := by kernel_rfl
include hG in
theorem ok33 : qc prog G 15 s33 := by
 refine qp hG (.cons (ok69 hG) .nil) mix enter33 (L := []) (pol := pol33) fun args hs K x h => ?_
 unfold s33 at h
 split at h
 case h_2 => cases h
 rename_i nm bx w1 by_ w2 hf t w3 c v
 obtain ⟨hc, hr⟩ := k8 h
 refine ⟨k9 (by kernel_rfl), _, _, _, ?_, .refl _, hr⟩
 rw [e33, k5 hc, k5 (by rw [kG]; exact Nat.le_refl _), k7, List.drop_zero]
 show some (Res.ret (.fr 3 (.rats 64 (List.take (cfF c.get v c.len).length (cfF c.get v c.len)))) []) = _
 rw [List.take_length]
theorem enter84 : Enters prog 63 f63 (qd f63) := ⟨func63, by kernel_rfl, rfl⟩
def s84 : Spec := evF prog [(65, s23)] [] {} f63
include hG in
theorem ok84 : qc prog G 63 s84 := spec_ev hG (.cons (ok23 hG) .nil) mix enter84 (fun _ => k9 (by kernel_rfl))
def b32 : Code := (qi (qd f64)).getD 0 .skip
def pol32 : Pol := { live := [(3, [2, 3, 11, 12, 13])] }
def O32 : Orc := [(65, s23), (63, s84)]
theorem enter32 : Enters prog 64 f64 (qd f64) := ⟨func64, by kernel_rfl, rfl⟩
def l32 : qy := unr prog O32 [] pol32 f64.ntmps 0 [2, 3, 11, 12, 13] b32 3
def smC (L : Int) : Cont := .vals [.agg [.q (mkRat 0 1) 64, .q (mkRat (-1) 1) 64], .agg [.q (mkRat L 1) 64, .q (mkRat (-1) 1) 64], .agg [.q (mkRat L 1) 64, .q (mkRat 1 1) 64], .agg [.q (mkRat 0 1) 64, .q (mkRat 1 1) 64]]
def smV (L : Int) : PV := lkC (mkRat L 1) (mkRat (-2) 1) (mkRat 2 1) (mkRat 1 4) (mkRat 1 10) (smC L)
def smL (L : Int) : Lk := ⟨mkRat L 1, mkRat (-2) 1, mkRat 2 1, mkRat 1 4, mkRat 1 10, 4, fun i => dq (fldV ((smC L).get i) 0), fun i => dq (fldV ((smC L).get i) 1)⟩
theorem smV_le (L : Int) : VLe (smV L) (lkPV (smL L)) := by
 refine VLe.agg (VLeL.cons (.refl _) (VLeL.cons (.refl _) (VLeL.cons (.refl _) (VLeL.cons (.refl _) (VLeL.cons (.refl _) (VLeL.cons ?_ .nil))))))
 refine VLe.lst rfl fun i hi => ?_
 have hi' : i < 4 := hi
 match i, hi' with
 | 0, _ => exact .refl _
 | 1, _ => exact .refl _
 | 2, _ => exact .refl _
 | 3, _ => exact .refl _
 | i + 4, h => omega
end
end Go.Proofs.YteggojnjinealaaGreatDoor.PE
