/-
  Part 5 of the proof: contracts of the program's functions. Conditions: those of the theorems below.
-/
import Derived.Test.YtnenjkgffapplaaDoorRn4
import Derived.Test.YtnenjkgffapplaaDoorRn2
import Derived.RowKit3
import GoSem.ClaimChange
import Derived.ChangeSlices
import Derived.WideShapes
import Derived.OpenShut
import Derived.Test.YtnenjkgffapplaaDoorRn3
import Derived.Lib.LaidTab
set_option linter.all false
noncomputable section
namespace Go.Proofs.YtnenjkgffapplaaDoor.PE
section
open Go Tryd
set_option maxRecDepth 100000
variable {G : World -> (Nat -> Prop) -> Prop} (hG : GOk G)
def b106a : Code := (qh (qd f103)).getD 0 .skip
def b106b : Code := (qh (qd f103)).getD 1 .skip
def pol106 : Pol := { live := [(3, [1, 4, 5, 12, 13, 14]), (8, [1, 4, 5, 26, 27, 28])] }
theorem enter106 : Enters prog 103 f103 (qd f103) := ⟨func103, by kernel_rfl, rfl⟩
def st106a (x : Rat) (w : Nat) (bl : List UInt8) (i : Nat) : LS := ⟨[.ptr 0 3 0 0 [], .i .i64 (bv (bl.take i) : Nat), .i .i64 0, .lst 1 (.ints .u8 (bl.map fun c => (c.toNat : Int))), .i .i64 (bl.length : Nat), .i .i64 (i : Nat)], [some ⟨3, .vals [.q x w]⟩]⟩
def st106b (x : Rat) (w : Nat) (a : Int) (bl : List UInt8) (i : Nat) : LS := ⟨[.ptr 0 3 0 0 [], .i .i64 a, .i .i64 (bv (bl.take i) : Nat), .lst 1 (.ints .u8 (bl.map fun c => (c.toNat : Int))), .i .i64 (bl.length : Nat), .i .i64 (i : Nat)], [some ⟨3, .vals [.q x w]⟩]⟩
theorem r106a (x : Rat) (w : Nat) (a b n i : Int) (l : List Int) : qe prog [] [] pol106 f103.ntmps 0 [1, 4, 5, 12, 13, 14] b106a ⟨[.ptr 0 3 0 0 [], .i .i64 a, .i .i64 b, .lst 1 (.ints .u8 l), .i .i64 n, .i .i64 i], [some ⟨3, .vals [.q x w]⟩]⟩ =
 Tr.br (decide (i < n)) (.br (ix (i) ((l.length : Int))) (.br (ib ((256 : Int) * a)) (.br (ib ((256 : Int) * a + IntKind.i64.wrap (l.getD i.toNat (0 : Int)))) (.br (ib (i + 1)) (.ok (.out .normal (LS.mk [.ptr 0 3 0 0 [], .i .i64 ((256 : Int) * a + IntKind.i64.wrap (l.getD i.toNat (0 : Int))), .i .i64 b, .lst 1 (.ints .u8 l), .i .i64 n, .i .i64 (i + 1)] [some (.mk 3 (.vals [.q x w]))]))) (.no 7002)) (.no 6002)) (.no 6005)) (.no 5003)) (.ok (.out (.exit 0) (LS.mk [.ptr 0 3 0 0 [], .i .i64 a, .i .i64 b, .lst 1 (.ints .u8 l), .i .i64 n, .i .i64 i] [some (.mk 3 (.vals [.q x w]))]))) := by kernel_rfl
theorem r106b (x : Rat) (w : Nat) (a b n i : Int) (l : List Int) : qe prog [] [] pol106 f103.ntmps 0 [1, 4, 5, 26, 27, 28] b106b ⟨[.ptr 0 3 0 0 [], .i .i64 a, .i .i64 b, .lst 1 (.ints .u8 l), .i .i64 n, .i .i64 i], [some ⟨3, .vals [.q x w]⟩]⟩ =
 Tr.br (decide (i < n)) (.br (ix (i) ((l.length : Int))) (.br (ib ((256 : Int) * b)) (.br (ib ((256 : Int) * b + IntKind.i64.wrap (l.getD i.toNat (0 : Int)))) (.br (ib (i + 1)) (.ok (.out .normal (LS.mk [.ptr 0 3 0 0 [], .i .i64 a, .i .i64 ((256 : Int) * b + IntKind.i64.wrap (l.getD i.toNat (0 : Int))), .lst 1 (.ints .u8 l), .i .i64 n, .i .i64 (i + 1)] [some (.mk 3 (.vals [.q x w]))]))) (.no 12002)) (.no 11002)) (.no 11005)) (.no 10003)) (.ok (.out (.exit 2) (LS.mk [.ptr 0 3 0 0 [], .i .i64 a, .i .i64 b, .lst 1 (.ints .u8 l), .i .i64 n, .i .i64 i] [some (.mk 3 (.vals [.q x w]))]))) := by kernel_rfl
def bI (l : List Int) : Int := (bv (l.map fun n => UInt8.ofNat n.toNat) : Nat)
theorem bI_map (bl : List UInt8) : bI (bl.map fun c => (c.toNat : Int)) = (bv bl : Nat) := by
 unfold bI
 rw [List.map_map]
 have : (List.map ((fun n : Int => UInt8.ofNat n.toNat) ∘ fun c : UInt8 => (c.toNat : Int)) bl) = bl := by
  rw [List.map_congr_left (g := id) (fun c _ => by simp), List.map_id]
 rw [this]
def F106 (l : List Int) (n i : Int) : Prop := ∃ bl : List UInt8, l = (bl.map fun c => (c.toNat : Int)) /\ n = (bl.length : Nat) /\ i = 0 /\ bl.length <= 2
def l106a : qz := fun ls K => match ls with
 | ⟨[.ptr 0 3 0 0 [], .i .i64 a, .i .i64 b, .lst 1 (.ints .u8 l), .i .i64 n, .i .i64 i], [some ⟨3, .vals [.q x w]⟩]⟩ => .br (qj (F106 l n i /\ a = 0 /\ b = 0)) (K (.exit 0) ⟨[.ptr 0 3 0 0 [], .i .i64 (bI l), .i .i64 b, .lst 1 (.ints .u8 l), .i .i64 n, .i .i64 n], [some ⟨3, .vals [.q x w]⟩]⟩) (.no 1)
 | _ => .no 1
def l106b : qz := fun ls K => match ls with
 | ⟨[.ptr 0 3 0 0 [], .i .i64 a, .i .i64 b, .lst 1 (.ints .u8 l), .i .i64 n, .i .i64 i], [some ⟨3, .vals [.q x w]⟩]⟩ => .br (qj (F106 l n i /\ b = 0)) (K (.exit 2) ⟨[.ptr 0 3 0 0 [], .i .i64 a, .i .i64 (bI l), .lst 1 (.ints .u8 l), .i .i64 n, .i .i64 n], [some ⟨3, .vals [.q x w]⟩]⟩) (.no 1)
 | _ => .no 1
theorem bv2_lt (bl : List UInt8) (i : Nat) (h : bl.length <= 2) : bv (bl.take i) < 65536 := by
 have h1 := bv_lt (bl.take i)
 have h2 : 256 ^ (bl.take i).length <= 256 ^ 2 := Nat.pow_le_pow_right (by omega) (by rw [List.length_take]; omega)
 omega
theorem bv_take_succ (bl : List UInt8) (i : Nat) (h : i < bl.length) : bv (bl.take (i + 1)) = bv (bl.take i) * 256 + (bl.getD i 0).toNat := by
 rw [List.take_add_one, List.getElem?_eq_getElem h, List.getD_eq_getElem?_getD, List.getElem?_eq_getElem h]
 exact bv_snoc _ _
theorem byte_get (bl : List UInt8) (i : Nat) (h : i < bl.length) : IntKind.i64.wrap ((bl.map fun c => (c.toNat : Int)).getD i 0) = ((bl.getD i 0).toNat : Int) := by
 rw [List.getD_eq_getElem?_getD, List.getD_eq_getElem?_getD, List.getElem?_map, List.getElem?_eq_getElem h]
 have := UInt8.toNat_lt (bl[i])
 show IntKind.i64.wrap ((bl[i].toNat : Nat) : Int) = ((bl[i].toNat : Nat) : Int)
 exact wi64 (by omega) (by omega)
include hG in
theorem loop106a : qv prog G f103.ntmps 0 [1, 4, 5, 12, 13, 14] b106a l106a := by
 intro ls K y hm h
 unfold l106a at h
 split at h
 case h_2 => cases h
 rename_i a b l n i x w
 obtain ⟨hc, hr⟩ := k9 h
 obtain ⟨⟨bl, rfl, rfl, rfl, hl⟩, rfl, rfl⟩ := decP_iff.1 hc
 have hg := Goes.count (R := Rnd prog G f103.ntmps 0 [1, 4, 5, 12, 13, 14] b106a) (fun i => st106a x w bl i) (e := .exit 0) (ls' := st106a x w bl bl.length) (by simp) bl.length 0
  (fun i _ hi => qb hG .nil mix (L := []) (pol := pol106) (O := []) (kA (by kernel_rfl)) (Nat.zero_le _) (by
   have hi' : i < bl.length := by omega
   have b1 := bv2_lt bl i hl
   have b2 := bv2_lt bl (i + 1) hl
   have b3 := bv_take_succ bl i hi'
   have b4 := byte_get bl i hi'
   unfold st106a
   rw [r106a, Int.toNat_natCast, b4, k5 (kF (by omega)), k5 (by simp only [kD, kE, List.length_map]; omega), k5 (by simp only [kD, kE]; omega), k5 (by simp only [kD, kE]; omega), k5 (by simp only [kD, kE]; omega), k7]
   have e1 : 256 * ((bv (bl.take i) : Nat) : Int) + ((bl.getD i 0).toNat : Int) = ((bv (bl.take (i + 1)) : Nat) : Int) := by omega
   rw [e1]
   rfl))
  (by
   refine qb hG .nil mix (L := []) (pol := pol106) (O := []) (kA (by kernel_rfl)) (Nat.zero_le _) ?_
   unfold st106a
   rw [Nat.zero_add, r106a, k6 (kG (by omega)), k7])
 refine ⟨_, _, qp hg, ?_⟩
 unfold st106a
 rw [List.take_length, <- bI_map]
 exact hr
include hG in
theorem loop106b : qv prog G f103.ntmps 0 [1, 4, 5, 26, 27, 28] b106b l106b := by
 intro ls K y hm h
 unfold l106b at h
 split at h
 case h_2 => cases h
 rename_i a b l n i x w
 obtain ⟨hc, hr⟩ := k9 h
 obtain ⟨⟨bl, rfl, rfl, rfl, hl⟩, rfl⟩ := decP_iff.1 hc
 have hg := Goes.count (R := Rnd prog G f103.ntmps 0 [1, 4, 5, 26, 27, 28] b106b) (fun i => st106b x w a bl i) (e := .exit 2) (ls' := st106b x w a bl bl.length) (by simp) bl.length 0
  (fun i _ hi => qb hG .nil mix (L := []) (pol := pol106) (O := []) (kA (by kernel_rfl)) (Nat.zero_le _) (by
   have hi' : i < bl.length := by omega
   have b1 := bv2_lt bl i hl
   have b2 := bv2_lt bl (i + 1) hl
   have b3 := bv_take_succ bl i hi'
   have b4 := byte_get bl i hi'
   unfold st106b
   rw [r106b, Int.toNat_natCast, b4, k5 (kF (by omega)), k5 (by simp only [kD, kE, List.length_map]; omega), k5 (by simp only [kD, kE]; omega), k5 (by simp only [kD, kE]; omega), k5 (by simp only [kD, kE]; omega), k7]
   have e1 : 256 * ((bv (bl.take i) : Nat) : Int) + ((bl.getD i 0).toNat : Int) = ((bv (bl.take (i + 1)) : Nat) : Int) := by omega
   rw [e1]
   rfl))
  (by
   refine qb hG .nil mix (L := []) (pol := pol106) (O := []) (kA (by kernel_rfl)) (Nat.zero_le _) ?_
   unfold st106b
   rw [Nat.zero_add, r106b, k6 (kG (by omega)), k7])
 refine ⟨_, _, qp hg, ?_⟩
 unfold st106b
 rw [List.take_length, <- bI_map]
 exact hr
theorem e106 (x : Rat) (w : Nat) : evF prog [] [(3, l106a), (8, l106b)] pol106 f103 [.q x w] [] qo =
 Tr.br (qj (F106 (List.map (fun (c : UInt8) => (c.toNat : Int)) (qa x.num.natAbs x.num.natAbs []).toArray.toList) (↑(List.map (fun (c : UInt8) => (c.toNat : Int)) (qa x.num.natAbs x.num.natAbs []).toArray.toList).length : Int) (0 : Int) /\ (0 : Int) = 0 /\ (0 : Int) = 0)) (.br (qj (F106 (List.map (fun (c : UInt8) => (c.toNat : Int)) (qa x.den x.den []).toArray.toList) (↑(List.map (fun (c : UInt8) => (c.toNat : Int)) (qa x.den x.den []).toArray.toList).length : Int) (0 : Int) /\ (0 : Int) = 0)) (.br (qk x) (.br (ib ((0 : Int) - bI (List.map (fun (c : UInt8) => (c.toNat : Int)) (qa x.num.natAbs x.num.natAbs []).toArray.toList))) (.ok (.ret (.tup [.i .i64 ((0 : Int) - bI (List.map (fun (c : UInt8) => (c.toNat : Int)) (qa x.num.natAbs x.num.natAbs []).toArray.toList)), .i .i64 (if (1 : Int) > bI (List.map (fun (c : UInt8) => (c.toNat : Int)) (qa x.den x.den []).toArray.toList) then (1 : Int) else bI (List.map (fun (c : UInt8) => (c.toNat : Int)) (qa x.den x.den []).toArray.toList))]) [])) (.no 14002)) (.ok (.ret (.tup [.i .i64 (bI (List.map (fun (c : UInt8) => (c.toNat : Int)) (qa x.num.natAbs x.num.natAbs []).toArray.toList)), .i .i64 (if (1 : Int) > bI (List.map (fun (c : UInt8) => (c.toNat : Int)) (qa x.den x.den []).toArray.toList) then (1 : Int) else bI (List.map (fun (c : UInt8) => (c.toNat : Int)) (qa x.den x.den []).toArray.toList))]) []))) (.no 1)) (.no 1) := by kernel_rfl
def smX (x : Rat) : Bool := decide (x.num.natAbs < 1000) && decide (x.den < 1000)
def s106 : Spec := fun args hs K => match args, hs with
 | [.q x _], [] => .br (smX x) (K (.tup [.i .i64 x.num, .i .i64 x.den]) []) (.no 1)
 | _, _ => .no 1


theorem bI_nbl (n : Nat) : bI (List.map (fun (c : UInt8) => (c.toNat : Int)) (qa n n []).toArray.toList) = (n : Int) := by
 rw [show (qa n n []).toArray.toList = nbl n from rfl, bI_map, bv_nbl]
theorem F106_nbl {n : Nat} (h : n < 65536) : F106 (List.map (fun (c : UInt8) => (c.toNat : Int)) (qa n n []).toArray.toList) ((List.map (fun (c : UInt8) => (c.toNat : Int)) (qa n n []).toArray.toList).length : Nat) 0 := by
 rw [show (qa n n []).toArray.toList = nbl n from rfl]
 exact ⟨nbl n, rfl, by rw [List.length_map], rfl, nbl_length_le (k := 2) (by omega)⟩
include hG in
theorem ok106 : qc prog G 103 s106 := by
 refine qm hG .nil mix enter106 (L := [(3, l106a), (8, l106b)]) (pol := pol106) fun args hs K x h => ?_
 unfold s106 at h
 split at h
 case h_2 => cases h
 rename_i x w
 obtain ⟨hc, hr⟩ := k9 h
 simp only [smX, kD, kE] at hc
 refine ⟨lps2 (b1 := b106a) (live1 := [1, 4, 5, 12, 13, 14]) (sp1 := l106a) (b2 := b106b) (live2 := [1, 4, 5, 26, 27, 28]) (sp2 := l106b) (m := 0) (by kernel_rfl) (by kernel_rfl) (by kernel_rfl) (by kernel_rfl) (by kernel_rfl) (loop106a hG) (loop106b hG), ?_⟩
 have hd := x.den_pos
 rw [e106, bI_nbl, bI_nbl, k5 (decP_iff.2 ⟨F106_nbl (by omega), rfl, rfl⟩), k5 (decP_iff.2 ⟨F106_nbl (by omega), rfl⟩)]
 have e2 : (if (1 : Int) > (x.den : Int) then (1 : Int) else (x.den : Int)) = (x.den : Int) := if_neg (by omega)
 rw [e2]
 cases hn : qk x with
 | true =>
  have hneg : x.num < 0 := of_decide_eq_true hn
  rw [k5 rfl, k5 (by simp only [kD, kE]; omega), k7, show (0 : Int) - (x.num.natAbs : Int) = x.num by omega]
  exact ⟨_, _, _, rfl, .refl _, hr⟩
 | false =>
  have hneg : ¬ x.num < 0 := of_decide_eq_false hn
  rw [k6 rfl, k7, show (x.num.natAbs : Int) = x.num by omega]
  exact ⟨_, _, _, rfl, .refl _, hr⟩
def b69 : Code := (qh (qd f61)).getD 0 .skip
def pol69 : Pol := { live := [(3, [1, 5, 14, 15, 16])], wr := [(60, [0])] }
theorem enter69 : Enters prog 61 f61 (qd f61) := ⟨func61, by kernel_rfl, rfl⟩
def O69 : Orc := [(60, s45), (75, s81), (103, s106)]
def n69 (v : PV) (n : Nat) (lk : Nat -> Lk) (i : Int) : LS := ⟨[.ptr 0 1 0 0 [], .nil, .lst 16 (.fn n (fun j => lkPV (lk j))), .i .i64 n, .i .i64 i], [some ⟨1, .vals [.agg [.w v]]⟩]⟩
def x69 (v : PV) (n : Nat) (lk : Nat -> Lk) (xs : List Rat) (i : Int) : LS := ⟨[.ptr 0 1 0 0 [], .sl 1 3 0 xs.length, .lst 16 (.fn n (fun j => lkPV (lk j))), .i .i64 n, .i .i64 i], [some ⟨1, .vals [.agg [.w v]]⟩, some ⟨3, .rats 64 xs⟩]⟩
theorem r69n (v : PV) (n : Nat) (lk : Nat -> Lk) (i : Int) : qe prog O69 [] pol69 f61.ntmps 1 [1, 5, 14, 15, 16] b69 (n69 v n lk i) =
 Tr.br (decide (i < (n : Int))) (.br (ix (i) ((n : Int))) (.br (smX (lk i.toNat).low) (.br (smX (lk i.toNat).high) (.br (okW v && decide ((0 : Int) < 9) && decide ((9 : Int) <= 4294967296)) (.br (ib ((8 : Int) * (lk i.toNat).low.num)) (.br (ib ((8 : Int) * (lk i.toNat).low.num * (↑(lk i.toNat).high.den : Int))) (.br (ib ((lk i.toNat).high.num * (↑(lk i.toNat).low.den : Int))) (.br (ib ((lk i.toNat).low.num * (↑(lk i.toNat).high.den : Int))) (.br (ib ((lk i.toNat).high.num * (↑(lk i.toNat).low.den : Int) - (lk i.toNat).low.num * (↑(lk i.toNat).high.den : Int))) (.br (ib (((lk i.toNat).high.num * (↑(lk i.toNat).low.den : Int) - (lk i.toNat).low.num * (↑(lk i.toNat).high.den : Int)) * nx v (9 : Int))) (.br (ib ((8 : Int) * (lk i.toNat).low.num * (↑(lk i.toNat).high.den : Int) + ((lk i.toNat).high.num * (↑(lk i.toNat).low.den : Int) - (lk i.toNat).low.num * (↑(lk i.toNat).high.den : Int)) * nx v (9 : Int))) (.br (ib ((8 : Int) * (↑(lk i.toNat).low.den : Int))) (.br (ib ((8 : Int) * (↑(lk i.toNat).low.den : Int) * (↑(lk i.toNat).high.den : Int))) (.br (decide ((0 : Int) < 8 * (↑(lk i.toNat).low.den : Int) * (↑(lk i.toNat).high.den : Int)) && decide ((8 : Int) * (↑(lk i.toNat).low.den : Int) * (↑(lk i.toNat).high.den : Int) < 4611686018427387904) && decide ((-4611686018427387904 : Int) < 8 * (lk i.toNat).low.num * (↑(lk i.toNat).high.den : Int) + ((lk i.toNat).high.num * (↑(lk i.toNat).low.den : Int) - (lk i.toNat).low.num * (↑(lk i.toNat).high.den : Int)) * nx v (9 : Int)) && decide ((8 : Int) * (lk i.toNat).low.num * (↑(lk i.toNat).high.den : Int) + ((lk i.toNat).high.num * (↑(lk i.toNat).low.den : Int) - (lk i.toNat).low.num * (↑(lk i.toNat).high.den : Int)) * nx v (9 : Int) < 4611686018427387904)) (.br (Nat.blt (0 : Nat) [mkRat ((8 : Int) * (lk i.toNat).low.num * (↑(lk i.toNat).high.den : Int) + ((lk i.toNat).high.num * (↑(lk i.toNat).low.den : Int) - (lk i.toNat).low.num * (↑(lk i.toNat).high.den : Int)) * nx v (9 : Int)) ((8 : Int) * (↑(lk i.toNat).low.den : Int) * (↑(lk i.toNat).high.den : Int)).toNat].length && [mkRat ((8 : Int) * (lk i.toNat).low.num * (↑(lk i.toNat).high.den : Int) + ((lk i.toNat).high.num * (↑(lk i.toNat).low.den : Int) - (lk i.toNat).low.num * (↑(lk i.toNat).high.den : Int)) * nx v (9 : Int)) ((8 : Int) * (↑(lk i.toNat).low.den : Int) * (↑(lk i.toNat).high.den : Int)).toNat].length.ble 4294967296) (.br (ib (i + 1)) (.ok (.out .normal { t := [.ptr 0 1 0 0 [], .sl 1 3 0 1, .lst 16 (.fn n fun (j : Nat) => .agg [.q (lk j).len 64, .q (lk j).low 64, .q (lk j).high 64, .q (lk j).spd 64, .q (lk j).brk 64, .lst 6 (.fn (lk j).np fun (a : Nat) => .agg [.q ((lk j).px a) 64, .q ((lk j).py a) 64])]), .i .i64 (n : Int), .i .i64 (i + 1)], h := [some { e := 1, c := Cont.vals [.agg [(rs v).w]] }, some { e := 3, c := Cont.rats 64 [mkRat ((8 : Int) * (lk i.toNat).low.num * (↑(lk i.toNat).high.den : Int) + ((lk i.toNat).high.num * (↑(lk i.toNat).low.den : Int) - (lk i.toNat).low.num * (↑(lk i.toNat).high.den : Int)) * nx v (9 : Int)) ((8 : Int) * (↑(lk i.toNat).low.den : Int) * (↑(lk i.toNat).high.den : Int)).toNat] }] })) (.no 10002)) (.no 9002)) (.no 1)) (.no 9005)) (.no 9007)) (.no 9009)) (.no 9010)) (.no 9012)) (.no 9013)) (.no 9016)) (.no 9019)) (.no 9021)) (.no 1)) (.no 1)) (.no 1)) (.no 5004)) (.ok (.out (.exit 0) { t := [.ptr 0 1 0 0 [], .nil, .lst 16 (.fn n fun (j : Nat) => .agg [.q (lk j).len 64, .q (lk j).low 64, .q (lk j).high 64, .q (lk j).spd 64, .q (lk j).brk 64, .lst 6 (.fn (lk j).np fun (a : Nat) => .agg [.q ((lk j).px a) 64, .q ((lk j).py a) 64])]), .i .i64 (n : Int), .i .i64 i], h := [some { e := 1, c := Cont.vals [.agg [v.w]] }] })) := by kernel_rfl
theorem r69 (v : PV) (n : Nat) (lk : Nat -> Lk) (xs : List Rat) (i : Int) : qe prog O69 [] pol69 f61.ntmps 1 [1, 5, 14, 15, 16] b69 (x69 v n lk xs i) =
 Tr.br (decide (i < (n : Int))) (.br (ix (i) ((n : Int))) (.br (smX (lk i.toNat).low) (.br (smX (lk i.toNat).high) (.br (okW v && decide ((0 : Int) < 9) && decide ((9 : Int) <= 4294967296)) (.br (ib ((8 : Int) * (lk i.toNat).low.num)) (.br (ib ((8 : Int) * (lk i.toNat).low.num * (↑(lk i.toNat).high.den : Int))) (.br (ib ((lk i.toNat).high.num * (↑(lk i.toNat).low.den : Int))) (.br (ib ((lk i.toNat).low.num * (↑(lk i.toNat).high.den : Int))) (.br (ib ((lk i.toNat).high.num * (↑(lk i.toNat).low.den : Int) - (lk i.toNat).low.num * (↑(lk i.toNat).high.den : Int))) (.br (ib (((lk i.toNat).high.num * (↑(lk i.toNat).low.den : Int) - (lk i.toNat).low.num * (↑(lk i.toNat).high.den : Int)) * nx v (9 : Int))) (.br (ib ((8 : Int) * (lk i.toNat).low.num * (↑(lk i.toNat).high.den : Int) + ((lk i.toNat).high.num * (↑(lk i.toNat).low.den : Int) - (lk i.toNat).low.num * (↑(lk i.toNat).high.den : Int)) * nx v (9 : Int))) (.br (ib ((8 : Int) * (↑(lk i.toNat).low.den : Int))) (.br (ib ((8 : Int) * (↑(lk i.toNat).low.den : Int) * (↑(lk i.toNat).high.den : Int))) (.br (decide ((0 : Int) < 8 * (↑(lk i.toNat).low.den : Int) * (↑(lk i.toNat).high.den : Int)) && decide ((8 : Int) * (↑(lk i.toNat).low.den : Int) * (↑(lk i.toNat).high.den : Int) < 4611686018427387904) && decide ((-4611686018427387904 : Int) < 8 * (lk i.toNat).low.num * (↑(lk i.toNat).high.den : Int) + ((lk i.toNat).high.num * (↑(lk i.toNat).low.den : Int) - (lk i.toNat).low.num * (↑(lk i.toNat).high.den : Int)) * nx v (9 : Int)) && decide ((8 : Int) * (lk i.toNat).low.num * (↑(lk i.toNat).high.den : Int) + ((lk i.toNat).high.num * (↑(lk i.toNat).low.den : Int) - (lk i.toNat).low.num * (↑(lk i.toNat).high.den : Int)) * nx v (9 : Int) < 4611686018427387904)) (.br (xs.length.ble xs.length && (xs.length + [mkRat ((8 : Int) * (lk i.toNat).low.num * (↑(lk i.toNat).high.den : Int) + ((lk i.toNat).high.num * (↑(lk i.toNat).low.den : Int) - (lk i.toNat).low.num * (↑(lk i.toNat).high.den : Int)) * nx v (9 : Int)) ((8 : Int) * (↑(lk i.toNat).low.den : Int) * (↑(lk i.toNat).high.den : Int)).toNat].length).ble 4294967296) (.br (ib (i + 1)) (.ok (.out .normal { t := [.ptr 0 1 0 0 [], .sl 1 3 0 (xs.length + [mkRat ((8 : Int) * (lk i.toNat).low.num * (↑(lk i.toNat).high.den : Int) + ((lk i.toNat).high.num * (↑(lk i.toNat).low.den : Int) - (lk i.toNat).low.num * (↑(lk i.toNat).high.den : Int)) * nx v (9 : Int)) ((8 : Int) * (↑(lk i.toNat).low.den : Int) * (↑(lk i.toNat).high.den : Int)).toNat].length), .lst 16 (.fn n fun (j : Nat) => .agg [.q (lk j).len 64, .q (lk j).low 64, .q (lk j).high 64, .q (lk j).spd 64, .q (lk j).brk 64, .lst 6 (.fn (lk j).np fun (a : Nat) => .agg [.q ((lk j).px a) 64, .q ((lk j).py a) 64])]), .i .i64 (n : Int), .i .i64 (i + 1)], h := [some { e := 1, c := Cont.vals [.agg [(rs v).w]] }, some { e := 3, c := Cont.rats 64 (List.take xs.length (List.drop (0 : Nat) xs) ++ [mkRat ((8 : Int) * (lk i.toNat).low.num * (↑(lk i.toNat).high.den : Int) + ((lk i.toNat).high.num * (↑(lk i.toNat).low.den : Int) - (lk i.toNat).low.num * (↑(lk i.toNat).high.den : Int)) * nx v (9 : Int)) ((8 : Int) * (↑(lk i.toNat).low.den : Int) * (↑(lk i.toNat).high.den : Int)).toNat]) }] })) (.no 10002)) (.no 9002)) (.no 1)) (.no 9005)) (.no 9007)) (.no 9009)) (.no 9010)) (.no 9012)) (.no 9013)) (.no 9016)) (.no 9019)) (.no 9021)) (.no 1)) (.no 1)) (.no 1)) (.no 5004)) (.ok (.out (.exit 0) { t := [.ptr 0 1 0 0 [], .sl 1 3 0 xs.length, .lst 16 (.fn n fun (j : Nat) => .agg [.q (lk j).len 64, .q (lk j).low 64, .q (lk j).high 64, .q (lk j).spd 64, .q (lk j).brk 64, .lst 6 (.fn (lk j).np fun (a : Nat) => .agg [.q ((lk j).px a) 64, .q ((lk j).py a) 64])]), .i .i64 (n : Int), .i .i64 i], h := [some { e := 1, c := Cont.vals [.agg [v.w]] }, some { e := 3, c := Cont.rats 64 xs }] })) := by kernel_rfl

def itRs : Nat -> PV -> PV
 | 0, v => v
 | k + 1, v => rs (itRs k v)
theorem okW_itRs {v : PV} (h : okW v = true) : ∀ k, okW (itRs k v) = true
 | 0 => h
 | k + 1 => okW_rs (okW_itRs h k)
def cf0 (l h : Rat) (k : Int) : Rat := mkRat ((8 : Int) * l.num * (h.den : Int) + (h.num * (l.den : Int) - l.num * (h.den : Int)) * k) ((8 : Int) * (l.den : Int) * (h.den : Int)).toNat
def cf1 (lk : Nat -> Lk) (v : PV) (j : Nat) : Rat := cf0 (lk j).low (lk j).high (nx (itRs j v) 9)
def cfL (lk : Nat -> Lk) (v : PV) (n : Nat) : List Rat := (List.range n).map (cf1 lk v)
theorem cfL_succ (lk : Nat -> Lk) (v : PV) (n : Nat) : cfL lk v (n + 1) = cfL lk v n ++ [cf1 lk v n] := by simp [cfL, List.range_succ]
theorem cfL_len (lk : Nat -> Lk) (v : PV) (n : Nat) : (cfL lk v n).length = n := by simp [cfL]
theorem nabs_mul {a b : Int} {A B : Nat} (ha : a.natAbs <= A) (hb : b.natAbs <= B) : (a * b).natAbs <= A * B := by
 rw [Int.natAbs_mul]; exact Nat.mul_le_mul ha hb
theorem smX_iff {x : Rat} : smX x = true ↔ x.num.natAbs < 1000 /\ x.den < 1000 := by simp [smX]
def st69 (v : PV) (n : Nat) (lk : Nat -> Lk) (xs : List Rat) (i : Int) : LS := match xs with
 | [] => n69 v n lk i
 | xs => x69 v n lk xs i
theorem st69_x {v : PV} {n : Nat} {lk : Nat -> Lk} {xs : List Rat} {i : Int} (h : xs ≠ []) : st69 v n lk xs i = x69 v n lk xs i := by
 cases xs with
 | nil => exact absurd rfl h
 | cons x xs => rfl
include hG in
theorem orc69 : OrcOK prog G O69 := .cons (ok45 hG) (.cons (ok81 hG) (.cons (ok106 hG) .nil))
theorem step69 (v : PV) (hw : okW v = true) (n : Nat) (lk : Nat -> Lk) (xs : List Rat) (j : Nat) (hn : n <= 3) (hj : j < n) (hx : xs.length <= 1000) (h1 : smX (lk j).low = true) (h2 : smX (lk j).high = true) :
  (qe prog O69 [] pol69 f61.ntmps 1 [1, 5, 14, 15, 16] b69 (st69 v n lk xs ((j : Nat) : Int))).run = some (.out .normal (st69 (rs v) n lk (xs ++ [cf0 (lk j).low (lk j).high (nx v 9)]) ((j + 1 : Nat) : Int))) := by
 obtain ⟨a1, a2⟩ := smX_iff.1 h1
 obtain ⟨a3, a4⟩ := smX_iff.1 h2
 have d1 := (lk j).low.den_pos
 have d2 := (lk j).high.den_pos
 have g := qD v (show (0 : Int) < 9 by omega)
 have b1 : ((8 : Int) * (lk j).low.num * ((lk j).high.den : Int)).natAbs <= 8 * 1000 * 1000 := nabs_mul (nabs_mul (by omega) (by omega)) (by omega)
 have b2 : ((lk j).high.num * ((lk j).low.den : Int)).natAbs <= 1000 * 1000 := nabs_mul (by omega) (by omega)
 have b3 : ((lk j).low.num * ((lk j).high.den : Int)).natAbs <= 1000 * 1000 := nabs_mul (by omega) (by omega)
 have b4 : (((lk j).high.num * ((lk j).low.den : Int) - (lk j).low.num * ((lk j).high.den : Int)) * nx v 9).natAbs <= 2000000 * 9 := nabs_mul (by omega) (by omega)
 have b5 : ((8 : Int) * ((lk j).low.den : Int) * ((lk j).high.den : Int)).natAbs <= 8 * 1000 * 1000 := nabs_mul (nabs_mul (by omega) (by omega)) (by omega)
 have b6 : 0 < (8 : Int) * ((lk j).low.den : Int) * ((lk j).high.den : Int) := Int.mul_pos (by omega) (by omega)
 rw [st69_x (xs := xs ++ [cf0 (lk j).low (lk j).high (nx v 9)]) (by simp)]
 cases xs with
 | nil =>
  show (qe prog O69 [] pol69 f61.ntmps 1 [1, 5, 14, 15, 16] b69 (n69 v n lk ((j : Nat) : Int))).run = _
  rw [r69n, Int.toNat_natCast, k5 (kF (by omega)), k5 (by simp only [kD, kE]; omega), k5 h1, k5 h2, k5 (by rw [hw]; decide)]
  repeat rw [k5 (by simp only [kD, kE, Nat.blt_eq, kH, kI, kJ]; omega)]
  rw [k7]
  rfl
 | cons y ys =>
  show (qe prog O69 [] pol69 f61.ntmps 1 [1, 5, 14, 15, 16] b69 (x69 v n lk (y :: ys) ((j : Nat) : Int))).run = _
  rw [r69, Int.toNat_natCast, k5 (kF (by omega)), k5 (by simp only [kD, kE]; omega), k5 h1, k5 h2, k5 (by rw [hw]; decide)]
  simp only [kI] at hx
  repeat rw [k5 (by simp only [kD, kE, Nat.blt_eq, kH, kI, kJ]; omega)]
  rw [k7, List.drop_zero, List.take_length]
  have hlen : ((y :: ys) ++ [cf0 (lk j).low (lk j).high (nx v 9)]).length = (y :: ys).length + 1 := by simp
  unfold x69
  rw [hlen]
  rfl
def Pl69 (v : PV) (n : Nat) (f : Nat -> PV) (m i : Int) : Prop := ∃ lk : Nat -> Lk, f = (fun j => lkPV (lk j)) /\ m = n /\ i = 0 /\ 1 <= n /\ n <= 3 /\ okW v = true /\ ∀ j, j < n -> smX (lk j).low = true /\ smX (lk j).high = true
def cfF (f : Nat -> PV) (v : PV) (n : Nat) : List Rat := cfL (fun j => dLk (f j)) v n
def l69 : qz := fun ls K => match ls with
 | ⟨[.ptr 0 1 0 0 [], .nil, .lst 16 (.fn n f), .i .i64 m, .i .i64 i], [some ⟨1, .vals [.agg [.w v]]⟩]⟩ => .br (qj (Pl69 v n f m i)) (K (.exit 0) ⟨[.ptr 0 1 0 0 [], .sl 1 3 0 (cfF f v n).length, .lst 16 (.fn n f), .i .i64 m, .i .i64 m], [some ⟨1, .vals [.agg [.w (itRs n v)]]⟩, some ⟨3, .rats 64 (cfF f v n)⟩]⟩) (.no 1)
 | _ => .no 1
include hG in
theorem loop69 : qv prog G f61.ntmps 1 [1, 5, 14, 15, 16] b69 l69 := by
 intro ls K y hm h
 unfold l69 at h
 split at h
 case h_2 => cases h
 rename_i n f m i v
 obtain ⟨hc, hr⟩ := k9 h
 obtain ⟨lk, rfl, rfl, rfl, hn1, hn, hw, hp⟩ := decP_iff.1 hc
 have hg := Goes.count (R := Rnd prog G f61.ntmps 1 [1, 5, 14, 15, 16] b69) (fun i => st69 (itRs i v) n lk (cfL lk v i) ((i : Nat) : Int)) (e := .exit 0) (ls' := st69 (itRs n v) n lk (cfL lk v n) n) (by simp) n 0
  (fun i _ hi => qb hG (orc69 hG) mix (L := []) (pol := pol69) (O := O69) (kA (by kernel_rfl)) (by cases cfL lk v i <;> simp [st69, n69, x69]) (by
   rw [cfL_succ]
   exact step69 (itRs i v) (okW_itRs hw i) n lk _ i hn (by omega) (by rw [cfL_len]; omega) (hp i (by omega)).1 (hp i (by omega)).2))
  (by
   refine qb hG (orc69 hG) mix (L := []) (pol := pol69) (O := O69) (kA (by kernel_rfl)) (by cases cfL lk v (0 + n) <;> simp [st69, n69, x69]) ?_
   rw [Nat.zero_add]
   cases hc : cfL lk v n with
   | nil =>
    show (qe prog O69 [] pol69 f61.ntmps 1 [1, 5, 14, 15, 16] b69 (n69 (itRs n v) n lk ((n : Nat) : Int))).run = _
    rw [r69n, k6 (kG (by omega)), k7]; rfl
   | cons y ys =>
    show (qe prog O69 [] pol69 f61.ntmps 1 [1, 5, 14, 15, 16] b69 (x69 (itRs n v) n lk (y :: ys) ((n : Nat) : Int))).run = _
    rw [r69, k6 (kG (by omega)), k7]; rfl)
 refine ⟨_, _, qp hg, ?_⟩
 rw [st69_x (by intro h0; have := cfL_len lk v n; rw [h0] at this; simp at this; omega)]
 exact hr
theorem e69 (A : Am) (v : PV) : evF prog O69 [(3, l69)] pol69 f61 [qt A, .ptr 0 1 0 0 []] [⟨1, .vals [.agg [.w v]]⟩] qo =
 Tr.br (qj (Pl69 v A.n (fun (j : Nat) => lkPV (A.lk j)) (A.n : Int) (0 : Int))) (.br ((cfF (fun (j : Nat) => lkPV (A.lk j)) v A.n).length.ble (cfF (fun (j : Nat) => lkPV (A.lk j)) v A.n).length) (.ok (.ret (.fr 3 (.rats 64 (List.take (cfF (fun (j : Nat) => lkPV (A.lk j)) v A.n).length (List.drop (0 : Nat) (cfF (fun (j : Nat) => lkPV (A.lk j)) v A.n))))) [{ e := 1, c := Cont.vals [.agg [(itRs A.n v).w]] }])) (.no 15)) (.no 1) := by kernel_rfl
def limX (A : Am) : Bool := (List.range A.n).all fun j => smX (A.lk j).low && smX (A.lk j).high
def P69 (arm v : PV) : Prop := okA arm /\ limX (dArm arm) = true /\ okW v = true
def s69 : Spec := fun args hs K => match args, hs with
 | [.agg [.s nm, .agg [.agg [.q bx w1, .q by_ w2], .agg [hf, .q t w3]], .lst 16 c], .ptr 0 1 0 0 []], [⟨1, .vals [.agg [.w v]]⟩] =>
  .br (qj (P69 (.agg [.s nm, .agg [.agg [.q bx w1, .q by_ w2], .agg [hf, .q t w3]], .lst 16 c]) v)) (K (.fr 3 (.rats 64 (cfF c.get v c.len))) [⟨1, .vals [.agg [.w (itRs c.len v)]]⟩]) (.no 1)
 | _, _ => .no 1
include hG in
theorem ok69 : qc prog G 61 s69 := by
 intro args hs K x h
 unfold s69 at h
 split at h
 case h_2 => cases h
 rename_i nm bx w1 by_ w2 hf t w3 c v
 obtain ⟨hc, hr⟩ := k9 h
 obtain ⟨⟨hv, hA⟩, hx, hw⟩ := decP_iff.1 hc
 generalize hA' : dArm (.agg [.s nm, .agg [.agg [.q bx w1, .q by_ w2], .agg [hf, .q t w3]], .lst 16 c]) = A at *
 have ek : cfF c.get v c.len = cfF (fun j => lkPV (A.lk j)) v A.n := by rw [<- hA']; rfl
 have en : c.len = A.n := by rw [<- hA']; rfl
 obtain ⟨h1, h2, h3, h4, h5, h6, h7⟩ := armB_c hA
 have hlim : ∀ j, j < A.n -> smX (A.lk j).low = true /\ smX (A.lk j).high = true := by
  intro j hj
  have := List.all_eq_true.1 hx j (List.mem_range.2 hj)
  rwa [kD] at this
 rw [ek, en] at hr
 refine ⟨_, _, PC.args (.cons hv (.refl _)) (qq hG (orc69 hG) mix enter69 (L := [(3, l69)]) (pol := pol69) (O := O69) (lps1 (b := b69) (live := [1, 5, 14, 15, 16]) (sp := l69) (m := 1) (by kernel_rfl) (by kernel_rfl) (by kernel_rfl) (loop69 hG)) ?_), hr⟩
 rw [e69, k5 (decP_iff.2 ⟨A.lk, rfl, rfl, rfl, h5, h6, hw, hlim⟩), k5 (by rw [kH]; omega), k7, List.drop_zero, List.take_length]
def pol33 : Pol := { wr := [(61, [1])], own := [9] }
theorem enter33 : Enters prog 30 f30 (qd f30) := ⟨func30, by kernel_rfl, rfl⟩
def s33 : Spec := fun args hs K => match args, hs with
 | [.agg [.s nm, .agg [.agg [.q bx w1, .q by_ w2], .agg [.bl hf, .q t w3]], .lst 16 c], .w v], [] =>
  .br (qj (P69 (.agg [.s nm, .agg [.agg [.q bx w1, .q by_ w2], .agg [.bl hf, .q t w3]], .lst 16 c]) v)) (K (.fr 3 (.rats 64 (cfF c.get v c.len))) []) (.no 1)
 | _, _ => .no 1
theorem e33 (nm : ByteArray) (bx by_ t : Rat) (w1 w2 w3 : Nat) (hf : Bool) (c : Cont) (v : PV) : evF prog [(61, s69)] [] pol33 f30 [.agg [.s nm, .agg [.agg [.q bx w1, .q by_ w2], .agg [.bl hf, .q t w3]], .lst 16 c], .w v] [] qo =
 Tr.br (qj (P69 (.agg [.s nm, .agg [.agg [.q bx w1, .q by_ w2], .agg [.bl hf, .q t w3]], .lst 16 c]) v)) (.br ((cfF c.get v (match c with | Cont.ints k xs => xs.length | Cont.rats n xs => xs.length | Cont.vals vs => vs.length | Cont.fn n f => n)).length.ble (cfF c.get v (match c with | Cont.ints k xs => xs.length | Cont.rats n xs => xs.length | Cont.vals vs => vs.length | Cont.fn n f => n)).length) (.ok (.ret (.fr 3 (.rats 64 (List.take (Cont.rats (64 : Nat) (cfF c.get v c.len)).len (List.drop (0 : Nat) (cfF c.get v c.len))))) [])) (.no 15)) (.no 1) := by kernel_rfl
include hG in
theorem ok33 : qc prog G 30 s33 := by
 refine qm hG (.cons (ok69 hG) .nil) mix enter33 (L := []) (pol := pol33) fun args hs K x h => ?_
 unfold s33 at h
 split at h
 case h_2 => cases h
 rename_i nm bx w1 by_ w2 hf t w3 c v
 obtain ⟨hc, hr⟩ := k9 h
 refine ⟨kA (by kernel_rfl), _, _, _, ?_, .refl _, hr⟩
 rw [e33, k5 hc, k5 (by rw [kH]; exact Nat.le_refl _), k7, List.drop_zero]
 show some (Res.ret (.fr 3 (.rats 64 (List.take (cfF c.get v c.len).length (cfF c.get v c.len)))) []) = _
 rw [List.take_length]
theorem enter37 : Enters prog 53 f53 (qd f53) := ⟨func53, by kernel_rfl, rfl⟩
def pol37 : Pol := { own := [5] }
theorem e37 (l : List Int) : evF prog [] [] pol37 f53 [.lst 1 (.ints .i64 l)] [] qo =
 Tr.br false (.ok (.ret .nil [])) (.br (Nat.ble 0 (0 : Nat) && ((0 : Nat) + l.length).ble 4294967296) (.br (((0 : Nat) + l.length).ble (List.take (0 : Nat) (List.drop (0 : Nat) []) ++ l).length) (.ok (.ret (.fr 1 (.ints .i64 (List.take ((0 : Nat) + l.length) (List.drop (0 : Nat) (List.take (0 : Nat) (List.drop (0 : Nat) []) ++ l))))) [])) (.no 15)) (.no 4002)) := by kernel_rfl
end
section
open Go
set_option maxRecDepth 100000
variable {G : World -> (Nat -> Prop) -> Prop} (hG : GOk G)
def OV : Orc := [(19, g21), (36, g27), (56, g29), (65, g43), (152, g133), (153, g134)]
def g41 : Spec := evF Tryd.prog OV [] {} Tryd.f38
def g42 : Spec := evF Tryd.prog OV [] {} Tryd.f39
end
section
open Go
set_option maxRecDepth 100000
variable {G : World -> (Nat -> Prop) -> Prop} (hG : GOk G)
structure Fr where
 x : Rat
 y : Rat
 h : Bool
 t : Rat
def qf (qs : List Rat) (i : Nat) : Rat := qs.getD i 0
section
variable (qs : List Rat) (n : Nat) (lk : Nat -> Lk) (b : Fr)
end
theorem frs_le0 (e n : Nat) (f : Nat -> PV) (vs : List PV) (hl : vs.length = n) (h : ∀ (i : Nat) (v : PV), vs[i]? = some v -> noRef 8 v = true /\ VLe v (f i)) :
  RLe (.tup [.fr e (.vals vs), .i .i64 0]) (.tup [.fr e (.fn n f), .i .i64 0]) := by
 subst hl
 exact ⟨fun m => .refl _, fun m => KsLe.one (KLe.fn rfl h)⟩
section
variable (qs : List Rat) (n : Nat) (lk : Nat -> Lk) (b : Fr)
end
end
section
open Go
set_option maxRecDepth 100000
variable {G : World -> (Nat -> Prop) -> Prop} (hG : GOk G)
theorem cf0_eq (l h : Rat) (k : Int) : cf0 l h k = l + (h - l) * (k : Rat) / 8 := by
 have d1 : 0 < (l.den : Int) := by have := l.den_pos; omega
 have d2 : 0 < (h.den : Int) := by have := h.den_pos; omega
 have e1 : (((8 : Int) * (l.den : Int) * (h.den : Int)).toNat : Int) = 8 * (l.den : Int) * (h.den : Int) := Int.toNat_of_nonneg (Int.le_of_lt (Int.mul_pos (by omega) d2))
 have r1 : (l.den : Rat) ≠ 0 := by have := l.den_nz; exact_mod_cast this
 have r2 : (h.den : Rat) ≠ 0 := by have := h.den_nz; exact_mod_cast this
 have hl := (Rat.mkRat_eq_div l.num l.den).symm.trans (Rat.mkRat_self l)
 have hh := (Rat.mkRat_eq_div h.num h.den).symm.trans (Rat.mkRat_self h)
 unfold cf0
 rw [Rat.mkRat_eq_div]
 have e2 : ((((8 : Int) * (l.den : Int) * (h.den : Int)).toNat : Nat) : Rat) = 8 * (l.den : Rat) * (h.den : Rat) := by
  have : ((((8 : Int) * (l.den : Int) * (h.den : Int)).toNat : Int) : Rat) = ((8 * (l.den : Int) * (h.den : Int) : Int) : Rat) := by rw [e1]
  push_cast at this
  exact this
 rw [e2]
 push_cast
 generalize (l.num : Rat) = n at *
 generalize (h.num : Rat) = m at *
 generalize (l.den : Rat) = d at *
 generalize (h.den : Rat) = e at *
 rw [<- hl, <- hh]
 grind
theorem cf0_in {l h : Rat} {k : Int} (hlh : l <= h) (h0 : 0 <= k) (h8 : k <= 8) : l <= cf0 l h k /\ cf0 l h k <= h := by
 have k0 : (0 : Rat) <= (k : Rat) := by exact_mod_cast h0
 have k8 : (k : Rat) <= 8 := by exact_mod_cast h8
 have p0 : 0 <= (h - l) * (k : Rat) := Rat.mul_nonneg (by grind) k0
 have p1 : 0 <= (h - l) * (8 - (k : Rat)) := Rat.mul_nonneg (by grind) (by grind)
 have p2 : (h - l) * (8 - (k : Rat)) = 8 * (h - l) - (h - l) * (k : Rat) := by grind
 rw [p2] at p1
 rw [cf0_eq]
 generalize (h - l) * (k : Rat) = p at *
 exact ⟨by grind, by grind⟩
theorem getD_map_range (f : Nat -> Rat) {n j : Nat} (h : j < n) : ((List.range n).map f).getD j 0 = f j := by
 rw [List.getD_eq_getElem?_getD, List.getElem?_map, List.getElem?_range h]; rfl
theorem fitB_iff {A : Am} {qs : List Rat} : fitB A qs = true ↔ ∀ j, j < A.n -> (A.lk j).low <= qs.getD j 0 /\ qs.getD j 0 <= (A.lk j).high := by
 simp [fitB, fit1]
theorem cfL_fit {A : Am} {m : PV} (h : armB A = true) : fitB A (cfL A.lk m A.n) = true := by
 obtain ⟨-, -, -, -, -, -, h7⟩ := armB_c h
 refine fitB_iff.2 fun j hj => ?_
 unfold cfL
 rw [getD_map_range _ hj]
 have g := qD (itRs j m) (show (0 : Int) < 9 by omega)
 exact cf0_in (Rat.le_of_lt (lkB_c (h7 j hj)).2.2.2.2.2.2.1) g.1 (by omega)
theorem limX_V (v : PV) : limX (armD v) = true := by
 refine List.all_eq_true.2 fun j _ => ?_
 rw [kD]
 have small : ∀ (n : Int), n.natAbs < 1000 -> smX (mkRat n (Int.toNat 3)) = true := fun n hn => smX_iff.2 ⟨Nat.lt_of_le_of_lt (mkRat_num_le n (by decide)) hn, Nat.lt_of_le_of_lt (mkRat_den_le n (by decide)) (by decide)⟩
 have g1 := qD (rs (itR6 j (rs (rs (rs v))))) (show (0 : Int) < 6 by omega)
 have g2 := qD (rs (rs (itR6 j (rs (rs (rs v)))))) (show (0 : Int) < 6 by omega)
 exact ⟨small _ (by omega), small _ (by omega)⟩
def R6 : Orc := [(36, g27), (38, g41), (39, g42), (65, g43)]
theorem cst_t {P : Program} {G : World -> (Nat -> Prop) -> Prop} {g : Nat} {as' : List PV} {r : PV} (h : PC P G g as' [] r []) : qc P G g (cst as' True r) := cst_ok fun _ => h
end
section
open Go
end
section
open Go
set_option maxRecDepth 100000
variable {G : World -> (Nat -> Prop) -> Prop} (hG : GOk G)
theorem ArgsLe.ofL : ∀ {us vs : List PV}, VLeL us vs -> ArgsLe us vs
 | [], [], _ => .nil
 | [], v :: vs, h => by have := h.1; simp at this
 | u :: us, [], h => by have := h.1; simp at this
 | u :: us, v :: vs, h => .cons (h.2 0 u v rfl rfl) (ArgsLe.ofL ⟨by have := h.1; simpa using this, fun j a b e1 e2 => h.2 (j + 1) a b e1 e2⟩)
theorem VLe.tup {us vs : List PV} (h : VLeL us vs) : VLe (.tup us) (.tup vs) := by
 refine ⟨rfl, fun w S μ => ⟨fun cs hc => (by cases hc), fun x hx => ?_⟩⟩
 cases hx with
 | cell _ _ _ _ hc => cases hc
 | agg _ _ _ hv _ => cases hv
 | tup _ _ xs hl => exact .tup _ _ _ (ArgsLe.ofL h w S μ xs hl)
end
section
open Go
set_option maxRecDepth 100000
structure Sp where
 lo : Rat
 hi : Rat
 ok : lo <= hi
def Sp.has (s : Sp) (x : Rat) : Prop := s.lo <= x /\ x <= s.hi
def subS (A B : Sp) : Sp := ⟨A.lo - B.hi, A.hi - B.lo, by have := A.ok; have := B.ok; grind⟩
structure Lz where
 X : Sp
 Y : Sp
 C : Sp
 S : Sp
end
section
open Go
set_option maxRecDepth 100000
variable {G : World -> (Nat -> Prop) -> Prop} (hG : GOk G)
def armQ (A : Am) (n : Nat) : PV := .agg [.s A.name, .agg [.agg [.q A.bx 64, .q A.by_ 64], .agg [.bl false, .q A.t 64]], .lst 16 (.fn n (fun j => lkPV (A.lk j)))]
structure Pg where
 n : Nat
 u : Nat -> Rat
 v : Nat -> Rat
def rl (x y : Rat) : Bool := decide (rcmp x y <= (0 : Int))
def c71 : Spec := fun args hs K => match args, hs with
 | [.i .i64 n], [] => .br (decide (-1000000000 < n) && decide (n < 1000000000)) (K (.q (n : Rat) 64) []) (.no 1)
 | _, _ => .no 1
include hG in
theorem ck71 : qc Tryd.prog G 63 c71 := by
 intro args hs K x h
 unfold c71 at h
 split at h
 case h_2 => cases h
 rename_i n
 obtain ⟨hc, hr⟩ := k9 h
 simp only [kD, kE] at hc
 refine ⟨_, _, (pc_spec (gk71 hG) (args := [.i .i64 n]) (r := .q (n : Rat) (Nat.log2 n.natAbs + 1)) (hs' := []) ?_).le (q_rle rfl ?_) (.refl _), hr⟩
 ·show (Tr.br _ _ _).run = _
  rw [k5 (by simp only [kD, kE]; omega)]
  rfl
 ·have h1 : n.natAbs < 2 ^ 63 := by omega
  by_cases h0 : n.natAbs = 0
  ·rw [h0]; decide
  ·have := (Nat.log2_lt h0).2 h1
   omega
def nz72 (y : Rat) : Prop := ¬ y = 0
def c72 : Spec := fun args hs K => match args, hs with
 | [.q x n, .q y m], [] => .br (qj (nz72 y)) (.br (Nat.ble (n + m) 800000) (K (.tup [.q (x / y) (n + m), .i .i64 0]) []) (.no 1)) (.no 1)
 | _, _ => .no 1
include hG in
theorem ck72 (hT : TabG G) : qc Tryd.prog G 64 c72 := by
 intro args hs K x h
 unfold c72 at h
 split at h
 case h_2 => cases h
 rename_i x n y m
 obtain ⟨hc, hr⟩ := k9 h
 obtain ⟨hb, hr⟩ := k9 hr
 exact ⟨_, _, pc_spec (gk72 hG hT) ((k5 hb).trans ((k6 (kG (decP_iff.1 hc))).trans rfl)), hr⟩
end
section
open Go Tryd
set_option maxRecDepth 100000
variable {G : World -> (Nat -> Prop) -> Prop} (hG : GOk G)
theorem enMk : Enters prog 74 f74 (qd f74) := ⟨func74, by kernel_rfl, rfl⟩
def hf : Rat := ((1 : Int) : Rat) / ((2 : Int) : Rat)
theorem eMk : (evF prog [(63, g71), (64, c72)] [] {} f74 [.i .i64 1, .i .i64 2] [] qo).run = (Tr.br (qj (nz72 ((2 : Int) : Rat))) (.ok (.ret (.tup [.q hf 3, .i .i64 0]) [])) (.no 1)).run := by kernel_rfl
include hG in
theorem pcMk (hT : TabG G) : PC prog G 74 [.i .i64 1, .i .i64 2] [] (.tup [.q hf 3, .i .i64 0]) [] := by
 refine qq hG (.cons (gk71 hG) (.cons (ck72 hG hT) .nil)) mix enMk (hs := []) (L := []) (pol := {}) (kA (by kernel_rfl)) (eMk.trans ?_)
 rw [k5 (decP_iff.2 (show nz72 ((2 : Int) : Rat) from (by decide : ¬ ((2 : Int) : Rat) = 0))), k7]
theorem enterWh : Enters prog 127 f127 (qd f127) := ⟨func127, by kernel_rfl, rfl⟩
theorem kWh (x : Rat) (n : Nat) (W : Nat) : evF prog [(69, g76 W), (105, h108), (110, h113)] [] {} f127 [.q x n] [] qo =
 Tr.br (bz (qn x) && bz (ql x) && decide ((0 : Nat) < val (ql x))) (.br (qk x) (.br (!decide (rmB (qn x) (ql x) = ByteArray.mk #[])) (.br (bz (quB (qn x) (ql x)) && bz (ByteArray.mk #[(1 : UInt8)])) (.br (qj (M76 (adB (quB (qn x) (ql x)) (ByteArray.mk #[(1 : UInt8)])) (ByteArray.mk #[(1 : UInt8)]) W)) (.ok (.ret (.q (mkq (qk x) (adB (quB (qn x) (ql x)) (ByteArray.mk #[(1 : UInt8)])) (ByteArray.mk #[(1 : UInt8)])) W) [])) (.no 1)) (.no 1)) (.br (qj (M76 (quB (qn x) (ql x)) (ByteArray.mk #[(1 : UInt8)]) W)) (.ok (.ret (.q (mkq (qk x) (quB (qn x) (ql x)) (ByteArray.mk #[(1 : UInt8)])) W) [])) (.no 1))) (.br (qj (M76 (quB (qn x) (ql x)) (ByteArray.mk #[(1 : UInt8)]) W)) (.ok (.ret (.q (mkq (qk x) (quB (qn x) (ql x)) (ByteArray.mk #[(1 : UInt8)])) W) [])) (.no 1))) (.no 1) := by kernel_rfl
def gWh : Spec := fun args hs K => match args, hs with
 | [.q x n], [] => .br (Nat.ble n 790000) (K (.q (x.floor : Rat) (n + 1)) []) (.no 1)
 | _, _ => .no 1
theorem floor_z (x : Rat) : (x.floor : Rat) = if qk x = true /\ x.num.natAbs % x.den ≠ 0 then mkz (qk x) (x.num.natAbs / x.den + 1) 1 else mkz (qk x) (x.num.natAbs / x.den) 1 := by
 have hd := x.den_pos
 have hf : x.floor = x.num / (x.den : Int) := by
  rw [Rat.floor_def]
 rw [hf]
 have e := Nat.div_add_mod x.num.natAbs x.den
 have hm := Nat.mod_lt x.num.natAbs hd
 generalize hq : x.num.natAbs / x.den = q at *
 generalize hr : x.num.natAbs % x.den = r at *
 have hD : (0 : Int) < (x.den : Int) := by omega
 by_cases hn : qk x = true
 ·have hneg : x.num < 0 := of_decide_eq_true hn
  have hx : x.num = -((x.den : Int) * q + r) := by
   have : (x.num.natAbs : Int) = (x.den : Int) * q + r := by rw [<- e]; simp
   omega
  by_cases h0 : r = 0
  ·rw [if_neg (fun h => h.2 h0), hn, mkz_int, hx, h0]
   congr 1
   show -((x.den : Int) * q + (0 : Nat)) / (x.den : Int) = -(q : Int)
   rw [show -((x.den : Int) * q + ((0 : Nat) : Int)) = (x.den : Int) * (-(q : Int)) by simp [Int.mul_neg]]
   exact Int.mul_ediv_cancel_left _ (by omega)
  ·rw [if_pos ⟨hn, h0⟩, hn, mkz_int, hx]
   congr 1
   show -((x.den : Int) * q + r) / (x.den : Int) = -((q + 1 : Nat) : Int)
   rw [show -((x.den : Int) * q + (r : Int)) = ((x.den : Int) - r) + (x.den : Int) * (-(q + 1 : Int)) by rw [Int.mul_neg, Int.mul_add]; omega]
   rw [Int.add_mul_ediv_left _ _ (by omega), Int.ediv_eq_zero_of_lt (by omega) (by omega)]
   omega
 ·have hnn : 0 <= x.num := by
   have : ¬ x.num < 0 := fun h => hn (kF h)
   omega
  rw [if_neg (fun h => hn h.1), show qk x = false by simpa using hn, mkz_int]
  congr 1
  have hx : x.num = (x.den : Int) * q + r := by
   have : (x.num.natAbs : Int) = (x.den : Int) * q + r := by rw [<- e]; simp
   omega
  show x.num / (x.den : Int) = (q : Int)
  rw [hx, Int.add_comm, Int.add_mul_ediv_left _ _ (by omega), Int.ediv_eq_zero_of_lt (by omega) (by omega)]
  omega
theorem one1 : (⟨#[1]⟩ : ByteArray) = nb 1 := by kernel_rfl
theorem emp0 : (⟨#[]⟩ : ByteArray) = nb 0 := by kernel_rfl
theorem M76_nb {a d W : Nat} (h0 : 0 < d) (ha : a < 2 ^ W) (hd : d < 2 ^ W) (h1 : 0 < W) (h8 : W <= 800000) : qj (M76 (nb a) (nb d) W) = true :=
 decP_iff.2 ⟨by rw [qy], by rw [qy], by rw [qy]; exact h0, by rw [qy]; exact ha, by rw [qy]; exact hd, h1, h8⟩
include hG in
theorem gkWh (hT : TabG G) : qc prog G 127 gWh := by
 intro args hs K y h
 unfold gWh at h
 split at h
 case h_2 => cases h
 rename_i x n
 obtain ⟨hc, hr⟩ := k9 h
 rw [kH] at hc
 refine ⟨_, _, ?_, hr⟩
 refine pc_assume _ q1_sz fun hq => ?_
 obtain ⟨s1, s2, s3⟩ := sz_lt hq
 have hd := x.den_pos
 have p1 : 2 ^ n < 2 ^ (n + 1) := Nat.pow_lt_pow_right (by omega) (by omega)
 have p0 : 1 < 2 ^ (n + 1) := Nat.lt_of_le_of_lt (Nat.one_le_two_pow) p1
 have hqle : x.num.natAbs / x.den <= x.num.natAbs := Nat.div_le_self _ _
 refine qq hG (.cons (gk76 hG hT (n + 1)) (.cons (hk108 hG) (.cons (hk113 hG) .nil))) mix enterWh (L := []) (pol := {}) (kA (by kernel_rfl)) ?_
 rw [kWh x n (n + 1)]
 simp only [rnum_eq, rden_eq, one1, emp0, quB_nb, rmB_nb, adB_nb, val_nb, mkq_nb]
 rw [floor_z]
 have b0 : (bz (nb x.num.natAbs) && bz (nb x.den) && decide (0 < x.den)) = true := by
  rw [qx s1 (by omega), qx s2 (by omega), kF hd]; rfl
 have b1 : (bz (nb (x.num.natAbs / x.den)) && bz (nb 1)) = true := by
  rw [qx (k := x.num.natAbs / x.den) (n := n) (by omega) (by omega), qx (k := 1) (n := n + 1) p0 (by omega)]; rfl
 have m1 : qj (M76 (nb (x.num.natAbs / x.den)) (nb 1) (n + 1)) = true := M76_nb (by omega) (by omega) p0 (by omega) (by omega)
 have m2 : qj (M76 (nb (x.num.natAbs / x.den + 1)) (nb 1) (n + 1)) = true := M76_nb (by omega) (by omega) p0 (by omega) (by omega)
 have nbz : ∀ k : Nat, (nb k = nb 0) ↔ k = 0 := fun k => ⟨fun h => by have := congrArg (fun b : ByteArray => bv b.data.toList) h; simpa [qy] using this, fun h => by rw [h]⟩
 rw [k5 b0]
 cases hn : qk x with
 | false =>
  rw [k6 rfl, k5 m1, if_neg (by simp), k7]
 | true =>
  rw [k5 rfl]
  by_cases h0 : x.num.natAbs % x.den = 0
  ·rw [k6 (by rw [kF ((nbz _).2 h0)]; rfl), k5 m1, if_neg (fun h => h.2 h0), k7]
  ·rw [k5 (by rw [kG (fun h => h0 ((nbz _).1 h))]; rfl), k5 b1, k5 m2, if_pos ⟨rfl, h0⟩, k7]
end
section
open Go
set_option maxRecDepth 100000
theorem nn_of_mul {x s : Rat} (hs : 0 < s) (h : 0 <= x * s) : 0 <= x := by
 by_cases h1 : x < 0
 ·have := Rat.mul_pos (show 0 < -x by grind) hs
  grind
 ·exact Rat.not_lt.1 h1
theorem rabs_mono {x y : Rat} (h : (0 <= y - x /\ 0 <= y + x) \/ (0 <= -y - x /\ 0 <= -y + x)) : rabs x <= rabs y := by
 unfold rabs
 split <;> split <;> grind
theorem part_01 {lo hi q : Rat} (hd : lo < hi) (h1 : lo <= q) (h2 : q <= hi) : 0 <= (q - lo) / (hi - lo) /\ (q - lo) / (hi - lo) <= 1 := by
 have hu : (q - lo) / (hi - lo) * (hi - lo) = q - lo := Rat.div_mul_cancel (by grind)
 generalize (q - lo) / (hi - lo) = u at *
 have a := nn_of_mul (x := u) (s := hi - lo) (by grind) (by grind)
 have b := nn_of_mul (x := 1 - u) (s := hi - lo) (by grind) (by grind)
 exact ⟨a, by grind⟩
theorem near_bd {s : Int} {h u : Rat} (hs : 0 <= s) (hh : h + h = 1) (u0 : 0 <= u) (u1 : u <= 1) : -s <= (h - u * (s : Rat)).floor /\ (h - u * (s : Rat)).floor <= 0 := by
 have hS : (0 : Rat) <= (s : Rat) := Rat.intCast_le_intCast.2 hs
 have m1 := Rat.mul_nonneg u0 hS
 have m2 := Rat.mul_nonneg (show 0 <= 1 - u by grind) hS
 have c1 : ((-s : Int) : Rat) = -(s : Rat) := Rat.intCast_neg s
 refine ⟨Rat.le_floor_iff.2 (by rw [c1]; grind), ?_⟩
 have : (h - u * (s : Rat)).floor < 1 := Rat.floor_lt_iff.2 (by show h - u * (s : Rat) < 1; grind)
 omega
theorem near_key {s k j : Int} {lo hi q h : Rat} (hs : 1 <= s) (hd : lo < hi) (hh : h + h = 1) (hk : k = 0 - (h - (q - lo) / (hi - lo) * (s : Rat)).floor) :
  rabs (lo + (hi - lo) * ((k : Rat) / (s : Rat)) - q) <= rabs (lo + (hi - lo) * ((j : Rat) / (s : Rat)) - q) := by
 have hu : (q - lo) / (hi - lo) * (hi - lo) = q - lo := Rat.div_mul_cancel (by grind)
 generalize (q - lo) / (hi - lo) = u at *
 have hS : (1 : Rat) <= (s : Rat) := by
  have := Rat.intCast_le_intCast.2 hs
  exact this
 have ha : (k : Rat) / (s : Rat) * (s : Rat) = (k : Rat) := Rat.div_mul_cancel (by grind)
 have hb : (j : Rat) / (s : Rat) * (s : Rat) = (j : Rat) := Rat.div_mul_cancel (by grind)
 generalize (k : Rat) / (s : Rat) = a at *
 generalize (j : Rat) / (s : Rat) = b at *
 have f1 := Rat.floor_le (h - u * (s : Rat))
 have f2 := Rat.lt_floor_add_one (h - u * (s : Rat))
 generalize (h - u * (s : Rat)).floor = m at *
 have km : (k : Rat) = -(m : Rat) := by
  rw [hk, show (0 : Int) - m = -m by omega]
  exact Rat.intCast_neg m
 have m1 : ((m + 1 : Int) : Rat) = (m : Rat) + 1 := Rat.intCast_add m 1
 rw [m1] at f2
 have e1 : lo + (hi - lo) * a - q = (hi - lo) * (a - u) := by grind
 have e2 : lo + (hi - lo) * b - q = (hi - lo) * (b - u) := by grind
 rw [e1, e2]
 have hD : 0 <= hi - lo := by grind
 have sp : (0 : Rat) < (s : Rat) := by grind
 have fin : ((0 <= (b - u) - (a - u) /\ 0 <= (b - u) + (a - u)) \/ (0 <= -(b - u) - (a - u) /\ 0 <= -(b - u) + (a - u))) -> rabs ((hi - lo) * (a - u)) <= rabs ((hi - lo) * (b - u)) := by
  intro h
  refine rabs_mono ?_
  rcases h with ⟨x, y⟩ | ⟨x, y⟩
  ·have p := Rat.mul_nonneg hD x
   have r := Rat.mul_nonneg hD y
   exact .inl ⟨by grind, by grind⟩
  ·have p := Rat.mul_nonneg hD x
   have r := Rat.mul_nonneg hD y
   exact .inr ⟨by grind, by grind⟩
 rcases (show j <= k - 1 \/ j = k \/ k + 1 <= j by omega) with hj | hj | hj
 ·have c : (j : Rat) <= (k : Rat) - 1 := by
   have := Rat.intCast_le_intCast.2 hj
   rwa [Rat.intCast_sub] at this
  exact fin (.inr ⟨nn_of_mul sp (by grind), nn_of_mul sp (by grind)⟩)
 ·have : a = b := by
   have e : (a - b) * (s : Rat) = 0 := by rw [hj] at hb; grind
   have x1 := nn_of_mul (x := a - b) sp (by grind)
   have x2 := nn_of_mul (x := b - a) sp (by grind)
   grind
  rw [this]
  exact Rat.le_refl
 ·have c : (k : Rat) + 1 <= (j : Rat) := by
   have := Rat.intCast_le_intCast.2 hj
   rwa [Rat.intCast_add] at this
  exact fin (.inl ⟨nn_of_mul sp (by grind), nn_of_mul sp (by grind)⟩)
end
section
open Go
set_option maxRecDepth 100000
variable {G : World -> (Nat -> Prop) -> Prop} (hG : GOk G)
structure TrC (m n : Nat) (tk : Nat -> Int) (qs : Nat -> List Rat) : Prop where
 n1 : 1 <= n
 n60 : n <= 60
 m1 : 1 <= m
 m3 : m <= 3
 len : ∀ j, j < n -> (qs j).length = m
 rng : ∀ j, j < n -> -50000 <= tk j /\ tk j <= 50000
 inc : ∀ j, j + 1 < n -> tk j < tk (j + 1)
theorem TrC.mono {m n : Nat} {tk : Nat -> Int} {qs : Nat -> List Rat} (h : TrC m n tk qs) : ∀ d j, j + d < n -> tk j <= tk (j + d)
 | 0, j, _ => Int.le_refl _
 | d + 1, j, hj => by
  have := TrC.mono h d j (by omega)
  have := h.inc (j + d) (by omega)
  rw [show j + (d + 1) = j + d + 1 by omega]
  omega
end
section
open Go Tryd
set_option maxRecDepth 100000
variable {G : World -> (Nat -> Prop) -> Prop} (hG : GOk G)
def b35w : Code := (qh (qd f92)).getD 0 .skip
def R35w : Orc := [(36, g27)]
def O35w (A : Am) (n : Int) : Orc := [(36, g27), (116, cst [qt A, .i .i64 n] True (.i .i64 0))]
def st35w (w : Nat) (qs : List Rat) (n : Nat) (lk : Nat -> Lk) (e i : Int) : LS := ⟨[.lst 3 (.rats w qs), .i .i64 e, .lst 16 (.fn n (fun j => lkPV (lk j))), .i .i64 n, .i .i64 i], []⟩
theorem r35w (w : Nat) (qs : List Rat) (n : Nat) (lk : Nat -> Lk) (e i : Int) : qe prog R35w [] pol35 f92.ntmps 0 [1, 4, 16, 17, 18] b35w (st35w w qs n lk e i) =
 Tr.br (decide (i < (n : Int))) (.br (ix (i) ((n : Int))) (.br (ix (i) ((qs.length : Int))) (.br ((w + 64).ble 800000) (.br (decide (rcmp (qs.getD i.toNat 0) (lk i.toNat).low < 0)) (.ok (.out .ret (LS.mk [.lst 3 (.rats w qs), .i .i64 17, .lst 16 (.fn n fun (j : Nat) => .agg [.q (lk j).len 64, .q (lk j).low 64, .q (lk j).high 64, .q (lk j).spd 64, .q (lk j).brk 64, .lst 6 (.fn (lk j).np fun (a : Nat) => .agg [.q ((lk j).px a) 64, .q ((lk j).py a) 64])]), .i .i64 (n : Int), .i .i64 i] []))) (.br (ix (i) ((qs.length : Int))) (.br ((w + 64).ble 800000) (.br (decide ((0 : Int) < rcmp (qs.getD i.toNat 0) (lk i.toNat).high)) (.ok (.out .ret (LS.mk [.lst 3 (.rats w qs), .i .i64 17, .lst 16 (.fn n fun (j : Nat) => .agg [.q (lk j).len 64, .q (lk j).low 64, .q (lk j).high 64, .q (lk j).spd 64, .q (lk j).brk 64, .lst 6 (.fn (lk j).np fun (a : Nat) => .agg [.q ((lk j).px a) 64, .q ((lk j).py a) 64])]), .i .i64 (n : Int), .i .i64 i] []))) (.br (ib (i + 1)) (.ok (.out .normal (LS.mk [.lst 3 (.rats w qs), .i .i64 e, .lst 16 (.fn n fun (j : Nat) => .agg [.q (lk j).len 64, .q (lk j).low 64, .q (lk j).high 64, .q (lk j).spd 64, .q (lk j).brk 64, .lst 6 (.fn (lk j).np fun (a : Nat) => .agg [.q ((lk j).px a) 64, .q ((lk j).py a) 64])]), .i .i64 (n : Int), .i .i64 (i + 1)] []))) (.no 10002))) (.no 1)) (.no 8007))) (.no 1)) (.no 8016)) (.no 7005)) (.ok (.out (.exit 0) (LS.mk [.lst 3 (.rats w qs), .i .i64 e, .lst 16 (.fn n fun (j : Nat) => .agg [.q (lk j).len 64, .q (lk j).low 64, .q (lk j).high 64, .q (lk j).spd 64, .q (lk j).brk 64, .lst 6 (.fn (lk j).np fun (a : Nat) => .agg [.q ((lk j).px a) 64, .q ((lk j).py a) 64])]), .i .i64 (n : Int), .i .i64 i] []))) := by kernel_rfl
theorem e35w (w : Nat) (A : Am) (qs : List Rat) (n e i : Int) (x : Exit) : evF prog (O35w A qs.length) [(5, lcst (st35w w qs A.n A.lk 0 0) (.exit 0) (st35w w qs A.n A.lk 0 i))] pol35 f92 [qt A, .lst 3 (.rats w qs)] [] qo =
 Tr.br (qj (isA [qt A, .i .i64 (qs.length : Int)] True [qt A, .i .i64 (qs.length : Int)])) (.br (!decide ((0 : Int) = 0)) (.ok (.ret (.i .i64 0) [])) (.br (qj (isLS (LS.mk [.lst 3 (.rats w qs), .i .i64 0, .lst 16 (.fn A.n fun (j : Nat) => .agg [.q (A.lk j).len 64, .q (A.lk j).low 64, .q (A.lk j).high 64, .q (A.lk j).spd 64, .q (A.lk j).brk 64, .lst 6 (.fn (A.lk j).np fun (a : Nat) => .agg [.q ((A.lk j).px a) 64, .q ((A.lk j).py a) 64])]), .i .i64 (A.n : Int), .i .i64 0] []) (LS.mk [.lst 3 (.rats w qs), .i .i64 0, .lst 16 (.fn A.n fun (j : Nat) => .agg [.q (A.lk j).len 64, .q (A.lk j).low 64, .q (A.lk j).high 64, .q (A.lk j).spd 64, .q (A.lk j).brk 64, .lst 6 (.fn (A.lk j).np fun (a : Nat) => .agg [.q ((A.lk j).px a) 64, .q ((A.lk j).py a) 64])]), .i .i64 (A.n : Int), .i .i64 0] []))) (.ok (.ret (.i .i64 0) [])) (.no 1))) (.no 1) := by kernel_rfl
theorem e35b (w : Nat) (A : Am) (qs : List Rat) (n e i : Int) (x : Exit) : evF prog (O35w A qs.length) [(5, lcst (st35w w qs A.n A.lk 0 0) .ret (st35w w qs A.n A.lk 17 i))] pol35 f92 [qt A, .lst 3 (.rats w qs)] [] qo =
 Tr.br (qj (isA [qt A, .i .i64 (qs.length : Int)] True [qt A, .i .i64 (qs.length : Int)])) (.br (!decide ((0 : Int) = 0)) (.ok (.ret (.i .i64 0) [])) (.br (qj (isLS (LS.mk [.lst 3 (.rats w qs), .i .i64 0, .lst 16 (.fn A.n fun (j : Nat) => .agg [.q (A.lk j).len 64, .q (A.lk j).low 64, .q (A.lk j).high 64, .q (A.lk j).spd 64, .q (A.lk j).brk 64, .lst 6 (.fn (A.lk j).np fun (a : Nat) => .agg [.q ((A.lk j).px a) 64, .q ((A.lk j).py a) 64])]), .i .i64 (A.n : Int), .i .i64 0] []) (LS.mk [.lst 3 (.rats w qs), .i .i64 0, .lst 16 (.fn A.n fun (j : Nat) => .agg [.q (A.lk j).len 64, .q (A.lk j).low 64, .q (A.lk j).high 64, .q (A.lk j).spd 64, .q (A.lk j).brk 64, .lst 6 (.fn (A.lk j).np fun (a : Nat) => .agg [.q ((A.lk j).px a) 64, .q ((A.lk j).py a) 64])]), .i .i64 (A.n : Int), .i .i64 0] []))) (.ok (.ret (.i .i64 17) [])) (.no 1))) (.no 1) := by kernel_rfl
include hG in
theorem pc85 (A : Am) (hA : armB A = true) (k : Nat) (hk : k = A.n) : PC prog G 116 [qt A, .i .i64 (k : Nat)] [] (.i .i64 0) [] := by
 obtain ⟨r, hs', p, e⟩ := ok85 hG [qt A, .i .i64 (k : Nat)] [] (fun r hs' => .ok (.ret r hs')) (.ret (.i .i64 0) []) (by
  show (Tr.br _ _ _).run = _
  rw [k5 (decP_iff.2 ⟨_, A, by rw [hk], .refl _, hA⟩)]; rfl)
 cases e
 exact p
include hG in
theorem orcR35 (hT : TabG G) : OrcOK prog G R35w := .cons (gk27 hG hT) .nil
include hG in
theorem pc35w (hT : TabG G) (w : Nat) (hw : w <= 100000) (A : Am) (hA : armB A = true) (qs : List Rat) (hl : qs.length = A.n) : PC prog G 92 [qt A, .lst 3 (.rats w qs)] [] (.i .i64 (if fitB A qs = true then 0 else 17)) [] := by
 obtain ⟨h1, h2, h3, h4, h5, h6, h7⟩ := armB_c hA
 have hstep : ∀ j, j < A.n -> fit1 A.lk qs j = true -> Rnd prog G f92.ntmps 0 [1, 4, 16, 17, 18] b35w (st35w w qs A.n A.lk 0 ((j : Nat) : Int)) .normal (st35w w qs A.n A.lk 0 ((j + 1 : Nat) : Int)) := by
  intro j hj hf
  refine qb hG (orcR35 hG hT) mix (L := []) (pol := pol35) (O := R35w) (kA (by kernel_rfl)) (Nat.zero_le _) ?_
  simp only [fit1, kD, kE] at hf
  rw [r35w, Int.toNat_natCast, k5 (kF (by omega)), k5 (by simp only [kD, kE]; omega), k5 (by simp only [kD, kE]; omega), k5 (by rw [kH]; omega), k6 (kG (by rw [rcmp_lt]; exact Rat.not_lt.2 hf.1)),
   k5 (by simp only [kD, kE]; omega), k5 (by rw [kH]; omega), k6 (kG (by rw [rcmp_gt]; exact Rat.not_lt.2 hf.2)), k5 (by simp only [kD, kE]; omega), k7]
  rfl
 have hbad : ∀ j, j < A.n -> fit1 A.lk qs j = false -> Rnd prog G f92.ntmps 0 [1, 4, 16, 17, 18] b35w (st35w w qs A.n A.lk 0 ((j : Nat) : Int)) .ret (st35w w qs A.n A.lk 17 ((j : Nat) : Int)) := by
  intro j hj hf
  refine qb hG (orcR35 hG hT) mix (L := []) (pol := pol35) (O := R35w) (kA (by kernel_rfl)) (Nat.zero_le _) ?_
  simp only [fit1, Bool.and_eq_false_iff, kM] at hf
  rw [r35w, Int.toNat_natCast, k5 (kF (by omega)), k5 (by simp only [kD, kE]; omega), k5 (by simp only [kD, kE]; omega), k5 (by rw [kH]; omega)]
  by_cases h1 : (A.lk j).low <= qs.getD j 0
  ·rw [k6 (kG (by rw [rcmp_lt]; exact Rat.not_lt.2 h1)),
    k5 (by simp only [kD, kE]; omega), k5 (by rw [kH]; omega), k5 (kF (by rw [rcmp_gt]; exact Rat.not_le.1 (hf.resolve_left (fun h => h h1)))), k7]
   rfl
  ·rw [k5 (kF (by rw [rcmp_lt]; exact Rat.not_le.1 h1)), k7]
   rfl
 have hend : Rnd prog G f92.ntmps 0 [1, 4, 16, 17, 18] b35w (st35w w qs A.n A.lk 0 ((A.n : Nat) : Int)) (.exit 0) (st35w w qs A.n A.lk 0 ((A.n : Nat) : Int)) := by
  refine qb hG (orcR35 hG hT) mix (L := []) (pol := pol35) (O := R35w) (kA (by kernel_rfl)) (Nat.zero_le _) ?_
  rw [r35w, k6 (kG (by omega)), k7]
  rfl
 obtain ⟨g1, g2⟩ := Goes.search (fun j => st35w w qs A.n A.lk 0 ((j : Nat) : Int)) (fun j => st35w w qs A.n A.lk 17 ((j : Nat) : Int)) (fit1 A.lk qs) A.n (by simp) (by simp) hstep hbad hend A.n 0 (by omega)
 have oc : OrcOK prog G (O35w A qs.length) := .cons (gk27 hG hT) (.cons (cst_t (pc85 hG A hA qs.length hl)) .nil)
 cases hall : fitB A qs with
 | true =>
  rw [if_pos rfl]
  refine qq hG oc mix enter35 (L := [(5, lcst (st35w w qs A.n A.lk 0 0) (.exit 0) (st35w w qs A.n A.lk 0 (A.n : Nat)))]) (pol := pol35) (lps1 (b := b35w) (live := [1, 4, 16, 17, 18]) (m := 0) (by kernel_rfl) (by kernel_rfl) (by kernel_rfl) (lcst_ok (g1 fun j _ hj => List.all_eq_true.1 hall j (List.mem_range.2 hj)))) ?_
  rw [e35w w A qs 0 0 (A.n : Nat) .ret, k5 (decP_iff.2 ⟨rfl, trivial⟩), k6 (by decide), k5 isLS_t, k7]
 | false =>
  rw [if_neg (by decide)]
  have hn : ¬ ∀ j, 0 <= j -> j < A.n -> fit1 A.lk qs j = true := by
   intro hh
   have : fitB A qs = true := List.all_eq_true.2 fun j hj => hh j (Nat.zero_le _) (List.mem_range.1 hj)
   rw [hall] at this; cases this
  refine qq hG oc mix enter35 (L := [(5, lcst (st35w w qs A.n A.lk 0 0) .ret (st35w w qs A.n A.lk 17 ((fbad (fit1 A.lk qs) A.n 0 : Nat) : Int)))]) (pol := pol35) (lps1 (b := b35w) (live := [1, 4, 16, 17, 18]) (m := 0) (by kernel_rfl) (by kernel_rfl) (by kernel_rfl) (lcst_ok (g2 hn))) ?_
  rw [e35b w A qs 0 0 _ .ret, k5 (decP_iff.2 ⟨rfl, trivial⟩), k6 (by decide), k5 isLS_t, k7]
theorem enIt : Enters prog 128 f128 (qd f128) := ⟨func128, by kernel_rfl, rfl⟩
theorem enFl : Enters prog 97 f97 (qd f97) := ⟨func97, by kernel_rfl, rfl⟩
theorem eIt (k : Nat) : (evF prog [(111, s114), (113, s116)] [] {} f128 [.s (nb k)] [] qo).run =
  (Tr.br (decide ((8 : Int) < ((nb (bv (nb k).data.toList)).size : Int))) (.ok (.ret (.tup [.i .i64 0, .i .i64 2]) [])) (.br (Nat.ble (nb (bv (nb k).data.toList)).size 8) (.br (decide (9223372036854775807 < (bv (nb (bv (nb k).data.toList)).data.toList : Int))) (.ok (.ret (.tup [.i .i64 0, .i .i64 2]) [])) (.br (Nat.ble (nb (bv (nb k).data.toList)).size 8) (.ok (.ret (.tup [.i .i64 (IntKind.i64.wrap (bv (nb (bv (nb k).data.toList)).data.toList : Int)), .i .i64 0]) [])) (.no 1))) (.no 1))).run := by kernel_rfl
def isNb (a : ByteArray) : Prop := ∃ k, a = nb k /\ k < 72057594037927936
def gIt : Spec := fun args hs K => match args, hs with
 | [.s a], [] => .br (qj (isNb a)) (K (.tup [.i .i64 (bv a.data.toList), .i .i64 0]) []) (.no 1)
 | _, _ => .no 1
include hG in
theorem gkIt : qc prog G 128 gIt := by
 intro args hs K x h
 unfold gIt at h
 split at h
 case h_2 => cases h
 obtain ⟨hc, hr⟩ := k9 h
 obtain ⟨k, rfl, hk⟩ := decP_iff.1 hc
 refine ⟨_, _, qq hG (.cons (ok114 hG) (.cons (ok116 hG) .nil)) mix enIt (hs := []) (L := []) (pol := {}) (kA (by kernel_rfl)) ((eIt k).trans ?_), hr⟩
 simp only [qy]
 have h1 := nb_size_le (k := 7) (show k < 256 ^ 7 by omega)
 rw [k6 (kG (by omega)), k5 (by rw [kH]; omega), k6 (kG (by omega)), k5 (by rw [kH]; omega), k7]
 have hw : IntKind.i64.wrap (k : Int) = (k : Int) := by
  exact wi64 (by omega) (by omega)
 rw [hw]
theorem eFl (x : Rat) (n : Nat) : (evF prog [(67, g74), (127, gWh), (128, gIt)] [] {} f97 [.q x n] [] qo).run =
  (Tr.br (Nat.ble n 800000) (.br (Nat.ble n 790000) (.br (qj (isNb (qn (x.floor : Rat)))) (.br (qk (x.floor : Rat)) (.br (ovf (0 - (bv (qn (x.floor : Rat)).data.toList : Int))) (.ok (.ret (.tup [.i .i64 (0 - (bv (qn (x.floor : Rat)).data.toList : Int)), .i .i64 0]) [])) (.no 1)) (.ok (.ret (.tup [.i .i64 (bv (qn (x.floor : Rat)).data.toList : Int), .i .i64 0]) []))) (.no 1)) (.no 1)) (.no 1)).run := by kernel_rfl
def smF (x : Rat) : Prop := -1000000 <= x.floor /\ x.floor <= 1000000
def gFl : Spec := fun args hs K => match args, hs with
 | [.q x n], [] => .br (qj (smF x)) (.br (Nat.ble n 780000) (K (.tup [.i .i64 x.floor, .i .i64 0]) []) (.no 1)) (.no 1)
 | _, _ => .no 1
include hG in
theorem gkFl (hT : TabG G) : qc prog G 97 gFl := by
 intro args hs K y h
 unfold gFl at h
 split at h
 case h_2 => cases h
 rename_i x n
 obtain ⟨hc, hr⟩ := k9 h
 obtain ⟨hb, hr⟩ := k9 hr
 rw [kH] at hb
 obtain ⟨h1, h2⟩ := decP_iff.1 hc
 refine ⟨_, _, qq hG (.cons (gk74 hG hT) (.cons (gkWh hG hT) (.cons (gkIt hG) .nil))) mix enFl (hs := []) (L := []) (pol := {}) (kA (by kernel_rfl)) ((eFl x n).trans ?_), hr⟩
 generalize x.floor = m at *
 have e1 : ((m : Rat)).num = m := rfl
 rw [k5 (by rw [kH]; omega), k5 (by rw [kH]; omega), k5 (decP_iff.2 ⟨m.natAbs, by rw [rnum_eq]; rfl, by omega⟩), rnum_eq, e1, qy]
 by_cases hm : m < 0
 ·rw [k5 (show qk (m : Rat) = true from kF (show ((m : Rat)).num < 0 from hm)), k5 (by simp only [ovf, kD, kE]; omega), k7, show (0 : Int) - (m.natAbs : Int) = m by omega]
 ·rw [k6 (show qk (m : Rat) = false from kG (show ¬ ((m : Rat)).num < 0 from hm)), k7, show ((m.natAbs : Nat) : Int) = m by omega]
def bNr : Code := (qh (qd f52)).getD 0 .skip
def polNr : Pol := { live := [(10, [1, 2, 10, 11, 36, 37, 38])] }
def RNr : Orc := [(56, g29), (63, c71), (64, c72), (65, g43), (97, gFl)]
def nNr (s : Int) (qs : List Rat) (n : Nat) (lk : Nat -> Lk) (i : Int) : LS := ⟨[.i .i64 s, .lst 3 (.rats 64 qs), .nil, .ptr 0 3 0 0 [], .lst 16 (.fn n (fun j => lkPV (lk j))), .i .i64 n, .i .i64 i], [some ⟨3, .vals [.q hf 3]⟩]⟩
def xNr (s : Int) (qs : List Rat) (n : Nat) (lk : Nat -> Lk) (ys : List Int) (i : Int) : LS := ⟨[.i .i64 s, .lst 3 (.rats 64 qs), .sl 0 1 0 ys.length, .ptr 1 3 0 0 [], .lst 16 (.fn n (fun j => lkPV (lk j))), .i .i64 n, .i .i64 i], [some ⟨1, .ints .i64 ys⟩, some ⟨3, .vals [.q hf 3]⟩]⟩
def fN (s : Int) (lo hi q : Rat) : Rat := hf - (q - lo) / (hi - lo) * (s : Rat)
def kN (s : Int) (lo hi q : Rat) : Int := 0 - (fN s lo hi q).floor
def trN (s : Int) (qs : List Rat) (n : Nat) (d : Lk) (i : Int) (c : Bool) (ex nx : LS) : Tr :=
 .br (decide (i < (n : Int))) (.br (decide ((0 : Int) <= i) && decide (i < (n : Int))) (.br (decide ((0 : Int) <= i) && decide (i < (qs.length : Int))) (.br (qj (nz72 (d.high - d.low))) (.br (decide (-1000000000 < s) && decide (s < 1000000000)) (.br (qj (smF (fN s d.low d.high (qs.getD i.toNat 0))))
  (.br (ovf (kN s d.low d.high (qs.getD i.toNat 0))) (.br c (.br (ovf (i + 1)) (.ok (.out .normal nx)) (.no 1)) (.no 1)) (.no 1)) (.no 1)) (.no 1)) (.no 1)) (.no 1)) (.no 1)) (.ok (.out (.exit 0) ex))
theorem tNrN (s : Int) (qs : List Rat) (n : Nat) (lk : Nat -> Lk) (i : Int) : (qe prog RNr [] polNr f52.ntmps 0 [1, 2, 10, 11, 36, 37, 38] bNr (nNr s qs n lk i)).run =
  (trN s qs n (lk i.toNat) i true (nNr s qs n lk i) (xNr s qs n lk [kN s (lk i.toNat).low (lk i.toNat).high (qs.getD i.toNat 0)] (i + 1))).run := by kernel_rfl
theorem tNrX (s : Int) (qs : List Rat) (n : Nat) (lk : Nat -> Lk) (ys : List Int) (i : Int) : (qe prog RNr [] polNr f52.ntmps 0 [1, 2, 10, 11, 36, 37, 38] bNr (xNr s qs n lk ys i)).run =
  (trN s qs n (lk i.toNat) i (Nat.ble ys.length ys.length && Nat.ble (ys.length + 1) 4294967296) (xNr s qs n lk ys i) ⟨[.i .i64 s, .lst 3 (.rats 64 qs), .sl 0 1 0 (ys.length + 1), .ptr 1 3 0 0 [], .lst 16 (.fn n (fun j => lkPV (lk j))), .i .i64 n, .i .i64 (i + 1)], [some ⟨1, .ints .i64 (List.take ys.length (List.drop 0 ys) ++ [kN s (lk i.toNat).low (lk i.toNat).high (qs.getD i.toNat 0)])⟩, some ⟨3, .vals [.q hf 3]⟩]⟩).run := by kernel_rfl
def ONr (A : Am) (s : Int) (qs : List Rat) : Orc := [(74, cst [.i .i64 1, .i .i64 2] True (.tup [.q hf 3, .i .i64 0])), (92, cst [qt A, .lst 3 (.rats 64 qs)] True (.i .i64 0)), (96, cst [qt A, .i .i64 s] True (.i .i64 0))]
theorem eNr (A : Am) (s : Int) (qs : List Rat) (ys : List Int) : (evF prog (ONr A s qs) [(10, lcst (nNr s qs A.n A.lk 0) (.exit 0) (xNr s qs A.n A.lk ys A.n))] polNr f52 [qt A, .i .i64 s, .lst 3 (.rats 64 qs)] [] qo).run =
  (Tr.br (qj (isA [qt A, .i .i64 s] True [qt A, .i .i64 s])) (.br (qj (isA [qt A, .lst 3 (.rats 64 qs)] True [qt A, .lst 3 (.rats 64 qs)])) (.br (qj (isA [.i .i64 1, .i .i64 2] True [.i .i64 1, .i .i64 2])) (.br (qj (isLS (nNr s qs A.n A.lk 0) (nNr s qs A.n A.lk 0))) (.br (Nat.ble ys.length ys.length) (.ok (.ret (.tup [.fr 1 (.ints .i64 (List.take ys.length (List.drop 0 ys))), .i .i64 0]) [])) (.no 1)) (.no 1)) (.no 1)) (.no 1)) (.no 1)).run := by kernel_rfl
theorem enNr : Enters prog 52 f52 (qd f52) := ⟨func52, by kernel_rfl, rfl⟩
theorem enCkR : Enters prog 96 f96 (qd f96) := ⟨func96, by kernel_rfl, rfl⟩
theorem eCkR (A : Am) (s : Int) : (evF prog [(91, cst [qt A] True (.i .i64 0))] [] {} f96 [qt A, .i .i64 s] [] qo).run =
  (Tr.br (qj (isA [qt A] True [qt A])) (.br (decide (s < 1)) (.ok (.ret (.i .i64 1) [])) (.br (decide ((12 : Int) < s)) (.ok (.ret (.i .i64 1) [])) (.ok (.ret (.i .i64 0) [])))) (.no 1)).run := by kernel_rfl
include hG in
theorem pc91 (A : Am) (hA : armB A = true) : PC prog G 91 [qt A] [] (.i .i64 0) [] := by
 obtain ⟨r, hs', p, e⟩ := ok52 hG [qt A] [] (fun r hs' => .ok (.ret r hs')) (.ret (.i .i64 0) []) (by
  show (Tr.br _ _ _).run = _
  rw [k5 (decP_iff.2 ⟨_, A, rfl, .refl _, hA⟩)]; rfl)
 cases e
 exact p
include hG in
theorem pcCkR (A : Am) (hA : armB A = true) (s : Int) (h1 : 1 <= s) (h2 : s <= 12) : PC prog G 96 [qt A, .i .i64 s] [] (.i .i64 0) [] := by
 refine qq hG (.cons (cst_t (pc91 hG A hA)) .nil) mix enCkR (hs := []) (L := []) (pol := {}) (kA (by kernel_rfl)) ((eCkR A s).trans ?_)
 rw [k5 (decP_iff.2 ⟨rfl, trivial⟩), k6 (kG (by omega)), k6 (kG (by omega)), k7]
theorem hf2 : hf + hf = 1 := by kernel_rfl
theorem fN_bd {s : Int} {lo hi q : Rat} (h1 : 1 <= s) (hd : lo < hi) (hl : lo <= q) (hh : q <= hi) : 0 <= kN s lo hi q /\ kN s lo hi q <= s /\ -s <= (fN s lo hi q).floor /\ (fN s lo hi q).floor <= 0 := by
 obtain ⟨u0, u1⟩ := part_01 hd hl hh
 obtain ⟨b1, b2⟩ := near_bd (s := s) (by omega) hf2 u0 u1
 unfold kN
 have e : (fN s lo hi q).floor = (hf - (q - lo) / (hi - lo) * (s : Rat)).floor := rfl
 omega
def spt (s : Int) (qs : List Rat) (lk : Nat -> Lk) (i : Nat) : Int := kN s (lk i).low (lk i).high (qs.getD i 0)
include hG in
theorem pcNr (hT : TabG G) (A : Am) (hA : armB A = true) (s : Int) (h1 : 1 <= s) (h12 : s <= 12) (qs : List Rat) (hq : qs.length = A.n) (hf' : fitB A qs = true) :
  PC prog G 52 [qt A, .i .i64 s, .lst 3 (.rats 64 qs)] [] (.tup [.fr 1 (.ints .i64 ((List.range A.n).map (spt s qs A.lk))), .i .i64 0]) [] := by
 obtain ⟨a1, a2, a3, a4, k1, k3, a7⟩ := armB_c hA
 have orc : OrcOK prog G RNr := .cons (gk29 hG hT) (.cons (ck71 hG) (.cons (ck72 hG hT) (.cons (gk43 hG hT) (.cons (gkFl hG hT) .nil))))
 have rd : ∀ (st : LS) (e : Exit) (ls : LS), (qe prog RNr [] polNr f52.ntmps 0 [1, 2, 10, 11, 36, 37, 38] bNr st).run = some (.out e ls) -> Rnd prog G f52.ntmps 0 [1, 2, 10, 11, 36, 37, 38] bNr st e ls := fun st e ls h =>
  qb hG orc mix (L := []) (pol := polNr) (kA (by kernel_rfl)) (Nat.zero_le _) h
 have run : ∀ (i : Nat) (c : Bool) (ex nx : LS), i < A.n -> c = true -> (trN s qs A.n (A.lk i) i c ex nx).run = some (.out .normal nx) := fun i c ex nx hi hc => by
  have hb := fitB_iff.1 hf' i hi
  have hl := (lkB_c (a7 i hi))
  have hd : (A.lk i).low < (A.lk i).high := by
   have h := a7 i hi
   simp only [lkB, kD, kE] at h
   exact h.1.1.1.2
  obtain ⟨b1, b2, b3, b4⟩ := fN_bd h1 hd hb.1 hb.2
  unfold trN
  rw [Int.toNat_natCast, k5 (kF (by omega)), k5 (by simp only [kD, kE]; omega), k5 (by simp only [kD, kE]; omega), k5 (decP_iff.2 (show nz72 _ from (by grind : ¬ (A.lk i).high - (A.lk i).low = 0))), k5 (by simp only [kD, kE]; omega),
   k5 (decP_iff.2 (show smF _ from ⟨by omega, by omega⟩)), k5 (by simp only [ovf, kD, kE]; omega), k5 hc, k5 (by simp only [ovf, kD, kE]; omega), k7]
 have g : Goes (Rnd prog G f52.ntmps 0 [1, 2, 10, 11, 36, 37, 38] bNr) (nNr s qs A.n A.lk 0) (.exit 0) (xNr s qs A.n A.lk ((List.range A.n).map (spt s qs A.lk)) A.n) := by
  refine Goes.build (xst := fun ys (j : Nat) => xNr s qs A.n A.lk ys ((j : Nat) : Int)) (spt s qs A.lk) (by simp) A.n k1 ?_ ?_ ?_
  ·exact rd _ _ _ ((tNrN s qs A.n A.lk ((0 : Nat) : Int)).trans (run 0 _ _ _ (by omega) rfl))
  ·intro ys j hy hj hjn
   refine rd _ _ _ ((tNrX s qs A.n A.lk ys j).trans ((run j _ _ _ hjn (by simp only [kD, kH]; omega)).trans ?_))
   simp only [List.drop_zero, List.take_length, Int.toNat_natCast]
   unfold xNr
   rw [List.length_append]
   rfl
  ·refine rd _ _ _ ((tNrX s qs A.n A.lk _ A.n).trans ?_)
   unfold trN
   rw [k6 (kG (by omega)), k7]
 have p92 : PC prog G 92 [qt A, .lst 3 (.rats 64 qs)] [] (.i .i64 0) [] := by
  have p := pc35w hG hT 64 (by omega) A hA qs hq
  rw [if_pos hf'] at p
  exact p
 refine qq hG (.cons (cst_t (pcMk hG hT)) (.cons (cst_t p92) (.cons (cst_t (pcCkR hG A hA s h1 h12)) .nil))) mix enNr (hs := []) (pol := polNr) (L := [(10, lcst (nNr s qs A.n A.lk 0) (.exit 0) (xNr s qs A.n A.lk ((List.range A.n).map (spt s qs A.lk)) A.n))])
  (lps1 (b := bNr) (live := [1, 2, 10, 11, 36, 37, 38]) (m := 0) (by kernel_rfl) (by kernel_rfl) (by kernel_rfl) (lcst_ok g)) ((eNr A s qs _).trans ?_)
 rw [k5 (decP_iff.2 ⟨rfl, trivial⟩), k5 (decP_iff.2 ⟨rfl, trivial⟩), k5 (decP_iff.2 ⟨rfl, trivial⟩), k5 isLS_t, k5 (by rw [kH]; exact Nat.le_refl _), k7, List.drop_zero, List.take_length]
theorem enJt : Enters prog 98 f98 (qd f98) := ⟨func98, by kernel_rfl, rfl⟩
theorem enVl' : Enters prog 54 f54 (qd f54) := ⟨func54, by kernel_rfl, rfl⟩
theorem enHv : Enters prog 175 f175 (qd f175) := ⟨func175, by kernel_rfl, rfl⟩
theorem enNm : Enters prog 51 f51 (qd f51) := ⟨func51, by kernel_rfl, rfl⟩
theorem enRN : Enters prog 10 f10 (qd f10) := ⟨func10, by kernel_rfl, rfl⟩
def bJt : Code := (qh (qd f98)).getD 0 .skip
def polJt : Pol := { live := [(6, [5, 14, 15, 16])] }
def lJt : qz := unr prog [] [] polJt f98.ntmps 0 [5, 14, 15, 16] bJt 5
def jtP (d : Lk) : PV := .ifc 171 (.agg [lkPV d])
def jtC (n : Nat) (lk : Nat -> Lk) : Cont := .fn n (fun j => jtP (lk j))
def trJ (A : Am) (n : Nat) (vs : List PV) : Tr := .br (qj (isA [armQ A n] True [armQ A n])) (.ok (.ret (.tup [.fr 1 (.vals vs), .i .i64 0]) [])) (.no 1)
theorem eJt1 (A : Am) : (evF prog [(91, cst [armQ A 1] True (.i .i64 0))] [(6, lJt)] polJt f98 [armQ A 1] [] qo).run = (trJ A 1 [jtP (A.lk 0)]).run := by kernel_rfl
theorem eJt2 (A : Am) : (evF prog [(91, cst [armQ A 2] True (.i .i64 0))] [(6, lJt)] polJt f98 [armQ A 2] [] qo).run = (trJ A 2 [jtP (A.lk 0), jtP (A.lk 1)]).run := by kernel_rfl
theorem eJt3 (A : Am) : (evF prog [(91, cst [armQ A 3] True (.i .i64 0))] [(6, lJt)] polJt f98 [armQ A 3] [] qo).run = (trJ A 3 [jtP (A.lk 0), jtP (A.lk 1), jtP (A.lk 2)]).run := by kernel_rfl
include hG in
theorem pcJt (A : Am) (hA : armB A = true) : PC prog G 98 [qt A] [] (.tup [.fr 1 (jtC A.n A.lk), .i .i64 0]) [] := by
 have p := pc91 hG A hA
 obtain ⟨a1, a2, a3, a4, h1, h3, a7⟩ := armB_c hA
 have hl := lps1 (P := prog) (G := G) (pol := polJt) (n := f98.ntmps) (m := 0) (L := [(6, lJt)]) (c := qd f98) (b := bJt) (live := [5, 14, 15, 16]) (sp := lJt) (by kernel_rfl) (by kernel_rfl) (by kernel_rfl) (unr_ok hG .nil mix (kA (by kernel_rfl)) 5)
 have ha : qt A = armQ A A.n := rfl
 rw [ha] at p ⊢
 rcases (show A.n = 1 \/ A.n = 2 \/ A.n = 3 by omega) with hn | hn | hn
 ·rw [hn] at p ⊢
  refine (qq hG (.cons (cst_t p) .nil) mix enJt (hs := []) (pol := polJt) (L := [(6, lJt)]) hl ((eJt1 A).trans (k5 (decP_iff.2 ⟨rfl, trivial⟩)))).le (frs_le0 _ _ _ _ rfl fun i v hi => ?_) (.refl _)
  match i, hi with
  | 0, hi => simp at hi; subst hi; exact ⟨rfl, .refl _⟩
  | i + 1, hi => simp at hi
 ·rw [hn] at p ⊢
  refine (qq hG (.cons (cst_t p) .nil) mix enJt (hs := []) (pol := polJt) (L := [(6, lJt)]) hl ((eJt2 A).trans (k5 (decP_iff.2 ⟨rfl, trivial⟩)))).le (frs_le0 _ _ _ _ rfl fun i v hi => ?_) (.refl _)
  match i, hi with
  | 0, hi => simp at hi; subst hi; exact ⟨rfl, .refl _⟩
  | 1, hi => simp at hi; subst hi; exact ⟨rfl, .refl _⟩
  | i + 2, hi => simp at hi
 ·rw [hn] at p ⊢
  refine (qq hG (.cons (cst_t p) .nil) mix enJt (hs := []) (pol := polJt) (L := [(6, lJt)]) hl ((eJt3 A).trans (k5 (decP_iff.2 ⟨rfl, trivial⟩)))).le (frs_le0 _ _ _ _ rfl fun i v hi => ?_) (.refl _)
  match i, hi with
  | 0, hi => simp at hi; subst hi; exact ⟨rfl, .refl _⟩
  | 1, hi => simp at hi; subst hi; exact ⟨rfl, .refl _⟩
  | 2, hi => simp at hi; subst hi; exact ⟨rfl, .refl _⟩
  | i + 3, hi => simp at hi
def gHv : Spec := evF prog [(19, g21), (56, g29), (65, g43)] [] {} f175
def gMk2 : Spec := fun args hs K => match args, hs with
 | [.i .i64 a, .i .i64 b], [] => .br (decide (0 < b) && decide (b <= 100) && decide (0 <= a) && decide (a <= 100)) (K (.tup [.q ((a : Rat) / (b : Rat)) 128, .i .i64 0]) []) (.no 1)
 | _, _ => .no 1
theorem eMk2 (a b : Int) : (evF prog [(63, c71), (64, c72)] [] {} f74 [.i .i64 a, .i .i64 b] [] qo).run =
  (Tr.br (decide (-1000000000 < a) && decide (a < 1000000000)) (.br (decide (-1000000000 < b) && decide (b < 1000000000)) (.br (qj (nz72 (b : Rat))) (.ok (.ret (.tup [.q ((a : Rat) / (b : Rat)) 128, .i .i64 0]) [])) (.no 1)) (.no 1)) (.no 1)).run := by kernel_rfl
include hG in
theorem gkMk2 (hT : TabG G) : qc prog G 74 gMk2 := by
 intro args hs K x h
 unfold gMk2 at h
 split at h
 case h_2 => cases h
 rename_i a b
 obtain ⟨hc, hr⟩ := k9 h
 simp only [kD, kE] at hc
 refine ⟨_, _, qq hG (.cons (ck71 hG) (.cons (ck72 hG hT) .nil)) mix enMk (hs := []) (L := []) (pol := {}) (kA (by kernel_rfl)) ((eMk2 a b).trans ?_), hr⟩
 rw [k5 (by simp only [kD, kE]; omega), k5 (by simp only [kD, kE]; omega), k5 (decP_iff.2 (show nz72 _ from fun h => by have := Rat.intCast_eq_zero_iff.1 h; omega)), k7]
def bVl : Code := (qh (qd f54)).getD 0 .skip
def polVl : Pol := { live := [(11, [1, 6, 7, 9, 11, 36, 37, 38])] }
def RVl : Orc := [(74, gMk2), (175, gHv)]
def stVl (s : Int) (e : Int) (n : Nat) (lk : Nat -> Lk) (ks : List Int) (o : PV) (bs : List (Option Blk)) (i : Int) : LS := ⟨[.i .i64 s, .nil, .i .i64 e, .lst 1 (jtC n lk), o, .lst 1 (.ints .i64 ks), .i .i64 ks.length, .i .i64 i], bs⟩
def nVl (s : Int) (n : Nat) (lk : Nat -> Lk) (ks : List Int) (i : Int) : LS := stVl s 0 n lk ks .nil [] i
def xVl (s : Int) (n : Nat) (lk : Nat -> Lk) (ks : List Int) (ys : List Rat) (i : Int) : LS := stVl s 0 n lk ks (.sl 0 3 0 ys.length) [some ⟨3, .rats 322 ys⟩] i
def vK (s : Int) (lk : Nat -> Lk) (ks : List Int) (i : Nat) : Rat := (lk i).low + ((lk i).high - (lk i).low) * ((ks.getD i 0 : Rat) / (s : Rat))
def trV (s : Int) (n : Nat) (ks : List Int) (i : Int) (c : Bool) (ex bad nx : LS) : Tr :=
 .br (decide (i < (ks.length : Int))) (.br (decide ((0 : Int) <= i) && decide (i < (ks.length : Int))) (.br (decide (ks.getD i.toNat 0 < (0 : Int))) (.ok (.out .ret bad)) (.br (decide (s < ks.getD i.toNat 0)) (.ok (.out .ret bad))
  (.br (decide (0 < s) && decide (s <= 100) && decide (0 <= ks.getD i.toNat 0) && decide (ks.getD i.toNat 0 <= 100)) (.br (decide ((0 : Int) <= i) && decide (i < (n : Int))) (.br c (.br (ovf (i + 1)) (.ok (.out .normal nx)) (.no 1)) (.no 1)) (.no 1)) (.no 1)))) (.no 1)) (.ok (.out (.exit 0) ex))
theorem tVlN (s : Int) (n : Nat) (lk : Nat -> Lk) (ks : List Int) (i : Int) : (qe prog RVl [] polVl f54.ntmps 0 [1, 6, 7, 9, 11, 36, 37, 38] bVl (nVl s n lk ks i)).run =
  (trV s n ks i true (nVl s n lk ks i) (stVl s 17 n lk ks .nil [] i) (xVl s n lk ks [vK s lk ks i.toNat] (i + 1))).run := by kernel_rfl
theorem tVlX (s : Int) (n : Nat) (lk : Nat -> Lk) (ks : List Int) (ys : List Rat) (i : Int) : (qe prog RVl [] polVl f54.ntmps 0 [1, 6, 7, 9, 11, 36, 37, 38] bVl (xVl s n lk ks ys i)).run =
  (trV s n ks i (Nat.ble ys.length ys.length && Nat.ble (ys.length + 1) 4294967296) (xVl s n lk ks ys i) (stVl s 17 n lk ks (.sl 0 3 0 ys.length) [some ⟨3, .rats 322 ys⟩] i) (stVl s 0 n lk ks (.sl 0 3 0 (ys.length + 1)) [some ⟨3, .rats 322 (List.take ys.length (List.drop 0 ys) ++ [vK s lk ks i.toNat])⟩] (i + 1))).run := by kernel_rfl
def OVl (A : Am) (s : Int) : Orc := [(96, cst [qt A, .i .i64 s] True (.i .i64 0)), (98, cst [qt A] True (.tup [.fr 1 (jtC A.n A.lk), .i .i64 0]))]
theorem eVl (A : Am) (s : Int) (ks : List Int) (ys : List Rat) : (evF prog (OVl A s) [(11, lcst (nVl s A.n A.lk ks 0) (.exit 0) (xVl s A.n A.lk ks ys ks.length))] polVl f54 [qt A, .i .i64 s, .lst 1 (.ints .i64 ks)] [] qo).run =
  (Tr.br (qj (isA [qt A, .i .i64 s] True [qt A, .i .i64 s])) (.br (!decide ((ks.length : Int) = (A.n : Int))) (.ok (.ret (.tup [.nil, .i .i64 1]) [])) (.br (qj (isA [qt A] True [qt A])) (.br (Nat.ble (0 + A.n) A.n) (.br (qj (isLS (nVl s A.n A.lk ks 0) (nVl s A.n A.lk ks 0))) (.br (Nat.ble ys.length ys.length) (.ok (.ret (.tup [.fr 3 (.rats 322 (List.take ys.length (List.drop 0 ys))), .i .i64 0]) [])) (.no 1)) (.no 1)) (.no 1)) (.no 1))) (.no 1)).run := by kernel_rfl
def vL (s : Int) (lk : Nat -> Lk) (ks : List Int) : List Rat := (List.range ks.length).map (vK s lk ks)
def inK (s : Int) (ks : List Int) : Prop := ∀ i, i < ks.length -> 0 <= ks.getD i 0 /\ ks.getD i 0 <= s
include hG in
theorem pcVl (hT : TabG G) (A : Am) (hA : armB A = true) (s : Int) (h1 : 1 <= s) (h12 : s <= 12) (ks : List Int) (hk : ks.length = A.n) (hi : inK s ks) :
  PC prog G 54 [qt A, .i .i64 s, .lst 1 (.ints .i64 ks)] [] (.tup [.fr 3 (.rats 322 (vL s A.lk ks)), .i .i64 0]) [] := by
 obtain ⟨a1, a2, a3, a4, k1, k3, a7⟩ := armB_c hA
 have orc : OrcOK prog G RVl := .cons (gkMk2 hG hT) (.cons (spec_ev hG (.cons (gk21 hG hT) (.cons (gk29 hG hT) (.cons (gk43 hG hT) .nil))) mix enHv (fun _ => kA (by kernel_rfl))) .nil)
 have rd : ∀ (st : LS) (e : Exit) (ls : LS), (qe prog RVl [] polVl f54.ntmps 0 [1, 6, 7, 9, 11, 36, 37, 38] bVl st).run = some (.out e ls) -> Rnd prog G f54.ntmps 0 [1, 6, 7, 9, 11, 36, 37, 38] bVl st e ls := fun st e ls h =>
  qb hG orc mix (L := []) (pol := polVl) (kA (by kernel_rfl)) (Nat.zero_le _) h
 have run : ∀ (i : Nat) (c : Bool) (ex bad nx : LS), i < ks.length -> c = true -> (trV s A.n ks i c ex bad nx).run = some (.out .normal nx) := fun i c ex bad nx hi' hc => by
  obtain ⟨b1, b2⟩ := hi i hi'
  unfold trV
  rw [Int.toNat_natCast, k5 (kF (by omega)), k5 (by simp only [kD, kE]; omega), k6 (kG (by omega)), k6 (kG (by omega)), k5 (by simp only [kD, kE]; omega),
   k5 (by simp only [kD, kE]; omega), k5 hc, k5 (by simp only [ovf, kD, kE]; omega), k7]
 have g : Goes (Rnd prog G f54.ntmps 0 [1, 6, 7, 9, 11, 36, 37, 38] bVl) (nVl s A.n A.lk ks 0) (.exit 0) (xVl s A.n A.lk ks (vL s A.lk ks) ks.length) := by
  refine Goes.build (xst := fun ys (j : Nat) => xVl s A.n A.lk ks ys ((j : Nat) : Int)) (vK s A.lk ks) (by simp) ks.length (by omega) ?_ ?_ ?_
  ·exact rd _ _ _ ((tVlN s A.n A.lk ks ((0 : Nat) : Int)).trans (run 0 _ _ _ _ (by omega) rfl))
  ·intro ys j hy hj hjn
   refine rd _ _ _ ((tVlX s A.n A.lk ks ys j).trans ((run j _ _ _ _ hjn (by simp only [kD, kH]; omega)).trans ?_))
   simp only [List.drop_zero, List.take_length, Int.toNat_natCast]
   unfold xVl
   rw [List.length_append]
   rfl
  ·refine rd _ _ _ ((tVlX s A.n A.lk ks _ ks.length).trans ?_)
   unfold trV
   rw [k6 (kG (by omega)), k7]
   rfl
 refine qq hG (.cons (cst_t (pcCkR hG A hA s h1 h12)) (.cons (cst_t (pcJt hG A hA)) .nil)) mix enVl' (hs := []) (pol := polVl) (L := [(11, lcst (nVl s A.n A.lk ks 0) (.exit 0) (xVl s A.n A.lk ks (vL s A.lk ks) ks.length))])
  (lps1 (b := bVl) (live := [1, 6, 7, 9, 11, 36, 37, 38]) (m := 0) (by kernel_rfl) (by kernel_rfl) (by kernel_rfl) (lcst_ok g)) ((eVl A s ks _).trans ?_)
 rw [k5 (decP_iff.2 ⟨rfl, trivial⟩), k6 (by rw [kF (show (ks.length : Int) = (A.n : Int) by omega)]; rfl), k5 (decP_iff.2 ⟨rfl, trivial⟩), k5 (by rw [kH]; omega), k5 isLS_t, k5 (by rw [kH]; exact Nat.le_refl _), k7, List.drop_zero, List.take_length]
def bNm : Code := (qh (qd f51)).getD 0 .skip
def polNm : Pol := { live := [(5, [1, 6, 7, 8, 31, 32, 33])] }
def lNm : qz := unr prog [] [] polNm f51.ntmps 0 [1, 6, 7, 8, 31, 32, 33] bNm 4
theorem eNm : (evF prog [] [(5, lNm)] polNm f51 [.i .i64 2, .i .i64 3, .lst 1 (.ints .i64 [1, 2])] [] qo).run = some (.ret (.tup [.i .i64 6, .i .i64 0]) []) := by kernel_rfl
include hG in
theorem pcNm : PC prog G 51 [.i .i64 2, .i .i64 3, .lst 1 (.ints .i64 [1, 2])] [] (.tup [.i .i64 6, .i .i64 0]) [] :=
 qq hG .nil mix enNm (hs := []) (pol := polNm) (L := [(5, lNm)]) (lps1 (b := bNm) (live := [1, 6, 7, 8, 31, 32, 33]) (sp := lNm) (m := 0) (by kernel_rfl) (by kernel_rfl) (by kernel_rfl) (unr_ok hG .nil mix (kA (by kernel_rfl)) 4)) eNm
include hG in
theorem pcCn (ks : List Int) (hk : ks.length <= 100) : PC prog G 53 [.lst 1 (.ints .i64 ks)] [] (.fr 1 (.ints .i64 ks)) [] := by
 refine qq hG .nil mix enter37 (hs := []) (L := []) (pol := pol37) (O := []) (kA (by kernel_rfl)) ?_
 rw [e37, k6 rfl, k5 (by simp only [kD, kH]; omega), k5 (by rw [kH, Nat.zero_add]; exact Nat.le_refl _), k7, List.drop_zero]
 show some (Res.ret (.fr 1 (.ints .i64 (List.take (0 + ks.length) ks))) []) = _
 rw [Nat.zero_add, List.take_length]
def bRa : Code := (qh (qd f10)).getD 0 .skip
def bRb : Code := (qh (qd f10)).getD 1 .skip
def polRN : Pol := { own := [58, 70], live := [(12, [2, 3, 8, 11, 12, 13, 15, 60, 61]), (21, [8, 12, 17, 19, 111, 112])] }
def aRN (A : Am) (s x : Int) (qs : List Rat) (ks os : List Int) (i : Int) : LS := ⟨[.i .i64 s, .i .i64 x, .bl false, .ptr 0 12 0 0 [], .lst 3 (.rats 64 qs), .lst 1 (.ints .i64 ks), .sl 1 1 0 os.length, .i .i64 os.length, .i .i64 i], [some ⟨12, .vals [qt A]⟩, some ⟨1, .ints .i64 os⟩]⟩
theorem tRa (A : Am) (s x : Int) (qs : List Rat) (ks os : List Int) (i : Int) : (qe prog [(49, s24)] [] polRN f10.ntmps 0 [2, 3, 8, 11, 12, 13, 15, 60, 61] bRa (aRN A s x qs ks os i)).run =
  (Tr.br (decide (i < (os.length : Int))) (.br (ovf (i * i)) (.br (ovf (s + 1)) (.br (decide (0 < s + 1) && decide (s + 1 <= 4294967296)) (.br (ix (i) ((os.length : Int))) (.br (Nat.ble (0 + i.toNat + 1) os.length) (.br (ovf (i + 1)) (.ok (.out .normal ⟨[.i .i64 s, .i .i64 x, .bl false, .ptr 0 12 0 0 [], .lst 3 (.rats 64 qs), .lst 1 (.ints .i64 ks), .sl 1 1 0 os.length, .i .i64 os.length, .i .i64 (i + 1)], [some ⟨12, .vals [qt A]⟩, some ⟨1, .ints .i64 (os.set (0 + i.toNat) (IntKind.i64.wrap (x + i * i) % (s + 1)))⟩]⟩)) (.no 1)) (.no 1)) (.no 1)) (.no 1)) (.no 1)) (.no 1)) (.ok (.out (.exit 0) (aRN A s x qs ks os i)))).run := by kernel_rfl
def bRN (qs ps rs : List Rat) (i : Int) : LS := ⟨[.bl false, .lst 3 (.rats 64 qs), .lst 3 (.rats 322 ps), .lst 3 (.rats 322 rs), .i .i64 qs.length, .i .i64 i], []⟩
theorem tRb (qs ps rs : List Rat) (i : Int) : (qe prog [(36, g27), (55, g28), (56, g29)] [] polRN f10.ntmps 0 [8, 12, 17, 19, 111, 112] bRb (bRN qs ps rs i)).run =
  (Tr.br (decide (i < (qs.length : Int))) (.br (ix (i) ((ps.length : Int))) (.br (ix (i) ((qs.length : Int))) (.br (ix (i) ((rs.length : Int))) (.br (ix (i) ((qs.length : Int))) (.br (decide ((0 : Int) < rcmp (rabs (ps.getD i.toNat 0 - qs.getD i.toNat 0)) (rabs (rs.getD i.toNat 0 - qs.getD i.toNat 0)))) (.ok (.out .ret (bRN qs ps rs i))) (.br (ovf (i + 1)) (.ok (.out .normal (bRN qs ps rs (i + 1)))) (.no 1))) (.no 1)) (.no 1)) (.no 1)) (.no 1)) (.ok (.out (.exit 2) (bRN qs ps rs i)))).run := by kernel_rfl
def gVlu (VL : PV -> Int -> List Int -> List Rat) (C : PV -> Int -> List Int -> Prop) : Spec := fun args hs K => match args, hs with
 | [a, .i .i64 s, .lst 1 (.ints .i64 ks)], [] => .br (qj (C a s ks)) (K (.tup [.fr 3 (.rats 322 (VL a s ks)), .i .i64 0]) []) (.no 1)
 | _, _ => .no 1
def ORN (l m : PV) (A : Am) (s : Int) (q : List Rat) (ks : List Int) (VL : PV -> Int -> List Int -> List Rat) (C : PV -> Int -> List Int -> Prop) : Orc :=
 [(13, cst [.w l] True (armFr A)), (30, cst [qt A, .w m] True (.fr 3 (.rats 64 q))), (49, s24), (51, cst [.i .i64 2, .i .i64 3, .lst 1 (.ints .i64 [1, 2])] True (.tup [.i .i64 6, .i .i64 0])),
  (52, cst [qt A, .i .i64 s, .lst 3 (.rats 64 q)] True (.tup [.fr 1 (.ints .i64 ks), .i .i64 0])), (53, cst [.lst 1 (.ints .i64 ks)] True (.fr 1 (.ints .i64 ks))), (54, gVlu VL C)]
theorem eRN (l m : PV) (A : Am) (st s x : Int) (q : List Rat) (ks os : List Int) (ps rs : List Rat) (VL : PV -> Int -> List Int -> List Rat) (C : PV -> Int -> List Int -> Prop) : (evF prog (ORN l m A s q ks VL C) [(12, lcst (aRN A s x q ks ks 0) (.exit 0) (aRN A s x q ks os ks.length)), (21, lcst (bRN q ps rs 0) (.exit 2) (bRN q ps rs q.length))] polRN f10 [.w l, .w m, .i .i64 st, .i .i64 x] [] qo).run =
 (Tr.br (qj (isA [.i .i64 2, .i .i64 3, .lst 1 (.ints .i64 [(1 : Int), (2 : Int)])] True [.i .i64 2, .i .i64 3, .lst 1 (.ints .i64 [(1 : Int), (2 : Int)])])) (.br (qj (isA [l.w] True [l.w])) (.br (((0 : Nat) + A.n).ble A.n) (.br (qj (isA [qt A, m.w] True [qt A, m.w])) (.br (((0 : Nat) + q.length).ble q.length) (.br (ib ((1 : Int) + st % (12 : Int))) (.br (qj (isA [qt A, .i .i64 s, .lst 3 (.rats 64 q)] True [qt A, .i .i64 ((1 : Int) + st % (12 : Int)), .lst 3 (.rats 64 (List.take q.length (List.drop (0 : Nat) q)))])) (.br (((0 : Nat) + ks.length).ble ks.length) (.br (!decide ((↑(List.take ks.length (List.drop (0 : Nat) ks)).length : Int) = (↑(List.take q.length (List.drop (0 : Nat) q)).length : Int))) (.ok (.ret (.bl false) [])) (.br (qj (isA [.lst 1 (.ints .i64 ks)] True [.lst 1 (.ints .i64 (List.take ks.length (List.drop (0 : Nat) ks)))])) (.br (qj (isLS (LS.mk [.i .i64 s, .i .i64 x, .bl false, .ptr 0 12 0 0 [], .lst 3 (.rats 64 q), .lst 1 (.ints .i64 ks), .sl 1 1 0 ks.length, .i .i64 (ks.length : Int), .i .i64 0] [some (.mk 12 (.vals [qt A])), some (.mk 1 (.ints .i64 ks))]) (LS.mk [.i .i64 ((1 : Int) + st % (12 : Int)), .i .i64 x, .bl false, .ptr 0 12 0 0 [], .lst 3 (.rats 64 (List.take q.length (List.drop (0 : Nat) q))), .lst 1 (.ints .i64 (List.take ks.length (List.drop (0 : Nat) ks))), .sl 1 1 0 ks.length, .i .i64 (ks.length : Int), .i .i64 0] [some (.mk 12 (.vals [qt A])), some (.mk 1 (.ints .i64 ks))]))) (.br (qj (C (.agg [.s A.name, .agg [.agg [.q A.bx (64 : Nat), .q A.by_ (64 : Nat)], .agg [.bl false, .q A.t (64 : Nat)]], .lst (16 : Nat) (Cont.fn A.n fun (j : Nat) => lkPV (A.lk j))]) s ks)) (.br (((0 : Nat) + (VL (.agg [.s A.name, .agg [.agg [.q A.bx (64 : Nat), .q A.by_ (64 : Nat)], .agg [.bl false, .q A.t (64 : Nat)]], .lst (16 : Nat) (Cont.fn A.n fun (j : Nat) => lkPV (A.lk j))]) s ks).length).ble (VL (.agg [.s A.name, .agg [.agg [.q A.bx (64 : Nat), .q A.by_ (64 : Nat)], .agg [.bl false, .q A.t (64 : Nat)]], .lst (16 : Nat) (Cont.fn A.n fun (j : Nat) => lkPV (A.lk j))]) s ks).length) (.br (((0 : Nat) + os.length).ble os.length) (.br (qj (C (.agg [.s A.name, .agg [.agg [.q A.bx (64 : Nat), .q A.by_ (64 : Nat)], .agg [.bl false, .q A.t (64 : Nat)]], .lst (16 : Nat) (Cont.fn A.n fun (j : Nat) => lkPV (A.lk j))]) s (List.take os.length (List.drop (0 : Nat) os)))) (.br (((0 : Nat) + (VL (.agg [.s A.name, .agg [.agg [.q A.bx (64 : Nat), .q A.by_ (64 : Nat)], .agg [.bl false, .q A.t (64 : Nat)]], .lst (16 : Nat) (Cont.fn A.n fun (j : Nat) => lkPV (A.lk j))]) s (List.take os.length (List.drop (0 : Nat) os))).length).ble (VL (.agg [.s A.name, .agg [.agg [.q A.bx (64 : Nat), .q A.by_ (64 : Nat)], .agg [.bl false, .q A.t (64 : Nat)]], .lst (16 : Nat) (Cont.fn A.n fun (j : Nat) => lkPV (A.lk j))]) s (List.take os.length (List.drop (0 : Nat) os))).length) (.br (!decide ((↑(List.take (VL (.agg [.s A.name, .agg [.agg [.q A.bx (64 : Nat), .q A.by_ (64 : Nat)], .agg [.bl false, .q A.t (64 : Nat)]], .lst (16 : Nat) (Cont.fn A.n fun (j : Nat) => lkPV (A.lk j))]) s ks).length (List.drop (0 : Nat) (VL (.agg [.s A.name, .agg [.agg [.q A.bx (64 : Nat), .q A.by_ (64 : Nat)], .agg [.bl false, .q A.t (64 : Nat)]], .lst (16 : Nat) (Cont.fn A.n fun (j : Nat) => lkPV (A.lk j))]) s ks))).length : Int) = (q.length : Int))) (.ok (.ret (.bl false) [])) (.br (!decide ((↑(List.take (VL (.agg [.s A.name, .agg [.agg [.q A.bx (64 : Nat), .q A.by_ (64 : Nat)], .agg [.bl false, .q A.t (64 : Nat)]], .lst (16 : Nat) (Cont.fn A.n fun (j : Nat) => lkPV (A.lk j))]) s (List.take os.length (List.drop (0 : Nat) os))).length (List.drop (0 : Nat) (VL (.agg [.s A.name, .agg [.agg [.q A.bx (64 : Nat), .q A.by_ (64 : Nat)], .agg [.bl false, .q A.t (64 : Nat)]], .lst (16 : Nat) (Cont.fn A.n fun (j : Nat) => lkPV (A.lk j))]) s (List.take os.length (List.drop (0 : Nat) os))))).length : Int) = (q.length : Int))) (.ok (.ret (.bl false) [])) (.br (qj (isLS (LS.mk [.bl false, .lst 3 (.rats 64 q), .lst 3 (.rats 322 ps), .lst 3 (.rats 322 rs), .i .i64 (q.length : Int), .i .i64 0] []) (LS.mk [.bl false, .lst 3 (.rats 64 q), .lst 3 (.rats 322 (List.take (VL (.agg [.s A.name, .agg [.agg [.q A.bx (64 : Nat), .q A.by_ (64 : Nat)], .agg [.bl false, .q A.t (64 : Nat)]], .lst (16 : Nat) (Cont.fn A.n fun (j : Nat) => lkPV (A.lk j))]) s ks).length (List.drop (0 : Nat) (VL (.agg [.s A.name, .agg [.agg [.q A.bx (64 : Nat), .q A.by_ (64 : Nat)], .agg [.bl false, .q A.t (64 : Nat)]], .lst (16 : Nat) (Cont.fn A.n fun (j : Nat) => lkPV (A.lk j))]) s ks)))), .lst 3 (.rats 322 (List.take (VL (.agg [.s A.name, .agg [.agg [.q A.bx (64 : Nat), .q A.by_ (64 : Nat)], .agg [.bl false, .q A.t (64 : Nat)]], .lst (16 : Nat) (Cont.fn A.n fun (j : Nat) => lkPV (A.lk j))]) s (List.take os.length (List.drop (0 : Nat) os))).length (List.drop (0 : Nat) (VL (.agg [.s A.name, .agg [.agg [.q A.bx (64 : Nat), .q A.by_ (64 : Nat)], .agg [.bl false, .q A.t (64 : Nat)]], .lst (16 : Nat) (Cont.fn A.n fun (j : Nat) => lkPV (A.lk j))]) s (List.take os.length (List.drop (0 : Nat) os)))))), .i .i64 (q.length : Int), .i .i64 0] []))) (.ok (.ret (.bl true) [])) (.no 1)))) (.no 18006)) (.no 1)) (.no 18006)) (.no 17006)) (.no 1)) (.no 1)) (.no 1))) (.no 8006)) (.no 1)) (.no 7002)) (.no 6002)) (.no 1)) (.no 5003)) (.no 1)) (.no 1)).run := by kernel_rfl
def blw (s x : Int) (i : Nat) : Int := IntKind.i64.wrap (x + ((i : Nat) : Int) * ((i : Nat) : Int)) % (s + 1)
def osF (s x : Int) (ks : List Int) : Nat -> List Int
 | 0 => ks
 | i + 1 => (osF s x ks i).set i (blw s x i)
theorem osF_len (s x : Int) (ks : List Int) : ∀ i, (osF s x ks i).length = ks.length
 | 0 => rfl
 | i + 1 => by rw [osF, List.length_set]; exact osF_len s x ks i
theorem osF_get (s x : Int) (ks : List Int) (j : Nat) (hj : j < ks.length) : ∀ i, (osF s x ks i).getD j 0 = if j < i then blw s x j else ks.getD j 0
 | 0 => rfl
 | i + 1 => by
  have ih := osF_get s x ks j hj i
  rw [List.getD_eq_getElem?_getD] at ih ⊢
  rw [osF, List.getElem?_set]
  by_cases e : i = j
  ·subst e
   rw [if_pos rfl, if_pos (by rw [osF_len]; exact hj), if_pos (by omega)]
   rfl
  ·rw [if_neg e, ih]
   by_cases h : j < i
   ·rw [if_pos h, if_pos (by omega)]
   ·rw [if_neg h, if_neg (by omega)]
include hG in
theorem goesRa (A : Am) (s x : Int) (h1 : 1 <= s) (h12 : s <= 12) (qs : List Rat) (ks : List Int) (hk : ks.length <= 3) :
  Goes (Rnd prog G f10.ntmps 0 [2, 3, 8, 11, 12, 13, 15, 60, 61] bRa) (aRN A s x qs ks ks 0) (.exit 0) (aRN A s x qs ks (osF s x ks ks.length) ks.length) := by
 have orc : OrcOK prog G [(49, s24)] := .cons (ok24 hG) .nil
 have w := Goes.count (R := Rnd prog G f10.ntmps 0 [2, 3, 8, 11, 12, 13, 15, 60, 61] bRa) (fun i => aRN A s x qs ks (osF s x ks i) ((i : Nat) : Int)) (e := .exit 0) (ls' := aRN A s x qs ks (osF s x ks ks.length) ks.length) (by simp) ks.length 0
  (fun i _ hi => by
   refine qb hG orc mix (L := []) (pol := polRN) (kA (by kernel_rfl)) (Nat.zero_le _) ((tRa A s x qs ks (osF s x ks i) i).trans ?_)
   have hl := osF_len s x ks i
   have hi2 : i = 0 \/ i = 1 \/ i = 2 := by omega
   have hm : (0 : Int) <= (i : Int) * (i : Int) /\ (i : Int) * (i : Int) <= 4 := by rcases hi2 with rfl | rfl | rfl <;> decide
   rw [Int.toNat_natCast, k5 (kF (by omega)), k5 (by simp only [ovf, kD, kE]; omega), k5 (by simp only [ovf, kD, kE]; omega), k5 (by simp only [kD, kE]; omega), k5 (by simp only [kD, kE]; omega),
    k5 (by rw [kH]; omega), k5 (by simp only [ovf, kD, kE]; omega), k7, Nat.zero_add]
   unfold aRN
   rw [osF, List.length_set]
   rfl)
  (by
   refine qb hG orc mix (L := []) (pol := polRN) (kA (by kernel_rfl)) (Nat.zero_le _) ((tRa A s x qs ks _ _).trans ?_)
   have hl := osF_len s x ks ks.length
   rw [Nat.zero_add, k6 (kG (by omega)), k7])
 exact w
include hG in
theorem goesRb (hT : TabG G) (qs ps rs : List Rat) (hq : qs.length <= 3) (hp : ps.length = qs.length) (hr : rs.length = qs.length) (h : ∀ i, i < qs.length -> rabs (ps.getD i 0 - qs.getD i 0) <= rabs (rs.getD i 0 - qs.getD i 0)) :
  Goes (Rnd prog G f10.ntmps 0 [8, 12, 17, 19, 111, 112] bRb) (bRN qs ps rs 0) (.exit 2) (bRN qs ps rs qs.length) := by
 have orc : OrcOK prog G [(36, g27), (55, g28), (56, g29)] := .cons (gk27 hG hT) (.cons (gk28 hG hT) (.cons (gk29 hG hT) .nil))
 have w := Goes.count (R := Rnd prog G f10.ntmps 0 [8, 12, 17, 19, 111, 112] bRb) (fun i => bRN qs ps rs ((i : Nat) : Int)) (e := .exit 2) (ls' := bRN qs ps rs qs.length) (by simp) qs.length 0
  (fun i _ hi => by
   refine qb hG orc mix (L := []) (pol := polRN) (kA (by kernel_rfl)) (Nat.zero_le _) ((tRb qs ps rs i).trans ?_)
   have hb := rcmp_le.2 (h i (by omega))
   rw [Int.toNat_natCast, k5 (kF (by omega)), k5 (by simp only [kD, kE]; omega), k5 (by simp only [kD, kE]; omega), k5 (by simp only [kD, kE]; omega), k5 (by simp only [kD, kE]; omega),
    k6 (kG (by omega)), k5 (by simp only [ovf, kD, kE]; omega), k7]
   rfl)
  (by
   refine qb hG orc mix (L := []) (pol := polRN) (kA (by kernel_rfl)) (Nat.zero_le _) ((tRb qs ps rs _).trans ?_)
   rw [Nat.zero_add, k6 (kG (by omega)), k7])
 exact w
def isVl (a : PV) (s : Int) (ks : List Int) : Prop := ∃ A, a = qt A /\ armB A = true /\ 1 <= s /\ s <= 12 /\ ks.length = A.n /\ inK s ks
include hG in
theorem vkVlu (hT : TabG G) : qc prog G 54 (gVlu (fun a s ks => vL s (dArm a).lk ks) isVl) := by
 intro args hs K x h
 unfold gVlu at h
 split at h
 case h_2 => cases h
 rename_i a s ks
 obtain ⟨hc, hr⟩ := k9 h
 obtain ⟨A, rfl, hA, h1, h2, hk, hi⟩ := decP_iff.1 hc
 exact ⟨_, _, pcVl hG hT A hA s h1 h2 ks hk hi, hr⟩
theorem vL_get (s : Int) (lk : Nat -> Lk) (ks : List Int) {i : Nat} (h : i < ks.length) : (vL s lk ks).getD i 0 = vK s lk ks i := getD_map_range _ h
include hG in
theorem lawRN (hT : TabG G) (l m : PV) (st x : Int) (hl : okW l = true) (hm : okW m = true) : PC prog G 10 [.w l, .w m, .i .i64 st, .i .i64 x] [] (.bl true) [] := by
 have hA := armB_V l
 have hX := limX_V l
 have p13 : PC prog G 13 [.w l] [] (armFr (armD l)) [] := by
  obtain ⟨r, hs', p, e⟩ := ok15 hG [.w l] [] (fun r hs' => .ok (.ret r hs')) (.ret (armFr (armD l)) []) (by show (Tr.br _ _ _).run = _; rw [k5 hl]; rfl)
  cases e
  exact p
 generalize armD l = A at *
 have p30 : PC prog G 30 [qt A, .w m] [] (.fr 3 (.rats 64 (cfL A.lk m A.n))) [] := by
  obtain ⟨r, hs', p, e⟩ := ok33 hG [qt A, .w m] [] (fun r hs' => .ok (.ret r hs')) (.ret (.fr 3 (.rats 64 (cfL A.lk m A.n))) []) (by
   show (Tr.br _ _ _).run = _
   rw [k5 (decP_iff.2 ⟨okA_arm hA, hX, hm⟩)]; rfl)
  cases e
  exact p
 obtain ⟨a1, a2, a3, a4, k1, k3, a7⟩ := armB_c hA
 have hq : (cfL A.lk m A.n).length = A.n := cfL_len _ _ _
 have hf' : fitB A (cfL A.lk m A.n) = true := cfL_fit hA
 generalize cfL A.lk m A.n = q at *
 have s1 : 1 <= 1 + st % 12 := by omega
 have s12 : 1 + st % 12 <= 12 := by omega
 generalize hS : 1 + st % 12 = s at *
 have p52 := pcNr hG hT A hA s s1 s12 q hq hf'
 have hk : ((List.range A.n).map (spt s q A.lk)).length = A.n := by simp
 have kget : ∀ i, i < A.n -> ((List.range A.n).map (spt s q A.lk)).getD i 0 = spt s q A.lk i := fun i hi => by
  rw [List.getD_eq_getElem?_getD, List.getElem?_map, List.getElem?_range hi]; rfl
 have lt : ∀ i, i < A.n -> (A.lk i).low < (A.lk i).high := fun i hi => by
  have h := a7 i hi
  simp only [lkB, kD, kE] at h
  exact h.1.1.1.2
 have bd : ∀ i, i < A.n -> 0 <= spt s q A.lk i /\ spt s q A.lk i <= s := fun i hi => by
  have hb := fitB_iff.1 hf' i hi
  obtain ⟨b1, b2, b3, b4⟩ := fN_bd s1 (lt i hi) hb.1 hb.2
  exact ⟨b1, b2⟩
 generalize (List.range A.n).map (spt s q A.lk) = ks at *
 have i1 : inK s ks := fun i hi => by rw [kget i (by omega)]; exact bd i (by omega)
 have ol := osF_len s x ks ks.length
 have i2 : inK s (osF s x ks ks.length) := fun i hi => by
  rw [osF_get s x ks i (by omega), if_pos (by omega)]
  unfold blw
  generalize IntKind.i64.wrap _ = z
  have := Int.emod_nonneg z (show s + 1 ≠ 0 by omega)
  have := Int.emod_lt_of_pos z (show 0 < s + 1 by omega)
  omega
 have key : ∀ i, i < q.length -> rabs ((vL s A.lk ks).getD i 0 - q.getD i 0) <= rabs ((vL s A.lk (osF s x ks ks.length)).getD i 0 - q.getD i 0) := fun i hi => by
  rw [vL_get s A.lk ks (by omega), vL_get s A.lk _ (by omega)]
  unfold vK
  rw [kget i (by omega)]
  exact near_key (q := q.getD i 0) s1 (lt i (by omega)) hf2 rfl
 have ga := goesRa hG A s x s1 s12 q ks (by omega)
 have pl : (vL s A.lk ks).length = q.length := by rw [vL, List.length_map, List.length_range]; omega
 have rl : (vL s A.lk (osF s x ks ks.length)).length = q.length := by rw [vL, List.length_map, List.length_range]; omega
 have gb := goesRb hG hT q _ _ (by omega) pl rl key
 have c1 : isVl (qt A) s ks := ⟨A, rfl, hA, s1, s12, hk, i1⟩
 have c2 : isVl (qt A) s (osF s x ks ks.length) := ⟨A, rfl, hA, s1, s12, by omega, i2⟩
 have p53 := pcCn hG ks (by omega)
 generalize osF s x ks ks.length = os at *
 refine qq hG (.cons (cst_t p13) (.cons (cst_t p30) (.cons (ok24 hG) (.cons (cst_t (pcNm hG)) (.cons (cst_t p52) (.cons (cst_t p53) (.cons (vkVlu hG hT) .nil))))))) mix enRN (hs := []) (pol := polRN)
  (L := [(12, lcst (aRN A s x q ks ks 0) (.exit 0) (aRN A s x q ks os ks.length)), (21, lcst (bRN q (vL s A.lk ks) (vL s A.lk os) 0) (.exit 2) (bRN q (vL s A.lk ks) (vL s A.lk os) q.length))])
  (lps2 (b1 := bRa) (b2 := bRb) (by kernel_rfl) (by kernel_rfl) (by kernel_rfl) (by kernel_rfl) (by kernel_rfl) (lcst_ok ga) (lcst_ok gb)) ?_
 refine (eRN l m A st s x q ks os (vL s A.lk ks) (vL s A.lk os) _ _).trans ?_
 simp only [List.drop_zero, List.take_length, hS]
 repeat first | rw [k5 (by first | (simp only [kD, Bool.or_eq_true, kE, kH, Nat.blt_eq, kI, kJ, kK, kM]; omega) | exact decP_iff.2 c1 | exact decP_iff.2 c2 | exact decP_iff.2 ⟨rfl, trivial⟩ | exact decP_iff.2 rfl | exact kF rfl | decide)] | rw [k6 (by first | (simp only [Bool.and_eq_false_iff, Bool.not_eq_false', kE, kM]; omega) | exact decP_iff.2 c1 | exact decP_iff.2 c2 | exact congrArg (!·) (kF rfl) | decide)]
 refine Eq.trans (k6 (show (!decide (((vL s A.lk ks).length : Int) = (q.length : Int))) = false by rw [kF (by omega)]; rfl)) ?_
 refine Eq.trans (k6 (show (!decide (((vL s A.lk os).length : Int) = (q.length : Int))) = false by rw [kF (by omega)]; rfl)) ?_
 exact k5 isLS_t
end
section
open Go
theorem calls_of_does {P : Program} {g : Nat} {fn : Func} {c : Code} (hg : Enters P g fn c) {vs : Array Value} {w : World} {R : Value -> World -> Prop} (h : Does P g vs w R) : Calls P g vs w fun e w' => ∃ v, e = .returned v /\ R v w' := by
 have h1 := h { dst := some 0, op := .move (.const undef), type := 0, pos := "", after := #[], guard := none } ⟨#[undef], []⟩ (fun a w' => ∃ v, a.tmps[0]? = some v /\ R v w') (fun _ _ _ => False) (fun v w' hv => ⟨v, by simp [Act.put], hv⟩)
 have : (callFunc g vs).run P w = .ok (.enter g vs) w := by
  have hname : fn.name ≠ "runtime.NumGoroutine" := by simpa using hg.name
  simp [callFunc, hg.at_, hname, hg.body]
 rw [this, Oper.upon_enter] at h1
 refine h1.mono fun e w' he => ?_
 cases e with
 | returned v =>
  obtain ⟨v', hv, hr⟩ := he
  simp [Act.put] at hv
  subst hv
  exact ⟨v, rfl, hr⟩
 | panicked chain => exact absurd he (by simp)
 | outgrown => exact absurd he (by simp [LetsOut])
theorem HRel.none (w : World) : HRel w (fun _ => False) qF (hget (([] : List Blk).map some)) :=
 ⟨fun b k h => by simp [hget] at h, fun b k a z h => by simp [hget] at h, fun b b' k k' a z z' h => by simp [hget] at h, fun a h => h.elim⟩
theorem keptBut_of_old {w w' : World} (h1 : w'.os = w.os) (h2 : w'.output = w.output) (h3 : ∀ n, n < w.heap.size -> w'.heap[n]? = w.heap[n]?) (may : MemPlace -> Prop) : w.keptBut w' may := by
 refine ⟨h1, h2, fun i hi => ?_⟩
 rw [h3 i hi]
 split
 ·rename_i e1 e2
  rw [e1] at e2
  cases e2
  exact ⟨rfl, rfl, rfl, fun _ _ => rfl⟩
 ·rename_i e1 e2
  rw [e1] at e2
  cases e2
  exact .inr ⟨rfl, rfl⟩
 ·rfl
end
section
open Go Go.ChangeShapes Go.WideShapes
set_option maxRecDepth 100000
def blkOf : Value -> Nat -> Prop
 | .slice (some a) _ _, b => b = a.block
 | _, _ => False
section
variable {H : Type} {enc : TypeId × Value -> H} {P : Program} {w : World} {t e : TypeId} {base : Nat} {v : Value} {d : DataW H} {p : List MemPlace}
theorem arg_ints (ht : P.underlying t = some (.slice e)) (he : P.underlying e = some (.int .i64)) (hc : P.cellsOf e = 1)
  (hval : Value.okWide P w .any base t v) (h : DataW.Trod enc P w 0 (fun _ => true) true t v d p) :
  ∃ u : PV, okW u = true /\ (∀ n ∈ intsW u, -9223372036854775808 <= n /\ n <= 9223372036854775807) /\ (∀ b, blkOf v b -> b < w.heap.size) /\ (∀ S : Nat -> Prop, (∀ b, blkOf v b -> S b) -> RepV w S qF (.w u) v) /\
   (∀ w' : World, (∀ n, n < w.heap.size -> w'.heap[n]? = w.heap[n]?) -> ∃ p', DataW.Trod enc P w' 0 (fun b => decide (b < w.heap.size)) true t v d p') /\
   ((intsW u = [] /\ d = .nil) \/ ∃ sp, d = .slice (lits .i64 (intsW u)) sp) := by
 have hval' := hval
 obtain ⟨a0, len, cap, rfl⟩ := okWide_slice ht hval
 obtain ⟨fuel, hf⟩ := h
 rcases open_ints ht he hc hf with ⟨hcs, hx⟩ | ⟨a, len', cap', zs, hcs, _, hl, hm, hz, hx, hcell, hwz⟩
 ·simp [Value.cells] at hcs
  obtain ⟨rfl, rfl, rfl⟩ := hcs
  simp only [Prod.mk.injEq] at hx
  obtain ⟨rfl, rfl⟩ := hx
  refine ⟨.nil, rfl, fun n hn => (nomatch hn), fun b hb => hb.elim, fun S _ => .cell _ _ _ rfl (.w _ _ _ (.nil _)), fun w' _ => ⟨[], RowKit.shut_slice_nil ht⟩, .inl ⟨rfl, rfl⟩⟩
 ·simp [Value.cells] at hcs
  obtain ⟨rfl, rfl, rfl⟩ := hcs
  simp only [Prod.mk.injEq] at hx
  obtain ⟨rfl, rfl⟩ := hx
  simp only [if_true] at hz
  unfold Value.okWide at hval'
  rw [ht] at hval'
  simp only [Cell.okWide, Cell.ok, ht] at hval'
  obtain ⟨_, _, _, hsp, row, cells, hsh, _⟩ := hval'
  obtain ⟨b, off, spot⟩ := a
  simp only at hsp
  subst hsp
  have hb : b < w.heap.size := by
   unfold World.shape? at hsh
   split at hsh
   ·rename_i hh; exact (Array.getElem?_eq_some_iff.1 hh).1
   ·cases hsh
  have hcell' : ∀ j, j < zs.length -> w.cell? ⟨b, off + j, none⟩ = some (.int .i64 (zs.getD j 0)) := fun j hj => by rw [<- add_plain]; exact hcell j hj
  have hlen : (zs.take len).length = len := by rw [List.length_take]; omega
  refine ⟨.lst 1 (.ints .i64 (zs.take len)), rfl, fun n hn => bounds_i64 (hwz n (List.mem_of_mem_take hn)), fun c hc => (by rw [show c = b from hc]; exact hb), fun S hS => ?_, fun w' hw' => ?_, .inr ⟨_, rfl⟩⟩
  ·refine .cell _ _ _ rfl (.w _ _ _ ?_)
   have := RepC.lst (w := w) (S := S) qF 1 (.ints .i64 (zs.take len)) b off cap (fun j => [.int .i64 ((zs.take len).getD j 0)]) (by show (zs.take len).length <= cap; omega) (hS b rfl)
    (fun i hi => .i _ _ _) (fun _ _ => rfl) (fun i j hi hj => by
     have hi' : i < len := by rw [<- hlen]; exact hi
     obtain rfl : j = 0 := by omega
     show w.cell? ⟨b, off + (i * 1 + 0), none⟩ = _
     rw [Nat.mul_one, Nat.add_zero, hcell' i (by omega)]
     simp [List.getD_eq_getElem?_getD, hi'])
   rw [show (Cont.ints .i64 (zs.take len)).len = len from hlen] at this
   exact this
  ·have hd : decide (b < w.heap.size) = true := kF hb
   exact ⟨_, 2, shut_ints' (enc := enc) (w := w') (base := 0) (spare := fun b => decide (b < w.heap.size)) (held := true) (len := len) (cap := cap) (zs := zs) 0 ht he hc
    (Nat.zero_le b) hl hm (by simp only [hd, if_true]; exact hz) (fun i hi => by rw [cell_block (hw' b hb)]; exact hcell' i hi) hwz⟩
end
end
section
open Go
set_option maxRecDepth 100000
theorem calls_trueG {P : Program} {G : World -> (Nat -> Prop) -> Prop} {g : Nat} {fn : Func} {c : Code} (hg : Enters P g fn c) {args : List PV} (h : PC P G g args [] (.bl true) []) {w : World} {S : Nat -> Prop} {vs : List Value} (hw : G w S) (hS : ∀ a, S a -> a < w.heap.size)
  (hv : RepVL w S qF args vs) (may : MemPlace -> Prop) :
  Calls P g vs.toArray w fun e w' => e = .returned (.bool true) /\ w.keptBut w' may /\ ∀ n, n < w.heap.size -> w'.heap[n]? = w.heap[n]? := by
 refine (calls_of_does hg (h w S qF vs hw hv ⟨fun b k h => by simp [hget] at h, fun b k a z h => by simp [hget] at h, fun b b' k k' a z z' h => by simp [hget] at h, hS⟩ (fun _ _ => rfl))).mono fun e w' he => ?_
 obtain ⟨v, rfl, S', μ', c⟩ := he
 have hr := c.rep
 have : v = .bool true := by
  cases hr with
  | cell _ _ _ _ h => cases h; rfl
  | agg _ _ _ hv h => simp [isAgg, unfr, unfrA, unfr1] at hv
 subst this
 have old : ∀ n, n < w.heap.size -> w'.heap[n]? = w.heap[n]? := fun n hn => c.old n hn (fun b z hb => by simp at hb)
 exact ⟨rfl, keptBut_of_old c.os c.output old may, old⟩
def TG (w : World) (S : Nat -> Prop) : Prop := S 1 /\ Go.Proofs.TabAt 1 Go.Lib.deBruijn64tab w
theorem tg_ok : GOk TG := fun _ _ _ _ m h => ⟨m.sub 1 h.1, fun j hj => (m.cell 1 h.1 j).trans (h.2 j hj)⟩
theorem tg_tab : TabG TG := fun _ _ h => h.2
theorem tab_block {w : World} (h : Go.Proofs.TabAt 1 Go.Lib.deBruijn64tab w) : 1 < w.heap.size := by
 have h0 := h 0 (by decide)
 rcases Nat.lt_or_ge 1 w.heap.size with h1 | h1
 ·exact h1
 ·unfold World.cell? at h0
  rw [show w.heap[(⟨1, 0, none⟩ : Addr).block]? = none from Array.getElem?_eq_none h1] at h0
  cases h0
theorem tab_of_laid {laid : List (String × DataW Unit)} {W : World} (hl : laid = [("math/bits.deBruijn64tab", Go.Lib.tabData .u8 (Go.Lib.deBruijn64tab.map fun n : Nat => (n : Int)))]) (h : laidMetH Tryd.prog laid W) : Go.Proofs.TabAt 1 Go.Lib.deBruijn64tab W := by
 subst hl
 have h1 : laidMet Tryd.prog [("math/bits.deBruijn64tab", Go.Lib.tabData .u8 (Go.Lib.deBruijn64tab.map fun n : Nat => (n : Int)))] W := h
 have h2 := Go.Lib.tabIs_of_head (g := 1) (t := 199) (e := 5) (n := 64) (by kernel_rfl) (by kernel_rfl) (by kernel_rfl) (by kernel_rfl) (by kernel_rfl) (by kernel_rfl) h1
 intro j hj
 have h3 := h2.cell (g := 1) (by kernel_rfl) j (by rw [List.length_map]; exact hj)
 rw [h3, List.getD_eq_getElem?_getD, List.getD_eq_getElem?_getD, List.getElem?_map, List.getElem?_eq_getElem hj]
 rfl
end
end Go.Proofs.YtnenjkgffapplaaDoor.PE
