/-
  Part 5 of the proof: contracts of the program's functions. Conditions: those of the theorems below.
-/
import Derived.Test.YtnenjkgffapplaaDoorTf4
import Derived.Test.YtnenjkgffapplaaDoorTf2
import Derived.RowKit3
import GoSem.ClaimChange
import Derived.ChangeSlices
import Derived.WideShapes
import Derived.OpenShut
import Derived.Test.YtnenjkgffapplaaDoorTf3
import Derived.Lib.LaidTab
set_option linter.all false
noncomputable section
namespace Go.Proofs.YtnenjkgffapplaaDoor.PE
section
open Go Tryd
set_option maxRecDepth 100000
variable {G : World -> (Nat -> Prop) -> Prop} (hG : GOk G)
def b106a : Code := (qh (qd f103)).getD 0 .skip
def b106b : Code := (qh (qd f103)).getD 1 .skip
def pol106 : Pol := { live := [(3, [1, 4, 5, 12, 13, 14]), (8, [1, 4, 5, 26, 27, 28])] }
theorem enter106 : Enters prog 103 f103 (qd f103) := ⟨func103, by kernel_rfl, rfl⟩
def st106a (x : Rat) (w : Nat) (bl : List UInt8) (i : Nat) : LS := ⟨[.ptr 0 3 0 0 [], .i .i64 (bv (bl.take i) : Nat), .i .i64 0, .lst 1 (.ints .u8 (bl.map fun c => (c.toNat : Int))), .i .i64 (bl.length : Nat), .i .i64 (i : Nat)], [some ⟨3, .vals [.q x w]⟩]⟩
def st106b (x : Rat) (w : Nat) (a : Int) (bl : List UInt8) (i : Nat) : LS := ⟨[.ptr 0 3 0 0 [], .i .i64 a, .i .i64 (bv (bl.take i) : Nat), .lst 1 (.ints .u8 (bl.map fun c => (c.toNat : Int))), .i .i64 (bl.length : Nat), .i .i64 (i : Nat)], [some ⟨3, .vals [.q x w]⟩]⟩
theorem r106a (x : Rat) (w : Nat) (a b n i : Int) (l : List Int) : qe prog [] [] pol106 f103.ntmps 0 [1, 4, 5, 12, 13, 14] b106a ⟨[.ptr 0 3 0 0 [], .i .i64 a, .i .i64 b, .lst 1 (.ints .u8 l), .i .i64 n, .i .i64 i], [some ⟨3, .vals [.q x w]⟩]⟩ =
 Tr.br (decide (i < n)) (.br (ix (i) ((l.length : Int))) (.br (ib ((256 : Int) * a)) (.br (ib ((256 : Int) * a + IntKind.i64.wrap (l.getD i.toNat (0 : Int)))) (.br (ib (i + 1)) (.ok (.out .normal (LS.mk [.ptr 0 3 0 0 [], .i .i64 ((256 : Int) * a + IntKind.i64.wrap (l.getD i.toNat (0 : Int))), .i .i64 b, .lst 1 (.ints .u8 l), .i .i64 n, .i .i64 (i + 1)] [some (.mk 3 (.vals [.q x w]))]))) (.no 7002)) (.no 6002)) (.no 6005)) (.no 5003)) (.ok (.out (.exit 0) (LS.mk [.ptr 0 3 0 0 [], .i .i64 a, .i .i64 b, .lst 1 (.ints .u8 l), .i .i64 n, .i .i64 i] [some (.mk 3 (.vals [.q x w]))]))) := by kernel_rfl
theorem r106b (x : Rat) (w : Nat) (a b n i : Int) (l : List Int) : qe prog [] [] pol106 f103.ntmps 0 [1, 4, 5, 26, 27, 28] b106b ⟨[.ptr 0 3 0 0 [], .i .i64 a, .i .i64 b, .lst 1 (.ints .u8 l), .i .i64 n, .i .i64 i], [some ⟨3, .vals [.q x w]⟩]⟩ =
 Tr.br (decide (i < n)) (.br (ix (i) ((l.length : Int))) (.br (ib ((256 : Int) * b)) (.br (ib ((256 : Int) * b + IntKind.i64.wrap (l.getD i.toNat (0 : Int)))) (.br (ib (i + 1)) (.ok (.out .normal (LS.mk [.ptr 0 3 0 0 [], .i .i64 a, .i .i64 ((256 : Int) * b + IntKind.i64.wrap (l.getD i.toNat (0 : Int))), .lst 1 (.ints .u8 l), .i .i64 n, .i .i64 (i + 1)] [some (.mk 3 (.vals [.q x w]))]))) (.no 12002)) (.no 11002)) (.no 11005)) (.no 10003)) (.ok (.out (.exit 2) (LS.mk [.ptr 0 3 0 0 [], .i .i64 a, .i .i64 b, .lst 1 (.ints .u8 l), .i .i64 n, .i .i64 i] [some (.mk 3 (.vals [.q x w]))]))) := by kernel_rfl
def bI (l : List Int) : Int := (bv (l.map fun n => UInt8.ofNat n.toNat) : Nat)
theorem bI_map (bl : List UInt8) : bI (bl.map fun c => (c.toNat : Int)) = (bv bl : Nat) := by
 unfold bI
 rw [List.map_map]
 have : (List.map ((fun n : Int => UInt8.ofNat n.toNat) ∘ fun c : UInt8 => (c.toNat : Int)) bl) = bl := by
  rw [List.map_congr_left (g := id) (fun c _ => by simp), List.map_id]
 rw [this]
def F106 (l : List Int) (n i : Int) : Prop := ∃ bl : List UInt8, l = (bl.map fun c => (c.toNat : Int)) /\ n = (bl.length : Nat) /\ i = 0 /\ bl.length <= 2
def l106a : qx := fun ls K => match ls with
 | ⟨[.ptr 0 3 0 0 [], .i .i64 a, .i .i64 b, .lst 1 (.ints .u8 l), .i .i64 n, .i .i64 i], [some ⟨3, .vals [.q x w]⟩]⟩ => .br (qg (F106 l n i /\ a = 0 /\ b = 0)) (K (.exit 0) ⟨[.ptr 0 3 0 0 [], .i .i64 (bI l), .i .i64 b, .lst 1 (.ints .u8 l), .i .i64 n, .i .i64 n], [some ⟨3, .vals [.q x w]⟩]⟩) (.no 1)
 | _ => .no 1
def l106b : qx := fun ls K => match ls with
 | ⟨[.ptr 0 3 0 0 [], .i .i64 a, .i .i64 b, .lst 1 (.ints .u8 l), .i .i64 n, .i .i64 i], [some ⟨3, .vals [.q x w]⟩]⟩ => .br (qg (F106 l n i /\ b = 0)) (K (.exit 2) ⟨[.ptr 0 3 0 0 [], .i .i64 a, .i .i64 (bI l), .lst 1 (.ints .u8 l), .i .i64 n, .i .i64 n], [some ⟨3, .vals [.q x w]⟩]⟩) (.no 1)
 | _ => .no 1
theorem bv2_lt (bl : List UInt8) (i : Nat) (h : bl.length <= 2) : bv (bl.take i) < 65536 := by
 have h1 := bv_lt (bl.take i)
 have h2 : 256 ^ (bl.take i).length <= 256 ^ 2 := Nat.pow_le_pow_right (by omega) (by rw [List.length_take]; omega)
 omega
theorem bv_take_succ (bl : List UInt8) (i : Nat) (h : i < bl.length) : bv (bl.take (i + 1)) = bv (bl.take i) * 256 + (bl.getD i 0).toNat := by
 rw [List.take_add_one, List.getElem?_eq_getElem h, List.getD_eq_getElem?_getD, List.getElem?_eq_getElem h]
 exact bv_snoc _ _
theorem byte_get (bl : List UInt8) (i : Nat) (h : i < bl.length) : IntKind.i64.wrap ((bl.map fun c => (c.toNat : Int)).getD i 0) = ((bl.getD i 0).toNat : Int) := by
 rw [List.getD_eq_getElem?_getD, List.getD_eq_getElem?_getD, List.getElem?_map, List.getElem?_eq_getElem h]
 have := UInt8.toNat_lt (bl[i])
 show IntKind.i64.wrap ((bl[i].toNat : Nat) : Int) = ((bl[i].toNat : Nat) : Int)
 exact wi64 (by omega) (by omega)
include hG in
theorem loop106a : qv prog G f103.ntmps 0 [1, 4, 5, 12, 13, 14] b106a l106a := by
 intro ls K y hm h
 unfold l106a at h
 split at h
 case h_2 => cases h
 rename_i a b l n i x w
 obtain ⟨hc, hr⟩ := kA h
 obtain ⟨⟨bl, rfl, rfl, rfl, hl⟩, rfl, rfl⟩ := decP_iff.1 hc
 have hg := Goes.count (R := Rnd prog G f103.ntmps 0 [1, 4, 5, 12, 13, 14] b106a) (fun i => st106a x w bl i) (e := .exit 0) (ls' := st106a x w bl bl.length) (by simp) bl.length 0
  (fun i _ hi => qb hG .nil mix (L := []) (pol := pol106) (O := []) (kD (by kernel_rfl)) (Nat.zero_le _) (by
   have hi' : i < bl.length := by omega
   have b1 := bv2_lt bl i hl
   have b2 := bv2_lt bl (i + 1) hl
   have b3 := bv_take_succ bl i hi'
   have b4 := byte_get bl i hi'
   unfold st106a
   rw [r106a, Int.toNat_natCast, b4, k5 (kG (by omega)), k5 (by simp only [kE, kF, List.length_map]; omega), k5 (by simp only [kE, kF]; omega), k5 (by simp only [kE, kF]; omega), k5 (by simp only [kE, kF]; omega), k7]
   have e1 : 256 * ((bv (bl.take i) : Nat) : Int) + ((bl.getD i 0).toNat : Int) = ((bv (bl.take (i + 1)) : Nat) : Int) := by omega
   rw [e1]
   rfl))
  (by
   refine qb hG .nil mix (L := []) (pol := pol106) (O := []) (kD (by kernel_rfl)) (Nat.zero_le _) ?_
   unfold st106a
   rw [Nat.zero_add, r106a, k6 (kH (by omega)), k7])
 refine ⟨_, _, qr hg, ?_⟩
 unfold st106a
 rw [List.take_length, <- bI_map]
 exact hr
include hG in
theorem loop106b : qv prog G f103.ntmps 0 [1, 4, 5, 26, 27, 28] b106b l106b := by
 intro ls K y hm h
 unfold l106b at h
 split at h
 case h_2 => cases h
 rename_i a b l n i x w
 obtain ⟨hc, hr⟩ := kA h
 obtain ⟨⟨bl, rfl, rfl, rfl, hl⟩, rfl⟩ := decP_iff.1 hc
 have hg := Goes.count (R := Rnd prog G f103.ntmps 0 [1, 4, 5, 26, 27, 28] b106b) (fun i => st106b x w a bl i) (e := .exit 2) (ls' := st106b x w a bl bl.length) (by simp) bl.length 0
  (fun i _ hi => qb hG .nil mix (L := []) (pol := pol106) (O := []) (kD (by kernel_rfl)) (Nat.zero_le _) (by
   have hi' : i < bl.length := by omega
   have b1 := bv2_lt bl i hl
   have b2 := bv2_lt bl (i + 1) hl
   have b3 := bv_take_succ bl i hi'
   have b4 := byte_get bl i hi'
   unfold st106b
   rw [r106b, Int.toNat_natCast, b4, k5 (kG (by omega)), k5 (by simp only [kE, kF, List.length_map]; omega), k5 (by simp only [kE, kF]; omega), k5 (by simp only [kE, kF]; omega), k5 (by simp only [kE, kF]; omega), k7]
   have e1 : 256 * ((bv (bl.take i) : Nat) : Int) + ((bl.getD i 0).toNat : Int) = ((bv (bl.take (i + 1)) : Nat) : Int) := by omega
   rw [e1]
   rfl))
  (by
   refine qb hG .nil mix (L := []) (pol := pol106) (O := []) (kD (by kernel_rfl)) (Nat.zero_le _) ?_
   unfold st106b
   rw [Nat.zero_add, r106b, k6 (kH (by omega)), k7])
 refine ⟨_, _, qr hg, ?_⟩
 unfold st106b
 rw [List.take_length, <- bI_map]
 exact hr
theorem e106 (x : Rat) (w : Nat) : evF prog [] [(3, l106a), (8, l106b)] pol106 f103 [.q x w] [] qo =
 Tr.br (qg (F106 (List.map (fun (c : UInt8) => (c.toNat : Int)) (qa x.num.natAbs x.num.natAbs []).toArray.toList) (↑(List.map (fun (c : UInt8) => (c.toNat : Int)) (qa x.num.natAbs x.num.natAbs []).toArray.toList).length : Int) (0 : Int) /\ (0 : Int) = 0 /\ (0 : Int) = 0)) (.br (qg (F106 (List.map (fun (c : UInt8) => (c.toNat : Int)) (qa x.den x.den []).toArray.toList) (↑(List.map (fun (c : UInt8) => (c.toNat : Int)) (qa x.den x.den []).toArray.toList).length : Int) (0 : Int) /\ (0 : Int) = 0)) (.br (ql x) (.br (ib ((0 : Int) - bI (List.map (fun (c : UInt8) => (c.toNat : Int)) (qa x.num.natAbs x.num.natAbs []).toArray.toList))) (.ok (.ret (.tup [.i .i64 ((0 : Int) - bI (List.map (fun (c : UInt8) => (c.toNat : Int)) (qa x.num.natAbs x.num.natAbs []).toArray.toList)), .i .i64 (if (1 : Int) > bI (List.map (fun (c : UInt8) => (c.toNat : Int)) (qa x.den x.den []).toArray.toList) then (1 : Int) else bI (List.map (fun (c : UInt8) => (c.toNat : Int)) (qa x.den x.den []).toArray.toList))]) [])) (.no 14002)) (.ok (.ret (.tup [.i .i64 (bI (List.map (fun (c : UInt8) => (c.toNat : Int)) (qa x.num.natAbs x.num.natAbs []).toArray.toList)), .i .i64 (if (1 : Int) > bI (List.map (fun (c : UInt8) => (c.toNat : Int)) (qa x.den x.den []).toArray.toList) then (1 : Int) else bI (List.map (fun (c : UInt8) => (c.toNat : Int)) (qa x.den x.den []).toArray.toList))]) []))) (.no 1)) (.no 1) := by kernel_rfl
def smX (x : Rat) : Bool := decide (x.num.natAbs < 1000) && decide (x.den < 1000)
def s106 : Spec := fun args hs K => match args, hs with
 | [.q x _], [] => .br (smX x) (K (.tup [.i .i64 x.num, .i .i64 x.den]) []) (.no 1)
 | _, _ => .no 1


theorem bI_nbl (n : Nat) : bI (List.map (fun (c : UInt8) => (c.toNat : Int)) (qa n n []).toArray.toList) = (n : Int) := by
 rw [show (qa n n []).toArray.toList = nbl n from rfl, bI_map, bv_nbl]
theorem F106_nbl {n : Nat} (h : n < 65536) : F106 (List.map (fun (c : UInt8) => (c.toNat : Int)) (qa n n []).toArray.toList) ((List.map (fun (c : UInt8) => (c.toNat : Int)) (qa n n []).toArray.toList).length : Nat) 0 := by
 rw [show (qa n n []).toArray.toList = nbl n from rfl]
 exact ⟨nbl n, rfl, by rw [List.length_map], rfl, nbl_length_le (k := 2) (by omega)⟩
include hG in
theorem ok106 : qc prog G 103 s106 := by
 refine qn hG .nil mix enter106 (L := [(3, l106a), (8, l106b)]) (pol := pol106) fun args hs K x h => ?_
 unfold s106 at h
 split at h
 case h_2 => cases h
 rename_i x w
 obtain ⟨hc, hr⟩ := kA h
 simp only [smX, kE, kF] at hc
 refine ⟨lps2 (b1 := b106a) (live1 := [1, 4, 5, 12, 13, 14]) (sp1 := l106a) (b2 := b106b) (live2 := [1, 4, 5, 26, 27, 28]) (sp2 := l106b) (m := 0) (by kernel_rfl) (by kernel_rfl) (by kernel_rfl) (by kernel_rfl) (by kernel_rfl) (loop106a hG) (loop106b hG), ?_⟩
 have hd := x.den_pos
 rw [e106, bI_nbl, bI_nbl, k5 (decP_iff.2 ⟨F106_nbl (by omega), rfl, rfl⟩), k5 (decP_iff.2 ⟨F106_nbl (by omega), rfl⟩)]
 have e2 : (if (1 : Int) > (x.den : Int) then (1 : Int) else (x.den : Int)) = (x.den : Int) := if_neg (by omega)
 rw [e2]
 cases hn : ql x with
 | true =>
  have hneg : x.num < 0 := of_decide_eq_true hn
  rw [k5 rfl, k5 (by simp only [kE, kF]; omega), k7, show (0 : Int) - (x.num.natAbs : Int) = x.num by omega]
  exact ⟨_, _, _, rfl, .refl _, hr⟩
 | false =>
  have hneg : ¬ x.num < 0 := of_decide_eq_false hn
  rw [k6 rfl, k7, show (x.num.natAbs : Int) = x.num by omega]
  exact ⟨_, _, _, rfl, .refl _, hr⟩
def b69 : Code := (qh (qd f61)).getD 0 .skip
def pol69 : Pol := { live := [(3, [1, 5, 14, 15, 16])], wr := [(60, [0])] }
theorem enter69 : Enters prog 61 f61 (qd f61) := ⟨func61, by kernel_rfl, rfl⟩
def O69 : Orc := [(60, s45), (75, s81), (103, s106)]
def n69 (v : PV) (n : Nat) (lk : Nat -> Lk) (i : Int) : LS := ⟨[.ptr 0 1 0 0 [], .nil, .lst 16 (.fn n (fun j => lkPV (lk j))), .i .i64 n, .i .i64 i], [some ⟨1, .vals [.agg [.w v]]⟩]⟩
def x69 (v : PV) (n : Nat) (lk : Nat -> Lk) (xs : List Rat) (i : Int) : LS := ⟨[.ptr 0 1 0 0 [], .sl 1 3 0 xs.length, .lst 16 (.fn n (fun j => lkPV (lk j))), .i .i64 n, .i .i64 i], [some ⟨1, .vals [.agg [.w v]]⟩, some ⟨3, .rats 64 xs⟩]⟩
theorem r69n (v : PV) (n : Nat) (lk : Nat -> Lk) (i : Int) : qe prog O69 [] pol69 f61.ntmps 1 [1, 5, 14, 15, 16] b69 (n69 v n lk i) =
 Tr.br (decide (i < (n : Int))) (.br (ix (i) ((n : Int))) (.br (smX (lk i.toNat).low) (.br (smX (lk i.toNat).high) (.br (okW v && decide ((0 : Int) < 9) && decide ((9 : Int) <= 4294967296)) (.br (ib ((8 : Int) * (lk i.toNat).low.num)) (.br (ib ((8 : Int) * (lk i.toNat).low.num * (↑(lk i.toNat).high.den : Int))) (.br (ib ((lk i.toNat).high.num * (↑(lk i.toNat).low.den : Int))) (.br (ib ((lk i.toNat).low.num * (↑(lk i.toNat).high.den : Int))) (.br (ib ((lk i.toNat).high.num * (↑(lk i.toNat).low.den : Int) - (lk i.toNat).low.num * (↑(lk i.toNat).high.den : Int))) (.br (ib (((lk i.toNat).high.num * (↑(lk i.toNat).low.den : Int) - (lk i.toNat).low.num * (↑(lk i.toNat).high.den : Int)) * nx v (9 : Int))) (.br (ib ((8 : Int) * (lk i.toNat).low.num * (↑(lk i.toNat).high.den : Int) + ((lk i.toNat).high.num * (↑(lk i.toNat).low.den : Int) - (lk i.toNat).low.num * (↑(lk i.toNat).high.den : Int)) * nx v (9 : Int))) (.br (ib ((8 : Int) * (↑(lk i.toNat).low.den : Int))) (.br (ib ((8 : Int) * (↑(lk i.toNat).low.den : Int) * (↑(lk i.toNat).high.den : Int))) (.br (decide ((0 : Int) < 8 * (↑(lk i.toNat).low.den : Int) * (↑(lk i.toNat).high.den : Int)) && decide ((8 : Int) * (↑(lk i.toNat).low.den : Int) * (↑(lk i.toNat).high.den : Int) < 4611686018427387904) && decide ((-4611686018427387904 : Int) < 8 * (lk i.toNat).low.num * (↑(lk i.toNat).high.den : Int) + ((lk i.toNat).high.num * (↑(lk i.toNat).low.den : Int) - (lk i.toNat).low.num * (↑(lk i.toNat).high.den : Int)) * nx v (9 : Int)) && decide ((8 : Int) * (lk i.toNat).low.num * (↑(lk i.toNat).high.den : Int) + ((lk i.toNat).high.num * (↑(lk i.toNat).low.den : Int) - (lk i.toNat).low.num * (↑(lk i.toNat).high.den : Int)) * nx v (9 : Int) < 4611686018427387904)) (.br (Nat.blt (0 : Nat) [mkRat ((8 : Int) * (lk i.toNat).low.num * (↑(lk i.toNat).high.den : Int) + ((lk i.toNat).high.num * (↑(lk i.toNat).low.den : Int) - (lk i.toNat).low.num * (↑(lk i.toNat).high.den : Int)) * nx v (9 : Int)) ((8 : Int) * (↑(lk i.toNat).low.den : Int) * (↑(lk i.toNat).high.den : Int)).toNat].length && [mkRat ((8 : Int) * (lk i.toNat).low.num * (↑(lk i.toNat).high.den : Int) + ((lk i.toNat).high.num * (↑(lk i.toNat).low.den : Int) - (lk i.toNat).low.num * (↑(lk i.toNat).high.den : Int)) * nx v (9 : Int)) ((8 : Int) * (↑(lk i.toNat).low.den : Int) * (↑(lk i.toNat).high.den : Int)).toNat].length.ble 4294967296) (.br (ib (i + 1)) (.ok (.out .normal { t := [.ptr 0 1 0 0 [], .sl 1 3 0 1, .lst 16 (.fn n fun (j : Nat) => .agg [.q (lk j).len 64, .q (lk j).low 64, .q (lk j).high 64, .q (lk j).spd 64, .q (lk j).brk 64, .lst 6 (.fn (lk j).np fun (a : Nat) => .agg [.q ((lk j).px a) 64, .q ((lk j).py a) 64])]), .i .i64 (n : Int), .i .i64 (i + 1)], h := [some { e := 1, c := Cont.vals [.agg [(rs v).w]] }, some { e := 3, c := Cont.rats 64 [mkRat ((8 : Int) * (lk i.toNat).low.num * (↑(lk i.toNat).high.den : Int) + ((lk i.toNat).high.num * (↑(lk i.toNat).low.den : Int) - (lk i.toNat).low.num * (↑(lk i.toNat).high.den : Int)) * nx v (9 : Int)) ((8 : Int) * (↑(lk i.toNat).low.den : Int) * (↑(lk i.toNat).high.den : Int)).toNat] }] })) (.no 10002)) (.no 9002)) (.no 1)) (.no 9005)) (.no 9007)) (.no 9009)) (.no 9010)) (.no 9012)) (.no 9013)) (.no 9016)) (.no 9019)) (.no 9021)) (.no 1)) (.no 1)) (.no 1)) (.no 5004)) (.ok (.out (.exit 0) { t := [.ptr 0 1 0 0 [], .nil, .lst 16 (.fn n fun (j : Nat) => .agg [.q (lk j).len 64, .q (lk j).low 64, .q (lk j).high 64, .q (lk j).spd 64, .q (lk j).brk 64, .lst 6 (.fn (lk j).np fun (a : Nat) => .agg [.q ((lk j).px a) 64, .q ((lk j).py a) 64])]), .i .i64 (n : Int), .i .i64 i], h := [some { e := 1, c := Cont.vals [.agg [v.w]] }] })) := by kernel_rfl
theorem r69 (v : PV) (n : Nat) (lk : Nat -> Lk) (xs : List Rat) (i : Int) : qe prog O69 [] pol69 f61.ntmps 1 [1, 5, 14, 15, 16] b69 (x69 v n lk xs i) =
 Tr.br (decide (i < (n : Int))) (.br (ix (i) ((n : Int))) (.br (smX (lk i.toNat).low) (.br (smX (lk i.toNat).high) (.br (okW v && decide ((0 : Int) < 9) && decide ((9 : Int) <= 4294967296)) (.br (ib ((8 : Int) * (lk i.toNat).low.num)) (.br (ib ((8 : Int) * (lk i.toNat).low.num * (↑(lk i.toNat).high.den : Int))) (.br (ib ((lk i.toNat).high.num * (↑(lk i.toNat).low.den : Int))) (.br (ib ((lk i.toNat).low.num * (↑(lk i.toNat).high.den : Int))) (.br (ib ((lk i.toNat).high.num * (↑(lk i.toNat).low.den : Int) - (lk i.toNat).low.num * (↑(lk i.toNat).high.den : Int))) (.br (ib (((lk i.toNat).high.num * (↑(lk i.toNat).low.den : Int) - (lk i.toNat).low.num * (↑(lk i.toNat).high.den : Int)) * nx v (9 : Int))) (.br (ib ((8 : Int) * (lk i.toNat).low.num * (↑(lk i.toNat).high.den : Int) + ((lk i.toNat).high.num * (↑(lk i.toNat).low.den : Int) - (lk i.toNat).low.num * (↑(lk i.toNat).high.den : Int)) * nx v (9 : Int))) (.br (ib ((8 : Int) * (↑(lk i.toNat).low.den : Int))) (.br (ib ((8 : Int) * (↑(lk i.toNat).low.den : Int) * (↑(lk i.toNat).high.den : Int))) (.br (decide ((0 : Int) < 8 * (↑(lk i.toNat).low.den : Int) * (↑(lk i.toNat).high.den : Int)) && decide ((8 : Int) * (↑(lk i.toNat).low.den : Int) * (↑(lk i.toNat).high.den : Int) < 4611686018427387904) && decide ((-4611686018427387904 : Int) < 8 * (lk i.toNat).low.num * (↑(lk i.toNat).high.den : Int) + ((lk i.toNat).high.num * (↑(lk i.toNat).low.den : Int) - (lk i.toNat).low.num * (↑(lk i.toNat).high.den : Int)) * nx v (9 : Int)) && decide ((8 : Int) * (lk i.toNat).low.num * (↑(lk i.toNat).high.den : Int) + ((lk i.toNat).high.num * (↑(lk i.toNat).low.den : Int) - (lk i.toNat).low.num * (↑(lk i.toNat).high.den : Int)) * nx v (9 : Int) < 4611686018427387904)) (.br (xs.length.ble xs.length && (xs.length + [mkRat ((8 : Int) * (lk i.toNat).low.num * (↑(lk i.toNat).high.den : Int) + ((lk i.toNat).high.num * (↑(lk i.toNat).low.den : Int) - (lk i.toNat).low.num * (↑(lk i.toNat).high.den : Int)) * nx v (9 : Int)) ((8 : Int) * (↑(lk i.toNat).low.den : Int) * (↑(lk i.toNat).high.den : Int)).toNat].length).ble 4294967296) (.br (ib (i + 1)) (.ok (.out .normal { t := [.ptr 0 1 0 0 [], .sl 1 3 0 (xs.length + [mkRat ((8 : Int) * (lk i.toNat).low.num * (↑(lk i.toNat).high.den : Int) + ((lk i.toNat).high.num * (↑(lk i.toNat).low.den : Int) - (lk i.toNat).low.num * (↑(lk i.toNat).high.den : Int)) * nx v (9 : Int)) ((8 : Int) * (↑(lk i.toNat).low.den : Int) * (↑(lk i.toNat).high.den : Int)).toNat].length), .lst 16 (.fn n fun (j : Nat) => .agg [.q (lk j).len 64, .q (lk j).low 64, .q (lk j).high 64, .q (lk j).spd 64, .q (lk j).brk 64, .lst 6 (.fn (lk j).np fun (a : Nat) => .agg [.q ((lk j).px a) 64, .q ((lk j).py a) 64])]), .i .i64 (n : Int), .i .i64 (i + 1)], h := [some { e := 1, c := Cont.vals [.agg [(rs v).w]] }, some { e := 3, c := Cont.rats 64 (List.take xs.length (List.drop (0 : Nat) xs) ++ [mkRat ((8 : Int) * (lk i.toNat).low.num * (↑(lk i.toNat).high.den : Int) + ((lk i.toNat).high.num * (↑(lk i.toNat).low.den : Int) - (lk i.toNat).low.num * (↑(lk i.toNat).high.den : Int)) * nx v (9 : Int)) ((8 : Int) * (↑(lk i.toNat).low.den : Int) * (↑(lk i.toNat).high.den : Int)).toNat]) }] })) (.no 10002)) (.no 9002)) (.no 1)) (.no 9005)) (.no 9007)) (.no 9009)) (.no 9010)) (.no 9012)) (.no 9013)) (.no 9016)) (.no 9019)) (.no 9021)) (.no 1)) (.no 1)) (.no 1)) (.no 5004)) (.ok (.out (.exit 0) { t := [.ptr 0 1 0 0 [], .sl 1 3 0 xs.length, .lst 16 (.fn n fun (j : Nat) => .agg [.q (lk j).len 64, .q (lk j).low 64, .q (lk j).high 64, .q (lk j).spd 64, .q (lk j).brk 64, .lst 6 (.fn (lk j).np fun (a : Nat) => .agg [.q ((lk j).px a) 64, .q ((lk j).py a) 64])]), .i .i64 (n : Int), .i .i64 i], h := [some { e := 1, c := Cont.vals [.agg [v.w]] }, some { e := 3, c := Cont.rats 64 xs }] })) := by kernel_rfl

def itRs : Nat -> PV -> PV
 | 0, v => v
 | k + 1, v => rs (itRs k v)
theorem okW_itRs {v : PV} (h : okW v = true) : ∀ k, okW (itRs k v) = true
 | 0 => h
 | k + 1 => okW_rs (okW_itRs h k)
def cf0 (l h : Rat) (k : Int) : Rat := mkRat ((8 : Int) * l.num * (h.den : Int) + (h.num * (l.den : Int) - l.num * (h.den : Int)) * k) ((8 : Int) * (l.den : Int) * (h.den : Int)).toNat
def cf1 (lk : Nat -> Lk) (v : PV) (j : Nat) : Rat := cf0 (lk j).low (lk j).high (nx (itRs j v) 9)
def cfL (lk : Nat -> Lk) (v : PV) (n : Nat) : List Rat := (List.range n).map (cf1 lk v)
theorem cfL_succ (lk : Nat -> Lk) (v : PV) (n : Nat) : cfL lk v (n + 1) = cfL lk v n ++ [cf1 lk v n] := by simp [cfL, List.range_succ]
theorem cfL_len (lk : Nat -> Lk) (v : PV) (n : Nat) : (cfL lk v n).length = n := by simp [cfL]
theorem nabs_mul {a b : Int} {A B : Nat} (ha : a.natAbs <= A) (hb : b.natAbs <= B) : (a * b).natAbs <= A * B := by
 rw [Int.natAbs_mul]; exact Nat.mul_le_mul ha hb
theorem smX_iff {x : Rat} : smX x = true ↔ x.num.natAbs < 1000 /\ x.den < 1000 := by simp [smX]
def st69 (v : PV) (n : Nat) (lk : Nat -> Lk) (xs : List Rat) (i : Int) : LS := match xs with
 | [] => n69 v n lk i
 | xs => x69 v n lk xs i
theorem st69_x {v : PV} {n : Nat} {lk : Nat -> Lk} {xs : List Rat} {i : Int} (h : xs ≠ []) : st69 v n lk xs i = x69 v n lk xs i := by
 cases xs with
 | nil => exact absurd rfl h
 | cons x xs => rfl
include hG in
theorem orc69 : OrcOK prog G O69 := .cons (ok45 hG) (.cons (ok81 hG) (.cons (ok106 hG) .nil))
theorem step69 (v : PV) (hw : okW v = true) (n : Nat) (lk : Nat -> Lk) (xs : List Rat) (j : Nat) (hn : n <= 3) (hj : j < n) (hx : xs.length <= 1000) (h1 : smX (lk j).low = true) (h2 : smX (lk j).high = true) :
  (qe prog O69 [] pol69 f61.ntmps 1 [1, 5, 14, 15, 16] b69 (st69 v n lk xs ((j : Nat) : Int))).run = some (.out .normal (st69 (rs v) n lk (xs ++ [cf0 (lk j).low (lk j).high (nx v 9)]) ((j + 1 : Nat) : Int))) := by
 obtain ⟨a1, a2⟩ := smX_iff.1 h1
 obtain ⟨a3, a4⟩ := smX_iff.1 h2
 have d1 := (lk j).low.den_pos
 have d2 := (lk j).high.den_pos
 have g := qw v (show (0 : Int) < 9 by omega)
 have b1 : ((8 : Int) * (lk j).low.num * ((lk j).high.den : Int)).natAbs <= 8 * 1000 * 1000 := nabs_mul (nabs_mul (by omega) (by omega)) (by omega)
 have b2 : ((lk j).high.num * ((lk j).low.den : Int)).natAbs <= 1000 * 1000 := nabs_mul (by omega) (by omega)
 have b3 : ((lk j).low.num * ((lk j).high.den : Int)).natAbs <= 1000 * 1000 := nabs_mul (by omega) (by omega)
 have b4 : (((lk j).high.num * ((lk j).low.den : Int) - (lk j).low.num * ((lk j).high.den : Int)) * nx v 9).natAbs <= 2000000 * 9 := nabs_mul (by omega) (by omega)
 have b5 : ((8 : Int) * ((lk j).low.den : Int) * ((lk j).high.den : Int)).natAbs <= 8 * 1000 * 1000 := nabs_mul (nabs_mul (by omega) (by omega)) (by omega)
 have b6 : 0 < (8 : Int) * ((lk j).low.den : Int) * ((lk j).high.den : Int) := Int.mul_pos (by omega) (by omega)
 rw [st69_x (xs := xs ++ [cf0 (lk j).low (lk j).high (nx v 9)]) (by simp)]
 cases xs with
 | nil =>
  show (qe prog O69 [] pol69 f61.ntmps 1 [1, 5, 14, 15, 16] b69 (n69 v n lk ((j : Nat) : Int))).run = _
  rw [r69n, Int.toNat_natCast, k5 (kG (by omega)), k5 (by simp only [kE, kF]; omega), k5 h1, k5 h2, k5 (by rw [hw]; decide)]
  repeat rw [k5 (by simp only [kE, kF, Nat.blt_eq, kI, kJ, kK]; omega)]
  rw [k7]
  rfl
 | cons y ys =>
  show (qe prog O69 [] pol69 f61.ntmps 1 [1, 5, 14, 15, 16] b69 (x69 v n lk (y :: ys) ((j : Nat) : Int))).run = _
  rw [r69, Int.toNat_natCast, k5 (kG (by omega)), k5 (by simp only [kE, kF]; omega), k5 h1, k5 h2, k5 (by rw [hw]; decide)]
  simp only [kJ] at hx
  repeat rw [k5 (by simp only [kE, kF, Nat.blt_eq, kI, kJ, kK]; omega)]
  rw [k7, List.drop_zero, List.take_length]
  have hlen : ((y :: ys) ++ [cf0 (lk j).low (lk j).high (nx v 9)]).length = (y :: ys).length + 1 := by simp
  unfold x69
  rw [hlen]
  rfl
def Pl69 (v : PV) (n : Nat) (f : Nat -> PV) (m i : Int) : Prop := ∃ lk : Nat -> Lk, f = (fun j => lkPV (lk j)) /\ m = n /\ i = 0 /\ 1 <= n /\ n <= 3 /\ okW v = true /\ ∀ j, j < n -> smX (lk j).low = true /\ smX (lk j).high = true
def cfF (f : Nat -> PV) (v : PV) (n : Nat) : List Rat := cfL (fun j => dLk (f j)) v n
def l69 : qx := fun ls K => match ls with
 | ⟨[.ptr 0 1 0 0 [], .nil, .lst 16 (.fn n f), .i .i64 m, .i .i64 i], [some ⟨1, .vals [.agg [.w v]]⟩]⟩ => .br (qg (Pl69 v n f m i)) (K (.exit 0) ⟨[.ptr 0 1 0 0 [], .sl 1 3 0 (cfF f v n).length, .lst 16 (.fn n f), .i .i64 m, .i .i64 m], [some ⟨1, .vals [.agg [.w (itRs n v)]]⟩, some ⟨3, .rats 64 (cfF f v n)⟩]⟩) (.no 1)
 | _ => .no 1
include hG in
theorem loop69 : qv prog G f61.ntmps 1 [1, 5, 14, 15, 16] b69 l69 := by
 intro ls K y hm h
 unfold l69 at h
 split at h
 case h_2 => cases h
 rename_i n f m i v
 obtain ⟨hc, hr⟩ := kA h
 obtain ⟨lk, rfl, rfl, rfl, hn1, hn, hw, hp⟩ := decP_iff.1 hc
 have hg := Goes.count (R := Rnd prog G f61.ntmps 1 [1, 5, 14, 15, 16] b69) (fun i => st69 (itRs i v) n lk (cfL lk v i) ((i : Nat) : Int)) (e := .exit 0) (ls' := st69 (itRs n v) n lk (cfL lk v n) n) (by simp) n 0
  (fun i _ hi => qb hG (orc69 hG) mix (L := []) (pol := pol69) (O := O69) (kD (by kernel_rfl)) (by cases cfL lk v i <;> simp [st69, n69, x69]) (by
   rw [cfL_succ]
   exact step69 (itRs i v) (okW_itRs hw i) n lk _ i hn (by omega) (by rw [cfL_len]; omega) (hp i (by omega)).1 (hp i (by omega)).2))
  (by
   refine qb hG (orc69 hG) mix (L := []) (pol := pol69) (O := O69) (kD (by kernel_rfl)) (by cases cfL lk v (0 + n) <;> simp [st69, n69, x69]) ?_
   rw [Nat.zero_add]
   cases hc : cfL lk v n with
   | nil =>
    show (qe prog O69 [] pol69 f61.ntmps 1 [1, 5, 14, 15, 16] b69 (n69 (itRs n v) n lk ((n : Nat) : Int))).run = _
    rw [r69n, k6 (kH (by omega)), k7]; rfl
   | cons y ys =>
    show (qe prog O69 [] pol69 f61.ntmps 1 [1, 5, 14, 15, 16] b69 (x69 (itRs n v) n lk (y :: ys) ((n : Nat) : Int))).run = _
    rw [r69, k6 (kH (by omega)), k7]; rfl)
 refine ⟨_, _, qr hg, ?_⟩
 rw [st69_x (by intro h0; have := cfL_len lk v n; rw [h0] at this; simp at this; omega)]
 exact hr
theorem e69 (A : Am) (v : PV) : evF prog O69 [(3, l69)] pol69 f61 [qk A, .ptr 0 1 0 0 []] [⟨1, .vals [.agg [.w v]]⟩] qo =
 Tr.br (qg (Pl69 v A.n (fun (j : Nat) => lkPV (A.lk j)) (A.n : Int) (0 : Int))) (.br ((cfF (fun (j : Nat) => lkPV (A.lk j)) v A.n).length.ble (cfF (fun (j : Nat) => lkPV (A.lk j)) v A.n).length) (.ok (.ret (.fr 3 (.rats 64 (List.take (cfF (fun (j : Nat) => lkPV (A.lk j)) v A.n).length (List.drop (0 : Nat) (cfF (fun (j : Nat) => lkPV (A.lk j)) v A.n))))) [{ e := 1, c := Cont.vals [.agg [(itRs A.n v).w]] }])) (.no 15)) (.no 1) := by kernel_rfl
def limX (A : Am) : Bool := (List.range A.n).all fun j => smX (A.lk j).low && smX (A.lk j).high
def P69 (arm v : PV) : Prop := okA arm /\ limX (dArm arm) = true /\ okW v = true
def s69 : Spec := fun args hs K => match args, hs with
 | [.agg [.s nm, .agg [.agg [.q bx w1, .q by_ w2], .agg [hf, .q t w3]], .lst 16 c], .ptr 0 1 0 0 []], [⟨1, .vals [.agg [.w v]]⟩] =>
  .br (qg (P69 (.agg [.s nm, .agg [.agg [.q bx w1, .q by_ w2], .agg [hf, .q t w3]], .lst 16 c]) v)) (K (.fr 3 (.rats 64 (cfF c.get v c.len))) [⟨1, .vals [.agg [.w (itRs c.len v)]]⟩]) (.no 1)
 | _, _ => .no 1
include hG in
theorem ok69 : qc prog G 61 s69 := by
 intro args hs K x h
 unfold s69 at h
 split at h
 case h_2 => cases h
 rename_i nm bx w1 by_ w2 hf t w3 c v
 obtain ⟨hc, hr⟩ := kA h
 obtain ⟨⟨hv, hA⟩, hx, hw⟩ := decP_iff.1 hc
 generalize hA' : dArm (.agg [.s nm, .agg [.agg [.q bx w1, .q by_ w2], .agg [hf, .q t w3]], .lst 16 c]) = A at *
 have ek : cfF c.get v c.len = cfF (fun j => lkPV (A.lk j)) v A.n := by rw [<- hA']; rfl
 have en : c.len = A.n := by rw [<- hA']; rfl
 obtain ⟨h1, h2, h3, h4, h5, h6, h7⟩ := armB_c hA
 have hlim : ∀ j, j < A.n -> smX (A.lk j).low = true /\ smX (A.lk j).high = true := by
  intro j hj
  have := List.all_eq_true.1 hx j (List.mem_range.2 hj)
  rwa [kE] at this
 rw [ek, en] at hr
 refine ⟨_, _, PC.args (.cons hv (.refl _)) (qp hG (orc69 hG) mix enter69 (L := [(3, l69)]) (pol := pol69) (O := O69) (lps1 (b := b69) (live := [1, 5, 14, 15, 16]) (sp := l69) (m := 1) (by kernel_rfl) (by kernel_rfl) (by kernel_rfl) (loop69 hG)) ?_), hr⟩
 rw [e69, k5 (decP_iff.2 ⟨A.lk, rfl, rfl, rfl, h5, h6, hw, hlim⟩), k5 (by rw [kI]; omega), k7, List.drop_zero, List.take_length]
def pol33 : Pol := { wr := [(61, [1])], own := [9] }
theorem enter33 : Enters prog 30 f30 (qd f30) := ⟨func30, by kernel_rfl, rfl⟩
def s33 : Spec := fun args hs K => match args, hs with
 | [.agg [.s nm, .agg [.agg [.q bx w1, .q by_ w2], .agg [.bl hf, .q t w3]], .lst 16 c], .w v], [] =>
  .br (qg (P69 (.agg [.s nm, .agg [.agg [.q bx w1, .q by_ w2], .agg [.bl hf, .q t w3]], .lst 16 c]) v)) (K (.fr 3 (.rats 64 (cfF c.get v c.len))) []) (.no 1)
 | _, _ => .no 1
theorem e33 (nm : ByteArray) (bx by_ t : Rat) (w1 w2 w3 : Nat) (hf : Bool) (c : Cont) (v : PV) : evF prog [(61, s69)] [] pol33 f30 [.agg [.s nm, .agg [.agg [.q bx w1, .q by_ w2], .agg [.bl hf, .q t w3]], .lst 16 c], .w v] [] qo =
 Tr.br (qg (P69 (.agg [.s nm, .agg [.agg [.q bx w1, .q by_ w2], .agg [.bl hf, .q t w3]], .lst 16 c]) v)) (.br ((cfF c.get v (match c with | Cont.ints k xs => xs.length | Cont.rats n xs => xs.length | Cont.vals vs => vs.length | Cont.fn n f => n)).length.ble (cfF c.get v (match c with | Cont.ints k xs => xs.length | Cont.rats n xs => xs.length | Cont.vals vs => vs.length | Cont.fn n f => n)).length) (.ok (.ret (.fr 3 (.rats 64 (List.take (Cont.rats (64 : Nat) (cfF c.get v c.len)).len (List.drop (0 : Nat) (cfF c.get v c.len))))) [])) (.no 15)) (.no 1) := by kernel_rfl
include hG in
theorem ok33 : qc prog G 30 s33 := by
 refine qn hG (.cons (ok69 hG) .nil) mix enter33 (L := []) (pol := pol33) fun args hs K x h => ?_
 unfold s33 at h
 split at h
 case h_2 => cases h
 rename_i nm bx w1 by_ w2 hf t w3 c v
 obtain ⟨hc, hr⟩ := kA h
 refine ⟨kD (by kernel_rfl), _, _, _, ?_, .refl _, hr⟩
 rw [e33, k5 hc, k5 (by rw [kI]; exact Nat.le_refl _), k7, List.drop_zero]
 show some (Res.ret (.fr 3 (.rats 64 (List.take (cfF c.get v c.len).length (cfF c.get v c.len)))) []) = _
 rw [List.take_length]
theorem enter84 : Enters prog 33 f33 (qd f33) := ⟨func33, by kernel_rfl, rfl⟩
def s84 : Spec := evF prog [(28, s23)] [] {} f33
include hG in
theorem ok84 : qc prog G 33 s84 := spec_ev hG (.cons (ok23 hG) .nil) mix enter84 (fun _ => kD (by kernel_rfl))
def b32 : Code := (qh (qd f27)).getD 0 .skip
def pol32 : Pol := { live := [(3, [2, 3, 11, 12, 13])] }
def O32 : Orc := [(28, s23), (33, s84)]
theorem enter32 : Enters prog 27 f27 (qd f27) := ⟨func27, by kernel_rfl, rfl⟩
def l32 : qx := unr prog O32 [] pol32 f27.ntmps 0 [2, 3, 11, 12, 13] b32 3
def smC (L : Int) : Cont := .vals [.agg [.q (mkRat 0 1) 64, .q (mkRat (-1) 1) 64], .agg [.q (mkRat L 1) 64, .q (mkRat (-1) 1) 64], .agg [.q (mkRat L 1) 64, .q (mkRat 1 1) 64], .agg [.q (mkRat 0 1) 64, .q (mkRat 1 1) 64]]
def smV (L : Int) : PV := lkC (mkRat L 1) (mkRat (-2) 1) (mkRat 2 1) (mkRat 1 4) (mkRat 1 10) (smC L)
def smL (L : Int) : Lk := ⟨mkRat L 1, mkRat (-2) 1, mkRat 2 1, mkRat 1 4, mkRat 1 10, 4, fun i => dq (fldV ((smC L).get i) 0), fun i => dq (fldV ((smC L).get i) 1)⟩
theorem smV_le (L : Int) : VLe (smV L) (lkPV (smL L)) := by
 refine VLe.agg (VLeL.cons (.refl _) (VLeL.cons (.refl _) (VLeL.cons (.refl _) (VLeL.cons (.refl _) (VLeL.cons (.refl _) (VLeL.cons ?_ .nil))))))
 refine VLe.lst rfl fun i hi => ?_
 have hi' : i < 4 := hi
 match i, hi' with
 | 0, _ => exact .refl _
 | 1, _ => exact .refl _
 | 2, _ => exact .refl _
 | 3, _ => exact .refl _
 | i + 4, h => omega
end
section
open Go
set_option maxRecDepth 100000
variable {G : World -> (Nat -> Prop) -> Prop} (hG : GOk G)
def OV : Orc := [(19, g21), (36, g27), (56, g29), (65, g43), (152, g133), (153, g134)]
def g41 : Spec := evF Tryd.prog OV [] {} Tryd.f38
def g42 : Spec := evF Tryd.prog OV [] {} Tryd.f39
end
section
open Go
set_option maxRecDepth 100000
variable {G : World -> (Nat -> Prop) -> Prop} (hG : GOk G)
structure Fr where
 x : Rat
 y : Rat
 h : Bool
 t : Rat
def qf (qs : List Rat) (i : Nat) : Rat := qs.getD i 0
section
variable (qs : List Rat) (n : Nat) (lk : Nat -> Lk) (b : Fr)
end
theorem frs_le0 (e n : Nat) (f : Nat -> PV) (vs : List PV) (hl : vs.length = n) (h : ∀ (i : Nat) (v : PV), vs[i]? = some v -> noRef 8 v = true /\ VLe v (f i)) :
  RLe (.tup [.fr e (.vals vs), .i .i64 0]) (.tup [.fr e (.fn n f), .i .i64 0]) := by
 subst hl
 exact ⟨fun m => .refl _, fun m => KsLe.one (KLe.fn rfl h)⟩
section
variable (qs : List Rat) (n : Nat) (lk : Nat -> Lk) (b : Fr)
end
end
section
open Go
set_option maxRecDepth 100000
variable {G : World -> (Nat -> Prop) -> Prop} (hG : GOk G)
theorem cf0_eq (l h : Rat) (k : Int) : cf0 l h k = l + (h - l) * (k : Rat) / 8 := by
 have d1 : 0 < (l.den : Int) := by have := l.den_pos; omega
 have d2 : 0 < (h.den : Int) := by have := h.den_pos; omega
 have e1 : (((8 : Int) * (l.den : Int) * (h.den : Int)).toNat : Int) = 8 * (l.den : Int) * (h.den : Int) := Int.toNat_of_nonneg (Int.le_of_lt (Int.mul_pos (by omega) d2))
 have r1 : (l.den : Rat) ≠ 0 := by have := l.den_nz; exact_mod_cast this
 have r2 : (h.den : Rat) ≠ 0 := by have := h.den_nz; exact_mod_cast this
 have hl := (Rat.mkRat_eq_div l.num l.den).symm.trans (Rat.mkRat_self l)
 have hh := (Rat.mkRat_eq_div h.num h.den).symm.trans (Rat.mkRat_self h)
 unfold cf0
 rw [Rat.mkRat_eq_div]
 have e2 : ((((8 : Int) * (l.den : Int) * (h.den : Int)).toNat : Nat) : Rat) = 8 * (l.den : Rat) * (h.den : Rat) := by
  have : ((((8 : Int) * (l.den : Int) * (h.den : Int)).toNat : Int) : Rat) = ((8 * (l.den : Int) * (h.den : Int) : Int) : Rat) := by rw [e1]
  push_cast at this
  exact this
 rw [e2]
 push_cast
 generalize (l.num : Rat) = n at *
 generalize (h.num : Rat) = m at *
 generalize (l.den : Rat) = d at *
 generalize (h.den : Rat) = e at *
 rw [<- hl, <- hh]
 grind
theorem cf0_in {l h : Rat} {k : Int} (hlh : l <= h) (h0 : 0 <= k) (h8 : k <= 8) : l <= cf0 l h k /\ cf0 l h k <= h := by
 have k0 : (0 : Rat) <= (k : Rat) := by exact_mod_cast h0
 have k8 : (k : Rat) <= 8 := by exact_mod_cast h8
 have p0 : 0 <= (h - l) * (k : Rat) := Rat.mul_nonneg (by grind) k0
 have p1 : 0 <= (h - l) * (8 - (k : Rat)) := Rat.mul_nonneg (by grind) (by grind)
 have p2 : (h - l) * (8 - (k : Rat)) = 8 * (h - l) - (h - l) * (k : Rat) := by grind
 rw [p2] at p1
 rw [cf0_eq]
 generalize (h - l) * (k : Rat) = p at *
 exact ⟨by grind, by grind⟩
theorem getD_map_range (f : Nat -> Rat) {n j : Nat} (h : j < n) : ((List.range n).map f).getD j 0 = f j := by
 rw [List.getD_eq_getElem?_getD, List.getElem?_map, List.getElem?_range h]; rfl
theorem fitB_iff {A : Am} {qs : List Rat} : fitB A qs = true ↔ ∀ j, j < A.n -> (A.lk j).low <= qs.getD j 0 /\ qs.getD j 0 <= (A.lk j).high := by
 simp [fitB, fit1]
theorem cfL_fit {A : Am} {m : PV} (h : armB A = true) : fitB A (cfL A.lk m A.n) = true := by
 obtain ⟨-, -, -, -, -, -, h7⟩ := armB_c h
 refine fitB_iff.2 fun j hj => ?_
 unfold cfL
 rw [getD_map_range _ hj]
 have g := qw (itRs j m) (show (0 : Int) < 9 by omega)
 exact cf0_in (Rat.le_of_lt (lkB_c (h7 j hj)).2.2.2.2.2.2.1) g.1 (by omega)
theorem limX_V (v : PV) : limX (armD v) = true := by
 refine List.all_eq_true.2 fun j _ => ?_
 rw [kE]
 have small : ∀ (n : Int), n.natAbs < 1000 -> smX (mkRat n (Int.toNat 3)) = true := fun n hn => smX_iff.2 ⟨Nat.lt_of_le_of_lt (mkRat_num_le n (by decide)) hn, Nat.lt_of_le_of_lt (mkRat_den_le n (by decide)) (by decide)⟩
 have g1 := qw (rs (itR6 j (rs (rs (rs v))))) (show (0 : Int) < 6 by omega)
 have g2 := qw (rs (rs (itR6 j (rs (rs (rs v)))))) (show (0 : Int) < 6 by omega)
 exact ⟨small _ (by omega), small _ (by omega)⟩
def R6 : Orc := [(36, g27), (38, g41), (39, g42), (65, g43)]
theorem cst_t {P : Program} {G : World -> (Nat -> Prop) -> Prop} {g : Nat} {as' : List PV} {r : PV} (h : PC P G g as' [] r []) : qc P G g (cst as' True r) := cst_ok fun _ => h
end
section
open Go
end
section
open Go
set_option maxRecDepth 100000
variable {G : World -> (Nat -> Prop) -> Prop} (hG : GOk G)
theorem ArgsLe.ofL : ∀ {us vs : List PV}, VLeL us vs -> ArgsLe us vs
 | [], [], _ => .nil
 | [], v :: vs, h => by have := h.1; simp at this
 | u :: us, [], h => by have := h.1; simp at this
 | u :: us, v :: vs, h => .cons (h.2 0 u v rfl rfl) (ArgsLe.ofL ⟨by have := h.1; simpa using this, fun j a b e1 e2 => h.2 (j + 1) a b e1 e2⟩)
theorem VLe.tup {us vs : List PV} (h : VLeL us vs) : VLe (.tup us) (.tup vs) := by
 refine ⟨rfl, fun w S μ => ⟨fun cs hc => (by cases hc), fun x hx => ?_⟩⟩
 cases hx with
 | cell _ _ _ _ hc => cases hc
 | agg _ _ _ hv _ => cases hv
 | tup _ _ xs hl => exact .tup _ _ _ (ArgsLe.ofL h w S μ xs hl)
end
section
open Go
set_option maxRecDepth 100000
structure Sp where
 lo : Rat
 hi : Rat
 ok : lo <= hi
def Sp.has (s : Sp) (x : Rat) : Prop := s.lo <= x /\ x <= s.hi
def subS (A B : Sp) : Sp := ⟨A.lo - B.hi, A.hi - B.lo, by have := A.ok; have := B.ok; grind⟩
structure Lz where
 X : Sp
 Y : Sp
 C : Sp
 S : Sp
end
section
open Go
set_option maxRecDepth 100000
variable {G : World -> (Nat -> Prop) -> Prop} (hG : GOk G)
structure Pg where
 n : Nat
 u : Nat -> Rat
 v : Nat -> Rat
end
section
open Go Tryd
set_option maxRecDepth 100000
variable {G : World -> (Nat -> Prop) -> Prop} (hG : GOk G)
theorem ratsK_le (e : Nat) {n m : Nat} (xs : List Rat) (h : n <= m) : KLe ⟨e, .rats n xs⟩ ⟨e, .rats m xs⟩ := by
 intro w S μ a z hb
 obtain ⟨c, T, cs, h1, h2, h3, h4, h5, h6⟩ := hb
 exact ⟨c, T, cs, h1, h2, h3, fun i hi => (((q_rle (x := xs.getD i 0) rfl h).v 0).2 w S _).1 _ (h4 i hi), h5, h6⟩
theorem frrats_le (e : Nat) {n m : Nat} (xs : List Rat) (h : n <= m) : RLe (.fr e (.rats n xs)) (.fr e (.rats m xs)) := ⟨fun _ => .refl _, fun _ => KsLe.one (ratsK_le e xs h)⟩
def c71 : Spec := fun args hs K => match args, hs with
 | [.i .i64 n], [] => .br (decide (-1000000000 < n) && decide (n < 1000000000)) (K (.q (n : Rat) 64) []) (.no 1)
 | _, _ => .no 1
include hG in
theorem ck71 : qc prog G 63 c71 := by
 intro args hs K x h
 unfold c71 at h
 split at h
 case h_2 => cases h
 rename_i n
 obtain ⟨hc, hr⟩ := kA h
 simp only [kE, kF] at hc
 refine ⟨_, _, (pc_spec (gk71 hG) (args := [.i .i64 n]) (r := .q (n : Rat) (Nat.log2 n.natAbs + 1)) (hs' := []) ?_).le (q_rle rfl ?_) (.refl _), hr⟩
 ·show (Tr.br _ _ _).run = _
  rw [k5 (by simp only [kE, kF]; omega)]
  rfl
 ·have h1 : n.natAbs < 2 ^ 63 := by omega
  by_cases h0 : n.natAbs = 0
  ·rw [h0]; decide
  ·have := (Nat.log2_lt h0).2 h1
   omega
def b70 : Code := (qh (qd f62)).getD 0 .skip
def pol70 : Pol := { live := [(3, [3, 6, 7, 8])] }
def O70 : Orc := [(19, g21), (63, c71)]
theorem enter70 : Enters prog 62 f62 (qd f62) := ⟨func62, by kernel_rfl, rfl⟩
def n70 (w : Nat) (xs : List Rat) (n i : Int) : LS := ⟨[.nil, .lst 3 (.rats w xs), .i .i64 n, .i .i64 i], []⟩
def x70 (w W : Nat) (xs ys : List Rat) (n i : Int) : LS := ⟨[.sl 0 3 0 ys.length, .lst 3 (.rats w xs), .i .i64 n, .i .i64 i], [some ⟨3, .rats W ys⟩]⟩
theorem r70n (w : Nat) (xs : List Rat) (n i : Int) : qe prog O70 [] pol70 f62.ntmps 0 [3, 6, 7, 8] b70 (n70 w xs n i) =
 Tr.br (decide (i < n)) (.br (ix (i) ((xs.length : Int))) (.br (decide ((-1000000000 : Int) < 0) && decide ((0 : Int) < 1000000000)) (.br ((w + 64 + 1).ble 800000) (.br (Nat.blt (0 : Nat) [xs.getD i.toNat 0 + (↑(0 : Int) : Rat)].length && [xs.getD i.toNat 0 + (↑(0 : Int) : Rat)].length.ble 4294967296) (.br (ib (i + 1)) (.ok (.out .normal (LS.mk [.sl 0 3 0 1, .lst 3 (.rats w xs), .i .i64 n, .i .i64 (i + 1)] [some (.mk 3 (.rats ((w + 64 + 1).max (0 : Nat)) [xs.getD i.toNat 0 + (↑(0 : Int) : Rat)]))]))) (.no 7002)) (.no 6002)) (.no 1)) (.no 1)) (.no 5004)) (.ok (.out (.exit 0) (LS.mk [.nil, .lst 3 (.rats w xs), .i .i64 n, .i .i64 i] []))) := by kernel_rfl
theorem r70 (w W : Nat) (xs ys : List Rat) (n i : Int) : qe prog O70 [] pol70 f62.ntmps 0 [3, 6, 7, 8] b70 (x70 w W xs ys n i) =
 Tr.br (decide (i < n)) (.br (ix (i) ((xs.length : Int))) (.br (decide ((-1000000000 : Int) < 0) && decide ((0 : Int) < 1000000000)) (.br ((w + 64 + 1).ble 800000) (.br (ys.length.ble ys.length && (ys.length + [xs.getD i.toNat 0 + (↑(0 : Int) : Rat)].length).ble 4294967296) (.br (ib (i + 1)) (.ok (.out .normal (LS.mk [.sl 0 3 0 (ys.length + [xs.getD i.toNat 0 + (↑(0 : Int) : Rat)].length), .lst 3 (.rats w xs), .i .i64 n, .i .i64 (i + 1)] [some (.mk 3 (.rats (W.max ((w + 64 + 1).max (0 : Nat))) (List.take ys.length (List.drop (0 : Nat) ys) ++ [xs.getD i.toNat 0 + (↑(0 : Int) : Rat)])))]))) (.no 7002)) (.no 6002)) (.no 1)) (.no 1)) (.no 5004)) (.ok (.out (.exit 0) (LS.mk [.sl 0 3 0 ys.length, .lst 3 (.rats w xs), .i .i64 n, .i .i64 i] [some (.mk 3 (.rats W ys))]))) := by kernel_rfl
def fin70 (w : Nat) (xs : List Rat) : LS := x70 w (w + 64 + 1) xs xs (xs.length : Nat) (xs.length : Nat)
theorem e70 (w : Nat) (xs : List Rat) : evF prog O70 [(3, lcst (n70 w xs (xs.length : Nat) 0) (.exit 0) (fin70 w xs))] pol70 f62 [.lst 3 (.rats w xs)] [] qo =
 Tr.br (qg (isLS (LS.mk [.nil, .lst 3 (.rats w xs), .i .i64 (xs.length : Int), .i .i64 0] []) (LS.mk [.nil, .lst 3 (.rats w xs), .i .i64 (xs.length : Int), .i .i64 0] []))) (.br (xs.length.ble xs.length) (.ok (.ret (.fr 3 (.rats (w + 64 + 1) (List.take xs.length (List.drop (0 : Nat) xs)))) [])) (.no 15)) (.no 1) := by kernel_rfl
include hG in
theorem orc70 (hT : TabG G) : OrcOK prog G O70 := .cons (gk21 hG hT) (.cons (ck71 hG) .nil)
theorem mx0 (a : Nat) : Nat.max a (Nat.max a 0) = a := by
 show max a (max a 0) = a
 omega
theorem add00 (x : Rat) : x + ((0 : Int) : Rat) = x := Rat.add_zero x
theorem getD_range_map (xs : List Rat) : (List.range xs.length).map (fun j => xs.getD j 0) = xs := by
 apply List.ext_getElem
 ·simp
 ·intro j h1 h2
  simp [List.getElem?_eq_getElem h2]
include hG in
theorem goes70 (hT : TabG G) (w : Nat) (hw : w <= 10000) (xs : List Rat) (h1 : 1 <= xs.length) (h2 : xs.length <= 1000) : Goes (Rnd prog G f62.ntmps 0 [3, 6, 7, 8] b70) (n70 w xs (xs.length : Nat) 0) (.exit 0) (fin70 w xs) := by
 refine Goes.build (xst := fun ys j => x70 w (w + 64 + 1) xs ys (xs.length : Nat) (j : Nat)) (fun j => xs.getD j 0) (by simp) xs.length h1 ?_ ?_ ?_
 ·refine qb hG (orc70 hG hT) mix (L := []) (pol := pol70) (O := O70) (kD (by kernel_rfl)) (Nat.zero_le _) ?_
  rw [r70n, show Int.toNat 0 = 0 from rfl, k5 (kG (by omega)), k5 (by simp only [kE, kF]; omega), k5 (by decide), k5 (by rw [kI]; omega), k5 (by rfl), k5 (by decide), k7, add00]
  rfl
 ·intro ys j hy hj1 hj
  refine qb hG (orc70 hG hT) mix (L := []) (pol := pol70) (O := O70) (kD (by kernel_rfl)) (Nat.zero_le _) ?_
  rw [r70, Int.toNat_natCast, k5 (kG (by omega)), k5 (by simp only [kE, kF]; omega), k5 (by decide), k5 (by rw [kI]; omega),
   k5 (by simp only [kE, kI, kJ, kK]; omega), k5 (by simp only [kE, kF]; omega), k7, add00, List.drop_zero, List.take_length]
  unfold x70
  rw [List.length_append, mx0]
  rfl
 ·rw [getD_range_map]
  refine qb hG (orc70 hG hT) mix (L := []) (pol := pol70) (O := O70) (kD (by kernel_rfl)) (Nat.zero_le _) ?_
  rw [r70, k6 (kH (by omega)), k7]
  rfl
include hG in
theorem pc70 (hT : TabG G) (w : Nat) (hw : w <= 10000) (xs : List Rat) (h1 : 1 <= xs.length) (h2 : xs.length <= 1000) : PC prog G 62 [.lst 3 (.rats w xs)] [] (.fr 3 (.rats (w + 65) xs)) [] := by
 refine qp hG (orc70 hG hT) mix enter70 (L := [(3, lcst (n70 w xs (xs.length : Nat) 0) (.exit 0) (fin70 w xs))]) (pol := pol70) (lps1 (b := b70) (live := [3, 6, 7, 8]) (m := 0) (by kernel_rfl) (by kernel_rfl) (by kernel_rfl) (lcst_ok (goes70 hG hT w hw xs h1 h2))) ?_
 rw [e70, k5 isLS_t, k5 (by rw [kI]; omega), k7, List.drop_zero, List.take_length]
def c70 : Spec := fun args hs K => match args, hs with
 | [.lst 3 (.rats w xs)], [] => .br (Nat.ble 1 xs.length && Nat.ble xs.length 1000 && Nat.ble w 10000) (K (.fr 3 (.rats (w + 65) xs)) []) (.no 1)
 | _, _ => .no 1
include hG in
theorem ck70 (hT : TabG G) : qc prog G 62 c70 := by
 intro args hs K x h
 unfold c70 at h
 split at h
 case h_2 => cases h
 obtain ⟨hc, hr⟩ := kA h
 simp only [kE, kI] at hc
 exact ⟨_, _, pc70 hG hT _ hc.2 _ hc.1.1 hc.1.2, hr⟩
def b98 : Code := (qh (qd f95)).getD 0 .skip
def pol98 : Pol := { live := [(3, [4, 5, 6, 7, 17, 18, 19])] }
def O98 : Orc := [(36, g27), (55, g28), (56, g29), (65, g43), (63, c71)]
theorem enter98 : Enters prog 95 f95 (qd f95) := ⟨func95, by kernel_rfl, rfl⟩
def kyPV (w : Nat) (t : Int) (q : List Rat) : PV := .agg [.i .i64 t, .lst 3 (.rats w q)]
def st98 (w v : Nat) (t u : Int) (p q : List Rat) (b : Bool) (x : Rat) (n : Nat) (lk : Nat -> Lk) (i : Int) : LS := ⟨[.ptr 0 2 0 0 [], .ptr 1 2 0 0 [], .bl b, .ptr 2 3 0 0 [], .lst 16 (.fn n (fun j => lkPV (lk j))), .i .i64 n, .i .i64 i], [some ⟨2, .vals [kyPV w t p]⟩, some ⟨2, .vals [kyPV v u q]⟩, some ⟨3, .vals [.q x 64]⟩]⟩
theorem r98 (w v : Nat) (t u : Int) (p q : List Rat) (b : Bool) (x : Rat) (n : Nat) (lk : Nat -> Lk) (i : Int) : qe prog O98 [] pol98 f95.ntmps 0 [4, 5, 6, 7, 17, 18, 19] b98 (st98 w v t u p q b x n lk i) =
 Tr.br (decide (i < (n : Int))) (.br (ix (i) ((n : Int))) (.br (ix (i) ((q.length : Int))) (.br (ix (i) ((p.length : Int))) (.br ((v + w + 1).ble 800000) (.br ((v + w + 1).ble 800000) (.br (((64 : Nat) + 64).ble 800000) (.br ((v + w + 1 + ((64 : Nat) + 64)).ble 800000) (.br (decide ((0 : Int) < rcmp (rabs (q.getD i.toNat 0 - p.getD i.toNat 0)) ((lk i.toNat).spd * x))) (.ok (.out .ret (LS.mk [.ptr 0 2 0 0 [], .ptr 1 2 0 0 [], .bl false, .ptr 2 3 0 0 [], .lst 16 (.fn n fun (j : Nat) => .agg [.q (lk j).len 64, .q (lk j).low 64, .q (lk j).high 64, .q (lk j).spd 64, .q (lk j).brk 64, .lst 6 (.fn (lk j).np fun (a : Nat) => .agg [.q ((lk j).px a) 64, .q ((lk j).py a) 64])]), .i .i64 (n : Int), .i .i64 i] [some (.mk 2 (.vals [.agg [.i .i64 t, .lst 3 (.rats w p)]])), some (.mk 2 (.vals [.agg [.i .i64 u, .lst 3 (.rats v q)]])), some (.mk 3 (.vals [.q x 64]))]))) (.br (ib (i + 1)) (.ok (.out .normal (LS.mk [.ptr 0 2 0 0 [], .ptr 1 2 0 0 [], .bl b, .ptr 2 3 0 0 [], .lst 16 (.fn n fun (j : Nat) => .agg [.q (lk j).len 64, .q (lk j).low 64, .q (lk j).high 64, .q (lk j).spd 64, .q (lk j).brk 64, .lst 6 (.fn (lk j).np fun (a : Nat) => .agg [.q ((lk j).px a) 64, .q ((lk j).py a) 64])]), .i .i64 (n : Int), .i .i64 (i + 1)] [some (.mk 2 (.vals [.agg [.i .i64 t, .lst 3 (.rats w p)]])), some (.mk 2 (.vals [.agg [.i .i64 u, .lst 3 (.rats v q)]])), some (.mk 3 (.vals [.q x 64]))]))) (.no 8002))) (.no 1)) (.no 1)) (.no 1)) (.no 1)) (.no 6010)) (.no 6015)) (.no 5005)) (.ok (.out (.exit 0) (LS.mk [.ptr 0 2 0 0 [], .ptr 1 2 0 0 [], .bl b, .ptr 2 3 0 0 [], .lst 16 (.fn n fun (j : Nat) => .agg [.q (lk j).len 64, .q (lk j).low 64, .q (lk j).high 64, .q (lk j).spd 64, .q (lk j).brk 64, .lst 6 (.fn (lk j).np fun (a : Nat) => .agg [.q ((lk j).px a) 64, .q ((lk j).py a) 64])]), .i .i64 (n : Int), .i .i64 i] [some (.mk 2 (.vals [.agg [.i .i64 t, .lst 3 (.rats w p)]])), some (.mk 2 (.vals [.agg [.i .i64 u, .lst 3 (.rats v q)]])), some (.mk 3 (.vals [.q x 64]))]))) := by kernel_rfl
theorem e98a (w v : Nat) (A : Am) (t u : Int) (p q : List Rat) : evF prog O98 [(3, lcst (st98 w v t u p q false ((u - t : Int) : Rat) A.n A.lk 0) (.exit 0) (st98 w v t u p q false ((u - t : Int) : Rat) A.n A.lk (A.n : Nat)))] pol98 f95 [qk A, kyPV w t p, kyPV v u q] [] qo =
 Tr.br (ib (u - t)) (.br (decide ((-1000000000 : Int) < u - t) && decide (u - t < 1000000000)) (.br (qg (isLS (LS.mk [.ptr 0 2 0 0 [], .ptr 1 2 0 0 [], .bl false, .ptr 2 3 0 0 [], .lst 16 (.fn A.n fun (j : Nat) => .agg [.q (A.lk j).len 64, .q (A.lk j).low 64, .q (A.lk j).high 64, .q (A.lk j).spd 64, .q (A.lk j).brk 64, .lst 6 (.fn (A.lk j).np fun (a : Nat) => .agg [.q ((A.lk j).px a) 64, .q ((A.lk j).py a) 64])]), .i .i64 (A.n : Int), .i .i64 0] [some (.mk 2 (.vals [.agg [.i .i64 t, .lst 3 (.rats w p)]])), some (.mk 2 (.vals [.agg [.i .i64 u, .lst 3 (.rats v q)]])), some (.mk 3 (.vals [.q (↑(u - t) : Rat) 64]))]) (LS.mk [.ptr 0 2 0 0 [], .ptr 1 2 0 0 [], .bl false, .ptr 2 3 0 0 [], .lst 16 (.fn A.n fun (j : Nat) => .agg [.q (A.lk j).len 64, .q (A.lk j).low 64, .q (A.lk j).high 64, .q (A.lk j).spd 64, .q (A.lk j).brk 64, .lst 6 (.fn (A.lk j).np fun (a : Nat) => .agg [.q ((A.lk j).px a) 64, .q ((A.lk j).py a) 64])]), .i .i64 (A.n : Int), .i .i64 0] [some (.mk 2 (.vals [.agg [.i .i64 t, .lst 3 (.rats w p)]])), some (.mk 2 (.vals [.agg [.i .i64 u, .lst 3 (.rats v q)]])), some (.mk 3 (.vals [.q (↑(u - t) : Rat) 64]))]))) (.ok (.ret (.bl true) [])) (.no 1)) (.no 1)) (.no 2004) := by kernel_rfl
theorem e98b (w v : Nat) (A : Am) (t u : Int) (p q : List Rat) (i : Int) : evF prog O98 [(3, lcst (st98 w v t u p q false ((u - t : Int) : Rat) A.n A.lk 0) .ret (st98 w v t u p q false ((u - t : Int) : Rat) A.n A.lk i))] pol98 f95 [qk A, kyPV w t p, kyPV v u q] [] qo =
 Tr.br (ib (u - t)) (.br (decide ((-1000000000 : Int) < u - t) && decide (u - t < 1000000000)) (.br (qg (isLS (LS.mk [.ptr 0 2 0 0 [], .ptr 1 2 0 0 [], .bl false, .ptr 2 3 0 0 [], .lst 16 (.fn A.n fun (j : Nat) => .agg [.q (A.lk j).len 64, .q (A.lk j).low 64, .q (A.lk j).high 64, .q (A.lk j).spd 64, .q (A.lk j).brk 64, .lst 6 (.fn (A.lk j).np fun (a : Nat) => .agg [.q ((A.lk j).px a) 64, .q ((A.lk j).py a) 64])]), .i .i64 (A.n : Int), .i .i64 0] [some (.mk 2 (.vals [.agg [.i .i64 t, .lst 3 (.rats w p)]])), some (.mk 2 (.vals [.agg [.i .i64 u, .lst 3 (.rats v q)]])), some (.mk 3 (.vals [.q (↑(u - t) : Rat) 64]))]) (LS.mk [.ptr 0 2 0 0 [], .ptr 1 2 0 0 [], .bl false, .ptr 2 3 0 0 [], .lst 16 (.fn A.n fun (j : Nat) => .agg [.q (A.lk j).len 64, .q (A.lk j).low 64, .q (A.lk j).high 64, .q (A.lk j).spd 64, .q (A.lk j).brk 64, .lst 6 (.fn (A.lk j).np fun (a : Nat) => .agg [.q ((A.lk j).px a) 64, .q ((A.lk j).py a) 64])]), .i .i64 (A.n : Int), .i .i64 0] [some (.mk 2 (.vals [.agg [.i .i64 t, .lst 3 (.rats w p)]])), some (.mk 2 (.vals [.agg [.i .i64 u, .lst 3 (.rats v q)]])), some (.mk 3 (.vals [.q (↑(u - t) : Rat) 64]))]))) (.ok (.ret (.bl false) [])) (.no 1)) (.no 1)) (.no 2004) := by kernel_rfl
def slow1 (lk : Nat -> Lk) (x : Rat) (p q : List Rat) (j : Nat) : Bool := decide (rabs (q.getD j 0 - p.getD j 0) <= (lk j).spd * x)
def slowB (A : Am) (d : Int) (p q : List Rat) : Bool := (List.range A.n).all (slow1 A.lk (d : Rat) p q)
include hG in
theorem orc98 (hT : TabG G) : OrcOK prog G O98 := .cons (gk27 hG hT) (.cons (gk28 hG hT) (.cons (gk29 hG hT) (.cons (gk43 hG hT) (.cons (ck71 hG) .nil))))
include hG in
theorem pc98 (hT : TabG G) (w v : Nat) (hw : w <= 10000) (hv : v <= 10000) (A : Am) (hA : armB A = true) (t u : Int) (p q : List Rat) (hp : p.length = A.n) (hq : q.length = A.n) (h0 : -100000 <= u - t) (h1 : u - t <= 100000) :
  PC prog G 95 [qk A, kyPV w t p, kyPV v u q] [] (.bl (slowB A (u - t) p q)) [] := by
 obtain ⟨-, -, -, -, -, h6, h7⟩ := armB_c hA
 have rd : ∀ j, j < A.n -> ∀ (b : Bool) (i : Nat), i = j -> (qe prog O98 [] pol98 f95.ntmps 0 [4, 5, 6, 7, 17, 18, 19] b98 (st98 w v t u p q b ((u - t : Int) : Rat) A.n A.lk ((j : Nat) : Int))).run =
   some (match slow1 A.lk ((u - t : Int) : Rat) p q j with | true => .out .normal (st98 w v t u p q b ((u - t : Int) : Rat) A.n A.lk ((j + 1 : Nat) : Int)) | false => .out .ret (st98 w v t u p q false ((u - t : Int) : Rat) A.n A.lk ((j : Nat) : Int))) := by
  intro j hj b i hi
  rw [r98, Int.toNat_natCast, k5 (kG (by omega)), k5 (by simp only [kE, kF]; omega), k5 (by simp only [kE, kF]; omega), k5 (by simp only [kE, kF]; omega),
   k5 (by rw [kI]; omega), k5 (by rw [kI]; omega), k5 (by decide), k5 (by rw [kI]; omega)]
  cases hb : slow1 A.lk ((u - t : Int) : Rat) p q j with
  | true =>
   have := of_decide_eq_true hb
   rw [k6 (kH (by rw [rcmp_gt]; exact Rat.not_lt.2 this)), k5 (by simp only [kE, kF]; omega), k7]
   rfl
  | false =>
   have := of_decide_eq_false hb
   rw [k5 (kG (by rw [rcmp_gt]; exact Rat.not_le.1 this)), k7]
   rfl
 obtain ⟨g1, g2⟩ := Goes.search (R := Rnd prog G f95.ntmps 0 [4, 5, 6, 7, 17, 18, 19] b98) (fun j => st98 w v t u p q false ((u - t : Int) : Rat) A.n A.lk ((j : Nat) : Int)) (fun j => st98 w v t u p q false ((u - t : Int) : Rat) A.n A.lk ((j : Nat) : Int)) (slow1 A.lk ((u - t : Int) : Rat) p q) A.n
  (e0 := .exit 0) (e1 := .ret) (fin := st98 w v t u p q false ((u - t : Int) : Rat) A.n A.lk ((A.n : Nat) : Int)) (by simp) (by simp)
  (fun j hj hf => by
   refine qb hG (orc98 hG hT) mix (L := []) (pol := pol98) (O := O98) (kD (by kernel_rfl)) (Nat.zero_le _) ?_
   rw [rd j hj false j rfl, hf])
  (fun j hj hf => by
   refine qb hG (orc98 hG hT) mix (L := []) (pol := pol98) (O := O98) (kD (by kernel_rfl)) (Nat.zero_le _) ?_
   rw [rd j hj false j rfl, hf])
  (by
   refine qb hG (orc98 hG hT) mix (L := []) (pol := pol98) (O := O98) (kD (by kernel_rfl)) (Nat.zero_le _) ?_
   rw [r98, k6 (kH (by omega)), k7]
   rfl) A.n 0 (by omega)
 have c0 : (decide ((-9223372036854775808 : Int) <= u - t) && decide (u - t <= (9223372036854775807 : Int))) = true := by simp only [kE, kF]; omega
 have c1 : (decide ((-1000000000 : Int) < u - t) && decide (u - t < (1000000000 : Int))) = true := by simp only [kE, kF]; omega
 cases hall : slowB A (u - t) p q with
 | true =>
  refine qp hG (orc98 hG hT) mix enter98 (L := [(3, lcst (st98 w v t u p q false ((u - t : Int) : Rat) A.n A.lk 0) (.exit 0) (st98 w v t u p q false ((u - t : Int) : Rat) A.n A.lk (A.n : Nat)))]) (pol := pol98) (lps1 (b := b98) (live := [4, 5, 6, 7, 17, 18, 19]) (m := 0) (by kernel_rfl) (by kernel_rfl) (by kernel_rfl) (lcst_ok (g1 fun j _ hj => List.all_eq_true.1 hall j (List.mem_range.2 hj)))) ?_
  rw [e98a, k5 c0, k5 c1, k5 isLS_t, k7]
 | false =>
  have hn : ¬ ∀ j, 0 <= j -> j < A.n -> slow1 A.lk ((u - t : Int) : Rat) p q j = true := by
   intro hh
   have : slowB A (u - t) p q = true := List.all_eq_true.2 fun j hj => hh j (Nat.zero_le _) (List.mem_range.1 hj)
   rw [hall] at this; cases this
  refine qp hG (orc98 hG hT) mix enter98 (L := [(3, lcst (st98 w v t u p q false ((u - t : Int) : Rat) A.n A.lk 0) .ret (st98 w v t u p q false ((u - t : Int) : Rat) A.n A.lk ((fbad (slow1 A.lk ((u - t : Int) : Rat) p q) A.n 0 : Nat) : Int)))]) (pol := pol98) (lps1 (b := b98) (live := [4, 5, 6, 7, 17, 18, 19]) (m := 0) (by kernel_rfl) (by kernel_rfl) (by kernel_rfl) (lcst_ok (g2 hn))) ?_
  rw [e98b, k5 c0, k5 c1, k5 isLS_t, k7]
end
section
open Go
set_option maxRecDepth 100000
variable {G : World -> (Nat -> Prop) -> Prop} (hG : GOk G)
def nz72 (y : Rat) : Prop := ¬ y = 0
def c72 : Spec := fun args hs K => match args, hs with
 | [.q x n, .q y m], [] => .br (qg (nz72 y)) (.br (Nat.ble (n + m) 800000) (K (.tup [.q (x / y) (n + m), .i .i64 0]) []) (.no 1)) (.no 1)
 | _, _ => .no 1
include hG in
theorem ck72 (hT : TabG G) : qc Tryd.prog G 64 c72 := by
 intro args hs K x h
 unfold c72 at h
 split at h
 case h_2 => cases h
 rename_i x n y m
 obtain ⟨hc, hr⟩ := kA h
 obtain ⟨hb, hr⟩ := kA hr
 exact ⟨_, _, pc_spec (gk72 hG hT) ((k5 hb).trans ((k6 (kH (decP_iff.1 hc))).trans rfl)), hr⟩
def Asam (l : List Int) : Am := ⟨⟨#[111, 110, 101]⟩, mkRat 0 1, mkRat 0 1, mkRat 0 1, l.length, fun j => smL (l.getD j 0)⟩
include hG in
theorem sam_ok (l : List Int) (h : (evF Tryd.prog O32 [(3, l32)] pol32 Tryd.f27 [.lst 1 (.ints .i64 l)] [] qo).run = some (.ret (frA ⟨#[111, 110, 101]⟩ (mkRat 0 1) (mkRat 0 1) (mkRat 0 1) (.fr 16 (.vals (l.map smV)))) [])) : PC Tryd.prog G 27 [.lst 1 (.ints .i64 l)] [] (armFr (Asam l)) [] := by
 refine (qp hG (.cons (ok23 hG) (.cons (ok84 hG) .nil)) mix enter32 (O := O32) (L := [(3, l32)]) (pol := pol32) (lps1 (b := b32) (live := [2, 3, 11, 12, 13]) (sp := l32) (m := 0) (by kernel_rfl) (by kernel_rfl) (by kernel_rfl) (unr_ok hG (.cons (ok23 hG) (.cons (ok84 hG) .nil)) mix (kD (by kernel_rfl)) 3)) h).le ?_ (.refl _)
 refine rle_arm _ _ _ _ _ _ _ (by rw [List.length_map]; rfl) fun i u hu => ?_
 rw [List.getElem?_map] at hu
 cases hx : l[i]? with
 | none => rw [hx] at hu; cases hu
 | some x =>
  rw [hx] at hu
  obtain rfl := Option.some.inj hu
  refine ⟨rfl, ?_⟩
  show VLe _ (lkPV (smL (l.getD i 0)))
  rw [List.getD_eq_getElem?_getD, hx]
  exact smV_le x
include hG in
theorem sam3 : PC Tryd.prog G 27 [.lst 1 (.ints .i64 [3])] [] (armFr (Asam [3])) [] := sam_ok hG [3] (by kernel_rfl)
theorem armB_3 : armB (Asam [3]) = true := by kernel_rfl
def hf : Rat := ((1 : Int) : Rat) / ((2 : Int) : Rat)
end
section
open Go Tryd
set_option maxRecDepth 100000
variable {G : World -> (Nat -> Prop) -> Prop} (hG : GOk G)
theorem enterWh : Enters prog 127 f127 (qd f127) := ⟨func127, by kernel_rfl, rfl⟩
theorem kWh (x : Rat) (n : Nat) (W : Nat) : evF prog [(69, g76 W), (105, h108), (110, h113)] [] {} f127 [.q x n] [] qo =
 Tr.br (bz (qq x) && bz (qm x) && decide ((0 : Nat) < val (qm x))) (.br (ql x) (.br (!decide (rmB (qq x) (qm x) = ByteArray.mk #[])) (.br (bz (quB (qq x) (qm x)) && bz (ByteArray.mk #[(1 : UInt8)])) (.br (qg (M76 (adB (quB (qq x) (qm x)) (ByteArray.mk #[(1 : UInt8)])) (ByteArray.mk #[(1 : UInt8)]) W)) (.ok (.ret (.q (mkq (ql x) (adB (quB (qq x) (qm x)) (ByteArray.mk #[(1 : UInt8)])) (ByteArray.mk #[(1 : UInt8)])) W) [])) (.no 1)) (.no 1)) (.br (qg (M76 (quB (qq x) (qm x)) (ByteArray.mk #[(1 : UInt8)]) W)) (.ok (.ret (.q (mkq (ql x) (quB (qq x) (qm x)) (ByteArray.mk #[(1 : UInt8)])) W) [])) (.no 1))) (.br (qg (M76 (quB (qq x) (qm x)) (ByteArray.mk #[(1 : UInt8)]) W)) (.ok (.ret (.q (mkq (ql x) (quB (qq x) (qm x)) (ByteArray.mk #[(1 : UInt8)])) W) [])) (.no 1))) (.no 1) := by kernel_rfl
def gWh : Spec := fun args hs K => match args, hs with
 | [.q x n], [] => .br (Nat.ble n 790000) (K (.q (x.floor : Rat) (n + 1)) []) (.no 1)
 | _, _ => .no 1
theorem floor_z (x : Rat) : (x.floor : Rat) = if ql x = true /\ x.num.natAbs % x.den ≠ 0 then mkz (ql x) (x.num.natAbs / x.den + 1) 1 else mkz (ql x) (x.num.natAbs / x.den) 1 := by
 have hd := x.den_pos
 have hf : x.floor = x.num / (x.den : Int) := by
  rw [Rat.floor_def]
 rw [hf]
 have e := Nat.div_add_mod x.num.natAbs x.den
 have hm := Nat.mod_lt x.num.natAbs hd
 generalize hq : x.num.natAbs / x.den = q at *
 generalize hr : x.num.natAbs % x.den = r at *
 have hD : (0 : Int) < (x.den : Int) := by omega
 by_cases hn : ql x = true
 ·have hneg : x.num < 0 := of_decide_eq_true hn
  have hx : x.num = -((x.den : Int) * q + r) := by
   have : (x.num.natAbs : Int) = (x.den : Int) * q + r := by rw [<- e]; simp
   omega
  by_cases h0 : r = 0
  ·rw [if_neg (fun h => h.2 h0), hn, mkz_int, hx, h0]
   congr 1
   show -((x.den : Int) * q + (0 : Nat)) / (x.den : Int) = -(q : Int)
   rw [show -((x.den : Int) * q + ((0 : Nat) : Int)) = (x.den : Int) * (-(q : Int)) by simp [Int.mul_neg]]
   exact Int.mul_ediv_cancel_left _ (by omega)
  ·rw [if_pos ⟨hn, h0⟩, hn, mkz_int, hx]
   congr 1
   show -((x.den : Int) * q + r) / (x.den : Int) = -((q + 1 : Nat) : Int)
   rw [show -((x.den : Int) * q + (r : Int)) = ((x.den : Int) - r) + (x.den : Int) * (-(q + 1 : Int)) by rw [Int.mul_neg, Int.mul_add]; omega]
   rw [Int.add_mul_ediv_left _ _ (by omega), Int.ediv_eq_zero_of_lt (by omega) (by omega)]
   omega
 ·have hnn : 0 <= x.num := by
   have : ¬ x.num < 0 := fun h => hn (kG h)
   omega
  rw [if_neg (fun h => hn h.1), show ql x = false by simpa using hn, mkz_int]
  congr 1
  have hx : x.num = (x.den : Int) * q + r := by
   have : (x.num.natAbs : Int) = (x.den : Int) * q + r := by rw [<- e]; simp
   omega
  show x.num / (x.den : Int) = (q : Int)
  rw [hx, Int.add_comm, Int.add_mul_ediv_left _ _ (by omega), Int.ediv_eq_zero_of_lt (by omega) (by omega)]
  omega
theorem one1 : (⟨#[1]⟩ : ByteArray) = nb 1 := by kernel_rfl
theorem emp0 : (⟨#[]⟩ : ByteArray) = nb 0 := by kernel_rfl
theorem M76_nb {a d W : Nat} (h0 : 0 < d) (ha : a < 2 ^ W) (hd : d < 2 ^ W) (h1 : 0 < W) (h8 : W <= 800000) : qg (M76 (nb a) (nb d) W) = true :=
 decP_iff.2 ⟨by rw [qA], by rw [qA], by rw [qA]; exact h0, by rw [qA]; exact ha, by rw [qA]; exact hd, h1, h8⟩
include hG in
theorem gkWh (hT : TabG G) : qc prog G 127 gWh := by
 intro args hs K y h
 unfold gWh at h
 split at h
 case h_2 => cases h
 rename_i x n
 obtain ⟨hc, hr⟩ := kA h
 rw [kI] at hc
 refine ⟨_, _, ?_, hr⟩
 refine pc_assume _ q1_sz fun hq => ?_
 obtain ⟨s1, s2, s3⟩ := sz_lt hq
 have hd := x.den_pos
 have p1 : 2 ^ n < 2 ^ (n + 1) := Nat.pow_lt_pow_right (by omega) (by omega)
 have p0 : 1 < 2 ^ (n + 1) := Nat.lt_of_le_of_lt (Nat.one_le_two_pow) p1
 have hqle : x.num.natAbs / x.den <= x.num.natAbs := Nat.div_le_self _ _
 refine qp hG (.cons (gk76 hG hT (n + 1)) (.cons (hk108 hG) (.cons (hk113 hG) .nil))) mix enterWh (L := []) (pol := {}) (kD (by kernel_rfl)) ?_
 rw [kWh x n (n + 1)]
 simp only [rnum_eq, rden_eq, one1, emp0, quB_nb, rmB_nb, adB_nb, val_nb, mkq_nb]
 rw [floor_z]
 have b0 : (bz (nb x.num.natAbs) && bz (nb x.den) && decide (0 < x.den)) = true := by
  rw [qz s1 (by omega), qz s2 (by omega), kG hd]; rfl
 have b1 : (bz (nb (x.num.natAbs / x.den)) && bz (nb 1)) = true := by
  rw [qz (k := x.num.natAbs / x.den) (n := n) (by omega) (by omega), qz (k := 1) (n := n + 1) p0 (by omega)]; rfl
 have m1 : qg (M76 (nb (x.num.natAbs / x.den)) (nb 1) (n + 1)) = true := M76_nb (by omega) (by omega) p0 (by omega) (by omega)
 have m2 : qg (M76 (nb (x.num.natAbs / x.den + 1)) (nb 1) (n + 1)) = true := M76_nb (by omega) (by omega) p0 (by omega) (by omega)
 have nbz : ∀ k : Nat, (nb k = nb 0) ↔ k = 0 := fun k => ⟨fun h => by have := congrArg (fun b : ByteArray => bv b.data.toList) h; simpa [qA] using this, fun h => by rw [h]⟩
 rw [k5 b0]
 cases hn : ql x with
 | false =>
  rw [k6 rfl, k5 m1, if_neg (by simp), k7]
 | true =>
  rw [k5 rfl]
  by_cases h0 : x.num.natAbs % x.den = 0
  ·rw [k6 (by rw [kG ((nbz _).2 h0)]; rfl), k5 m1, if_neg (fun h => h.2 h0), k7]
  ·rw [k5 (by rw [kH (fun h => h0 ((nbz _).1 h))]; rfl), k5 b1, k5 m2, if_pos ⟨rfl, h0⟩, k7]
end
section
open Go
set_option maxRecDepth 100000
theorem nn_of_mul {x s : Rat} (hs : 0 < s) (h : 0 <= x * s) : 0 <= x := by
 by_cases h1 : x < 0
 ·have := Rat.mul_pos (show 0 < -x by grind) hs
  grind
 ·exact Rat.not_lt.1 h1
end
section
open Go Tryd
set_option maxRecDepth 100000
variable {G : World -> (Nat -> Prop) -> Prop} (hG : GOk G)
def b17 : Code := (qh (qd f15)).getD 0 .skip
def b17i : Code := (qh b17).getD 0 .skip
def pol17 : Pol := { live := [(6, [0, 1, 4, 5]), (14, [6, 7, 9, 11, 71, 72])], own := [26, 106] }
def O17 : Orc := [(19, g21), (56, g29), (65, g43), (62, c70), (63, c71), (64, g72)]
theorem enter17 : Enters prog 15 f15 (qd f15) := ⟨func15, by kernel_rfl, rfl⟩
def segW (w : Nat) : Nat := w + (258 + (w + w + 1)) + 1
def n17i (w : Nat) (t u : Int) (p q : List Rat) (s : Rat) (n i : Int) : LS := ⟨[.ptr 0 2 0 0 [], .ptr 1 2 0 0 [], .ptr 2 3 0 0 [], .nil, .i .i64 n, .i .i64 i], [some ⟨2, .vals [kyPV w t p]⟩, some ⟨2, .vals [kyPV w u q]⟩, some ⟨3, .vals [.q s 258]⟩]⟩
def x17i (w W : Nat) (t u : Int) (p q : List Rat) (s : Rat) (ys : List Rat) (n i : Int) : LS := ⟨[.ptr 0 2 0 0 [], .ptr 1 2 0 0 [], .ptr 2 3 0 0 [], .sl 3 3 0 ys.length, .i .i64 n, .i .i64 i], [some ⟨2, .vals [kyPV w t p]⟩, some ⟨2, .vals [kyPV w u q]⟩, some ⟨3, .vals [.q s 258]⟩, some ⟨3, .rats W ys⟩]⟩
theorem r17n (w : Nat) (t u : Int) (p q : List Rat) (s : Rat) (n i : Int) : qe prog O17 [] pol17 f15.ntmps 0 [6, 7, 9, 11, 71, 72] b17i (n17i w t u p q s n i) =
 Tr.br (decide (i < n)) (.br (ix (i) ((p.length : Int))) (.br (ix (i) ((q.length : Int))) (.br (ix (i) ((p.length : Int))) (.br ((w + w + 1).ble 800000) (.br (((258 : Nat) + (w + w + 1)).ble 800000) (.br ((w + ((258 : Nat) + (w + w + 1)) + 1).ble 800000) (.br (Nat.blt (0 : Nat) [p.getD i.toNat 0 + s * (q.getD i.toNat 0 - p.getD i.toNat 0)].length && [p.getD i.toNat 0 + s * (q.getD i.toNat 0 - p.getD i.toNat 0)].length.ble 4294967296) (.br (ib (i + 1)) (.ok (.out .normal (LS.mk [.ptr 0 2 0 0 [], .ptr 1 2 0 0 [], .ptr 2 3 0 0 [], .sl 3 3 0 1, .i .i64 n, .i .i64 (i + 1)] [some (.mk 2 (.vals [.agg [.i .i64 t, .lst 3 (.rats w p)]])), some (.mk 2 (.vals [.agg [.i .i64 u, .lst 3 (.rats w q)]])), some (.mk 3 (.vals [.q s 258])), some (.mk 3 (.rats ((w + ((258 : Nat) + (w + w + 1)) + 1).max (0 : Nat)) [p.getD i.toNat 0 + s * (q.getD i.toNat 0 - p.getD i.toNat 0)]))]))) (.no 18002)) (.no 17002)) (.no 1)) (.no 1)) (.no 1)) (.no 17008)) (.no 17013)) (.no 17019)) (.ok (.out (.exit 2) (LS.mk [.ptr 0 2 0 0 [], .ptr 1 2 0 0 [], .ptr 2 3 0 0 [], .nil, .i .i64 n, .i .i64 i] [some (.mk 2 (.vals [.agg [.i .i64 t, .lst 3 (.rats w p)]])), some (.mk 2 (.vals [.agg [.i .i64 u, .lst 3 (.rats w q)]])), some (.mk 3 (.vals [.q s 258]))]))) := by kernel_rfl
theorem r17x (w W : Nat) (t u : Int) (p q : List Rat) (s : Rat) (ys : List Rat) (n i : Int) : qe prog O17 [] pol17 f15.ntmps 0 [6, 7, 9, 11, 71, 72] b17i (x17i w W t u p q s ys n i) =
 Tr.br (decide (i < n)) (.br (ix (i) ((p.length : Int))) (.br (ix (i) ((q.length : Int))) (.br (ix (i) ((p.length : Int))) (.br ((w + w + 1).ble 800000) (.br (((258 : Nat) + (w + w + 1)).ble 800000) (.br ((w + ((258 : Nat) + (w + w + 1)) + 1).ble 800000) (.br (ys.length.ble ys.length && (ys.length + [p.getD i.toNat 0 + s * (q.getD i.toNat 0 - p.getD i.toNat 0)].length).ble 4294967296) (.br (ib (i + 1)) (.ok (.out .normal (LS.mk [.ptr 0 2 0 0 [], .ptr 1 2 0 0 [], .ptr 2 3 0 0 [], .sl 3 3 0 (ys.length + [p.getD i.toNat 0 + s * (q.getD i.toNat 0 - p.getD i.toNat 0)].length), .i .i64 n, .i .i64 (i + 1)] [some (.mk 2 (.vals [.agg [.i .i64 t, .lst 3 (.rats w p)]])), some (.mk 2 (.vals [.agg [.i .i64 u, .lst 3 (.rats w q)]])), some (.mk 3 (.vals [.q s 258])), some (.mk 3 (.rats (W.max ((w + ((258 : Nat) + (w + w + 1)) + 1).max (0 : Nat))) (List.take ys.length (List.drop (0 : Nat) ys) ++ [p.getD i.toNat 0 + s * (q.getD i.toNat 0 - p.getD i.toNat 0)])))]))) (.no 18002)) (.no 17002)) (.no 1)) (.no 1)) (.no 1)) (.no 17008)) (.no 17013)) (.no 17019)) (.ok (.out (.exit 2) (LS.mk [.ptr 0 2 0 0 [], .ptr 1 2 0 0 [], .ptr 2 3 0 0 [], .sl 3 3 0 ys.length, .i .i64 n, .i .i64 i] [some (.mk 2 (.vals [.agg [.i .i64 t, .lst 3 (.rats w p)]])), some (.mk 2 (.vals [.agg [.i .i64 u, .lst 3 (.rats w q)]])), some (.mk 3 (.vals [.q s 258])), some (.mk 3 (.rats W ys))]))) := by kernel_rfl
def parV (p q : List Rat) (s : Rat) (j : Nat) : Rat := p.getD j 0 + s * (q.getD j 0 - p.getD j 0)
def parL (p q : List Rat) (s : Rat) (n : Nat) : List Rat := (List.range n).map (parV p q s)
theorem parL_len (p q : List Rat) (s : Rat) (n : Nat) : (parL p q s n).length = n := by simp [parL]
include hG in
theorem orc17 (hT : TabG G) : OrcOK prog G O17 := .cons (gk21 hG hT) (.cons (gk29 hG hT) (.cons (gk43 hG hT) (.cons (ck70 hG hT) (.cons (ck71 hG) (.cons (gk72 hG hT) .nil)))))
include hG in
theorem goes17i (hT : TabG G) (w : Nat) (hw : w <= 10000) (t u : Int) (p q : List Rat) (s : Rat) (n : Nat) (h1 : 1 <= n) (h3 : n <= 1000) (hp : p.length = n) (hq : q.length = n) :
  Goes (Rnd prog G f15.ntmps 0 [6, 7, 9, 11, 71, 72] b17i) (n17i w t u p q s (n : Nat) 0) (.exit 2) (x17i w (segW w) t u p q s (parL p q s n) (n : Nat) (n : Nat)) := by
 refine Goes.build (xst := fun ys j => x17i w (segW w) t u p q s ys (n : Nat) (j : Nat)) (parV p q s) (by simp) n h1 ?_ ?_ ?_
 ·refine qb hG (orc17 hG hT) mix (L := []) (pol := pol17) (O := O17) (kD (by kernel_rfl)) (Nat.zero_le _) ?_
  rw [r17n, show Int.toNat 0 = 0 from rfl, k5 (kG (by omega)), k5 (by simp only [kE, kF]; omega), k5 (by simp only [kE, kF]; omega), k5 (by simp only [kE, kF]; omega),
   k5 (by rw [kI]; omega), k5 (by rw [kI]; omega), k5 (by rw [kI]; omega), k5 (by rfl), k5 (by decide), k7]
  rfl
 ·intro ys j hy hj1 hj
  refine qb hG (orc17 hG hT) mix (L := []) (pol := pol17) (O := O17) (kD (by kernel_rfl)) (Nat.zero_le _) ?_
  rw [r17x, Int.toNat_natCast, k5 (kG (by omega)), k5 (by simp only [kE, kF]; omega), k5 (by simp only [kE, kF]; omega), k5 (by simp only [kE, kF]; omega),
   k5 (by rw [kI]; omega), k5 (by rw [kI]; omega), k5 (by rw [kI]; omega), k5 (by simp only [kE, kI, kJ, kK]; omega), k5 (by simp only [kE, kF]; omega), k7, List.drop_zero, List.take_length]
  unfold x17i
  rw [List.length_append]
  refine Eq.trans (b := some (Res.out .normal (x17i w (Nat.max (segW w) (Nat.max (segW w) 0)) t u p q s (ys ++ [parV p q s j]) (n : Nat) ((j + 1 : Nat) : Int)))) ?_ (by rw [mx0]; unfold x17i; rw [List.length_append])
  unfold x17i
  rw [List.length_append]
  rfl
 ·refine qb hG (orc17 hG hT) mix (L := []) (pol := pol17) (O := O17) (kD (by kernel_rfl)) (Nat.zero_le _) ?_
  rw [r17x, k6 (kH (by omega)), k7]
  rfl
def trC (w n : Nat) (tk : Nat -> Int) (qs : Nat -> List Rat) : PV := .lst 2 (.fn n (fun j => kyPV w (tk j) (qs j)))
def o17 (w n : Nat) (tk : Nat -> Int) (qs : Nat -> List Rat) (tick i : Int) : LS := ⟨[trC w n tk qs, .i .i64 tick, .nil, .i .i64 i], []⟩
def o17r (w : Nat) (ys : List Rat) : LS := ⟨[.any, .any, .sl 0 3 0 ys.length, .any], [some ⟨3, .rats (segW w) ys⟩]⟩
theorem r17 (w n : Nat) (tk : Nat -> Int) (qs : Nat -> List Rat) (tick i : Int) (s : Rat) (ys : List Rat) (m : Int) : qe prog O17 [(14, lcst (n17i w (tk (i - 1).toNat) (tk i.toNat) (qs (i - 1).toNat) (qs i.toNat) s m 0) (.exit 2) (x17i w (segW w) (tk (i - 1).toNat) (tk i.toNat) (qs (i - 1).toNat) (qs i.toNat) s ys m m))] pol17 f15.ntmps 0 [0, 1, 4, 5] b17 (o17 w n tk qs tick i) =
 Tr.br (decide (i < (n : Int))) (.br (ix (i) ((n : Int))) (.br (decide (tk i.toNat <= tick)) (.br (ib (i + 1)) (.ok (.out .normal (LS.mk [trC w n tk qs, .i .i64 tick, .nil, .i .i64 (i + 1)] []))) (.no 8002)) (.br (ib (i - 1)) (.br (ix (i - 1) ((n : Int))) (.br (ix (i) ((n : Int))) (.br (decide ((-1000000000 : Int) < tk (i - 1).toNat) && decide (tk (i - 1).toNat < 1000000000)) (.br (decide ((-1000000000 : Int) < tick) && decide (tick < 1000000000)) (.br (((64 : Nat) + 64 + 1).ble 800000) (.br (decide ((-1000000000 : Int) < tk i.toNat) && decide (tk i.toNat < 1000000000)) (.br (((64 : Nat) + 64 + 1).ble 800000) (.br (((64 : Nat) + 64 + 1 + ((64 : Nat) + 64 + 1)).ble 800000) (.br (decide ((↑(tk i.toNat) : Rat) - (↑(tk (i - 1).toNat) : Rat) = 0)) (.br (qg (isLS (LS.mk [.ptr 0 2 0 0 [], .ptr 1 2 0 0 [], .ptr 2 3 0 0 [], .nil, .i .i64 m, .i .i64 0] [some (.mk 2 (.vals [.agg [.i .i64 (tk (i - 1).toNat), .lst 3 (.rats w (qs (i - 1).toNat))]])), some (.mk 2 (.vals [.agg [.i .i64 (tk i.toNat), .lst 3 (.rats w (qs i.toNat))]])), some (.mk 3 (.vals [.q s 258]))]) (LS.mk [.ptr 0 2 0 0 [], .ptr 1 2 0 0 [], .ptr 2 3 0 0 [], .nil, .i .i64 (if (↑(qs i.toNat).length : Int) < (↑(qs (i - 1).toNat).length : Int) then (↑(qs i.toNat).length : Int) else (↑(qs (i - 1).toNat).length : Int)), .i .i64 0] [some (.mk 2 (.vals [.agg [.i .i64 (tk (i - 1).toNat), .lst 3 (.rats w (qs (i - 1).toNat))]])), some (.mk 2 (.vals [.agg [.i .i64 (tk i.toNat), .lst 3 (.rats w (qs i.toNat))]])), some (.mk 3 (.vals [.agg [.bl false, .s (ByteArray.mk #[]), .s (ByteArray.mk #[])]]))]))) (.ok (.out .ret (LS.mk [PV.any, PV.any, .sl 0 3 0 ys.length, PV.any] [some (.mk 3 (.rats (segW w) ys))]))) (.no 1)) (.br (qg (isLS (LS.mk [.ptr 0 2 0 0 [], .ptr 1 2 0 0 [], .ptr 2 3 0 0 [], .nil, .i .i64 m, .i .i64 0] [some (.mk 2 (.vals [.agg [.i .i64 (tk (i - 1).toNat), .lst 3 (.rats w (qs (i - 1).toNat))]])), some (.mk 2 (.vals [.agg [.i .i64 (tk i.toNat), .lst 3 (.rats w (qs i.toNat))]])), some (.mk 3 (.vals [.q s 258]))]) (LS.mk [.ptr 0 2 0 0 [], .ptr 1 2 0 0 [], .ptr 2 3 0 0 [], .nil, .i .i64 (if (↑(qs i.toNat).length : Int) < (↑(qs (i - 1).toNat).length : Int) then (↑(qs i.toNat).length : Int) else (↑(qs (i - 1).toNat).length : Int)), .i .i64 0] [some (.mk 2 (.vals [.agg [.i .i64 (tk (i - 1).toNat), .lst 3 (.rats w (qs (i - 1).toNat))]])), some (.mk 2 (.vals [.agg [.i .i64 (tk i.toNat), .lst 3 (.rats w (qs i.toNat))]])), some (.mk 3 (.vals [.q (((tick : Rat) - (↑(tk (i - 1).toNat) : Rat)) / ((↑(tk i.toNat) : Rat) - (↑(tk (i - 1).toNat) : Rat))) 258]))]))) (.ok (.out .ret (LS.mk [PV.any, PV.any, .sl 0 3 0 ys.length, PV.any] [some (.mk 3 (.rats (segW w) ys))]))) (.no 1))) (.no 1)) (.no 1)) (.no 1)) (.no 1)) (.no 1)) (.no 1)) (.no 10006)) (.no 10010)) (.no 10011))) (.no 9005)) (.ok (.out (.exit 0) (LS.mk [trC w n tk qs, .i .i64 tick, .nil, .i .i64 i] []))) := by kernel_rfl
def lno : qx := fun _ _ => .no 1
theorem lno_ok {P : Program} {n m : Nat} {live : List Nat} {b : Code} : qv P G n m live b lno := by
 intro ls K x hm h; cases h
theorem r17o (w n : Nat) (tk : Nat -> Int) (qs : Nat -> List Rat) (tick i : Int) : qe prog O17 [(14, lno)] pol17 f15.ntmps 0 [0, 1, 4, 5] b17 (o17 w n tk qs tick i) =
 Tr.br (decide (i < (n : Int))) (.br (ix (i) ((n : Int))) (.br (decide (tk i.toNat <= tick)) (.br (ib (i + 1)) (.ok (.out .normal (LS.mk [trC w n tk qs, .i .i64 tick, .nil, .i .i64 (i + 1)] []))) (.no 8002)) (.br (ib (i - 1)) (.br (ix (i - 1) ((n : Int))) (.br (ix (i) ((n : Int))) (.br (decide ((-1000000000 : Int) < tk (i - 1).toNat) && decide (tk (i - 1).toNat < 1000000000)) (.br (decide ((-1000000000 : Int) < tick) && decide (tick < 1000000000)) (.br (((64 : Nat) + 64 + 1).ble 800000) (.br (decide ((-1000000000 : Int) < tk i.toNat) && decide (tk i.toNat < 1000000000)) (.br (((64 : Nat) + 64 + 1).ble 800000) (.br (((64 : Nat) + 64 + 1 + ((64 : Nat) + 64 + 1)).ble 800000) (.br (decide ((↑(tk i.toNat) : Rat) - (↑(tk (i - 1).toNat) : Rat) = 0)) (.no 1) (.no 1)) (.no 1)) (.no 1)) (.no 1)) (.no 1)) (.no 1)) (.no 1)) (.no 10006)) (.no 10010)) (.no 10011))) (.no 9005)) (.ok (.out (.exit 0) (LS.mk [trC w n tk qs, .i .i64 tick, .nil, .i .i64 i] []))) := by kernel_rfl
theorem e17a (w n : Nat) (tk : Nat -> Int) (qs : Nat -> List Rat) (tick : Int) : evF prog O17 [(6, lcst (o17 w n tk qs tick 1) (.exit 0) (o17 w n tk qs tick (n : Nat)))] pol17 f15 [trC w n tk qs, .i .i64 tick] [] qo =
 Tr.br (decide ((n : Int) = 0)) (.ok (.ret .nil [])) (.br (ix ((0 : Int)) ((n : Int))) (.br (decide (tick <= tk (Int.toNat 0))) (.br (ix ((0 : Int)) ((n : Int))) (.br (Nat.ble 1 (qs (Int.toNat 0)).length && (qs (Int.toNat 0)).length.ble 1000 && w.ble 10000) (.br ((qs (Int.toNat 0)).length.ble (qs (Int.toNat 0)).length) (.ok (.ret (.fr 3 (.rats (w + 65) (List.take (qs (Int.toNat 0)).length (List.drop (0 : Nat) (qs (Int.toNat 0)))))) [])) (.no 15)) (.no 1)) (.no 5005)) (.br (qg (isLS (LS.mk [trC w n tk qs, .i .i64 tick, .nil, .i .i64 1] []) (LS.mk [trC w n tk qs, .i .i64 tick, .nil, .i .i64 1] []))) (.br (ib ((n : Int) - 1)) (.br (ix ((n : Int) - 1) ((n : Int))) (.br (Nat.ble 1 (qs ((n : Int) - 1).toNat).length && (qs ((n : Int) - 1).toNat).length.ble 1000 && w.ble 10000) (.br ((qs ((n : Int) - 1).toNat).length.ble (qs ((n : Int) - 1).toNat).length) (.ok (.ret (.fr 3 (.rats (w + 65) (List.take (qs ((n : Int) - 1).toNat).length (List.drop (0 : Nat) (qs ((n : Int) - 1).toNat))))) [])) (.no 15)) (.no 1)) (.no 20005)) (.no 20006)) (.no 1))) (.no 4004)) := by kernel_rfl
theorem e17c (w n : Nat) (tk : Nat -> Int) (qs : Nat -> List Rat) (tick : Int) : evF prog O17 [(6, lno)] pol17 f15 [trC w n tk qs, .i .i64 tick] [] qo =
 Tr.br (decide ((n : Int) = 0)) (.ok (.ret .nil [])) (.br (ix ((0 : Int)) ((n : Int))) (.br (decide (tick <= tk (Int.toNat 0))) (.br (ix ((0 : Int)) ((n : Int))) (.br (Nat.ble 1 (qs (Int.toNat 0)).length && (qs (Int.toNat 0)).length.ble 1000 && w.ble 10000) (.br ((qs (Int.toNat 0)).length.ble (qs (Int.toNat 0)).length) (.ok (.ret (.fr 3 (.rats (w + 65) (List.take (qs (Int.toNat 0)).length (List.drop (0 : Nat) (qs (Int.toNat 0)))))) [])) (.no 15)) (.no 1)) (.no 5005)) (.no 1)) (.no 4004)) := by kernel_rfl
theorem e17b (w n : Nat) (tk : Nat -> Int) (qs : Nat -> List Rat) (tick : Int) (ys : List Rat) : evF prog O17 [(6, lcst (o17 w n tk qs tick 1) .ret (o17r w ys))] pol17 f15 [trC w n tk qs, .i .i64 tick] [] qo =
 Tr.br (decide ((n : Int) = 0)) (.ok (.ret .nil [])) (.br (ix ((0 : Int)) ((n : Int))) (.br (decide (tick <= tk (Int.toNat 0))) (.br (ix ((0 : Int)) ((n : Int))) (.br (Nat.ble 1 (qs (Int.toNat 0)).length && (qs (Int.toNat 0)).length.ble 1000 && w.ble 10000) (.br ((qs (Int.toNat 0)).length.ble (qs (Int.toNat 0)).length) (.ok (.ret (.fr 3 (.rats (w + 65) (List.take (qs (Int.toNat 0)).length (List.drop (0 : Nat) (qs (Int.toNat 0)))))) [])) (.no 15)) (.no 1)) (.no 5005)) (.br (qg (isLS (LS.mk [trC w n tk qs, .i .i64 tick, .nil, .i .i64 1] []) (LS.mk [trC w n tk qs, .i .i64 tick, .nil, .i .i64 1] []))) (.br (ys.length.ble ys.length) (.ok (.ret (.fr 3 (.rats (segW w) (List.take ys.length (List.drop (0 : Nat) ys)))) [])) (.no 15)) (.no 1))) (.no 4004)) := by kernel_rfl
structure TrC (m n : Nat) (tk : Nat -> Int) (qs : Nat -> List Rat) : Prop where
 n1 : 1 <= n
 n60 : n <= 60
 m1 : 1 <= m
 m3 : m <= 3
 len : ∀ j, j < n -> (qs j).length = m
 rng : ∀ j, j < n -> -50000 <= tk j /\ tk j <= 50000
 inc : ∀ j, j + 1 < n -> tk j < tk (j + 1)
def okAt (tk : Nat -> Int) (tick : Int) (j : Nat) : Bool := decide (tk j <= tick)
def prt (tk : Nat -> Int) (tick : Int) (i : Nat) : Rat := ((tick : Rat) - (tk (i - 1) : Rat)) / ((tk i : Rat) - (tk (i - 1) : Rat))
def at17 (m n : Nat) (tk : Nat -> Int) (qs : Nat -> List Rat) (tick : Int) : List Rat :=
 if tick <= tk 0 then qs 0 else
 if fbad (okAt tk tick) (n - 1) 1 = n then qs (n - 1) else
 parL (qs (fbad (okAt tk tick) (n - 1) 1 - 1)) (qs (fbad (okAt tk tick) (n - 1) 1)) (prt tk tick (fbad (okAt tk tick) (n - 1) 1)) m
theorem fbad_all (ok : Nat -> Bool) : ∀ f i, (∀ j, i <= j -> j < i + f -> ok j = true) -> fbad ok f i = i + f
 | 0, i, _ => rfl
 | f + 1, i, h => by
  have := fbad_all ok f (i + 1) (fun j a b => h j (by omega) (by omega))
  unfold fbad
  rw [h i (Nat.le_refl _) (by omega)]
  show fbad ok f (i + 1) = _
  omega
theorem fbad_some (ok : Nat -> Bool) : ∀ f i, (¬ ∀ j, i <= j -> j < i + f -> ok j = true) -> i <= fbad ok f i /\ fbad ok f i < i + f /\ ok (fbad ok f i) = false /\ ∀ j, i <= j -> j < fbad ok f i -> ok j = true
 | 0, i, h => (h fun j a b => by omega).elim
 | f + 1, i, h => by
  unfold fbad
  cases hi : ok i with
  | false => exact ⟨Nat.le_refl _, by show i < _; omega, hi, fun j a b => by have b' : j < i := b; omega⟩
  | true =>
   obtain ⟨a, b, c, d⟩ := fbad_some ok f (i + 1) (fun hh => h fun j x y => by
    rcases Nat.lt_or_ge i j with g | g
    ·exact hh j g (by omega)
    ·rw [show j = i by omega]; exact hi)
   refine ⟨by show i <= fbad ok f (i + 1); omega, by show fbad ok f (i + 1) < _; omega, c, fun j x y => ?_⟩
   rcases Nat.lt_or_ge i j with g | g
   ·exact d j g y
   ·rw [show j = i by omega]; exact hi
theorem TrC.mono {m n : Nat} {tk : Nat -> Int} {qs : Nat -> List Rat} (h : TrC m n tk qs) : ∀ d j, j + d < n -> tk j <= tk (j + d)
 | 0, j, _ => Int.le_refl _
 | d + 1, j, hj => by
  have := TrC.mono h d j (by omega)
  have := h.inc (j + d) (by omega)
  rw [show j + (d + 1) = j + d + 1 by omega]
  omega
include hG in
theorem pc17 (hT : TabG G) (w : Nat) (hw : w <= 9000) {m n : Nat} {tk : Nat -> Int} {qs : Nat -> List Rat} (h : TrC m n tk qs) (tick : Int) (h0 : -100000 <= tick) (h9 : tick <= 100000) : PC prog G 15 [trC w n tk qs, .i .i64 tick] [] (.fr 3 (.rats (segW w) (at17 m n tk qs tick))) [] := by
 have hsw : w + 65 <= segW w := by unfold segW; omega
 have hn := h.n1
 have hn6 := h.n60
 have hm1 := h.m1
 have hm3 := h.m3
 have q0 := h.len 0 hn
 have q9 := h.len (n - 1) (by omega)
 have c0 : (decide ((0 : Int) <= 0) && decide ((0 : Int) < (n : Int))) = true := by simp only [kE, kF]; omega
 have step : ∀ i, i < n -> okAt tk tick i = true -> Rnd prog G f15.ntmps 0 [0, 1, 4, 5] b17 (o17 w n tk qs tick ((i : Nat) : Int)) .normal (o17 w n tk qs tick ((i + 1 : Nat) : Int)) := by
  intro i hi hok
  refine qb hG (orc17 hG hT) mix (L := [(14, lno)]) (pol := pol17) (O := O17) (lps1 (b := b17i) (live := [6, 7, 9, 11, 71, 72]) (sp := lno) (by kernel_rfl) (by kernel_rfl) (by kernel_rfl) lno_ok) (Nat.zero_le _) ?_
  rw [r17o, Int.toNat_natCast, k5 (kG (by omega)), k5 (by simp only [kE, kF]; omega), k5 (by exact hok), k5 (by simp only [kE, kF]; omega), k7]
  rfl
 have fin : Rnd prog G f15.ntmps 0 [0, 1, 4, 5] b17 (o17 w n tk qs tick ((n : Nat) : Int)) (.exit 0) (o17 w n tk qs tick ((n : Nat) : Int)) := by
  refine qb hG (orc17 hG hT) mix (L := [(14, lno)]) (pol := pol17) (O := O17) (lps1 (b := b17i) (live := [6, 7, 9, 11, 71, 72]) (sp := lno) (by kernel_rfl) (by kernel_rfl) (by kernel_rfl) lno_ok) (Nat.zero_le _) ?_
  rw [r17o, k6 (kH (by omega)), k7]
  rfl
 have bad : ∀ i, 1 <= i -> i < n -> okAt tk tick i = false -> okAt tk tick (i - 1) = true -> Rnd prog G f15.ntmps 0 [0, 1, 4, 5] b17 (o17 w n tk qs tick ((i : Nat) : Int)) .ret (o17r w (parL (qs (i - 1)) (qs i) (prt tk tick i) m)) := by
  intro i h1 hi hok hok'
  have ha := of_decide_eq_true hok'
  have hb : tick < tk i := by have := of_decide_eq_false hok; omega
  have r1 := h.rng i hi
  have r2 := h.rng (i - 1) (by omega)
  have hinc := h.inc (i - 1) (by omega)
  rw [show i - 1 + 1 = i by omega] at hinc
  have l1 := h.len i hi
  have l2 := h.len (i - 1) (by omega)
  have e1 : (((i : Nat) : Int) - 1).toNat = i - 1 := by omega
  have g := goes17i hG hT w (by omega) (tk (i - 1)) (tk i) (qs (i - 1)) (qs i) (prt tk tick i) m hm1 (by omega) l2 l1
  have sp : qv prog G f15.ntmps 0 [6, 7, 9, 11, 71, 72] b17i (lcst (n17i w (tk (((i : Nat) : Int) - 1).toNat) (tk ((i : Nat) : Int).toNat) (qs (((i : Nat) : Int) - 1).toNat) (qs ((i : Nat) : Int).toNat) (prt tk tick i) (m : Nat) 0) (.exit 2)
   (x17i w (segW w) (tk (((i : Nat) : Int) - 1).toNat) (tk ((i : Nat) : Int).toNat) (qs (((i : Nat) : Int) - 1).toNat) (qs ((i : Nat) : Int).toNat) (prt tk tick i) (parL (qs (i - 1)) (qs i) (prt tk tick i) m) (m : Nat) (m : Nat))) := by
   rw [e1, Int.toNat_natCast]
   exact lcst_ok g
  refine qb hG (orc17 hG hT) mix (L := [(14, lcst (n17i w (tk (((i : Nat) : Int) - 1).toNat) (tk ((i : Nat) : Int).toNat) (qs (((i : Nat) : Int) - 1).toNat) (qs ((i : Nat) : Int).toNat) (prt tk tick i) (m : Nat) 0) (.exit 2) (x17i w (segW w) (tk (((i : Nat) : Int) - 1).toNat) (tk ((i : Nat) : Int).toNat) (qs (((i : Nat) : Int) - 1).toNat) (qs ((i : Nat) : Int).toNat) (prt tk tick i) (parL (qs (i - 1)) (qs i) (prt tk tick i) m) (m : Nat) (m : Nat)))]) (pol := pol17) (O := O17) (lps1 (b := b17i) (live := [6, 7, 9, 11, 71, 72]) (by kernel_rfl) (by kernel_rfl) (by kernel_rfl) sp) (Nat.zero_le _) ?_
  have d1 : ((tick - tk (i - 1) : Int) : Rat) = (tick : Rat) - (tk (i - 1) : Rat) := Rat.intCast_sub _ _
  have d2 : ((tk i - tk (i - 1) : Int) : Rat) = (tk i : Rat) - (tk (i - 1) : Rat) := Rat.intCast_sub _ _
  rw [r17, e1, Int.toNat_natCast, k5 (kG (by omega)), k5 (by simp only [kE, kF]; omega), k6 (by exact hok), k5 (by simp only [kE, kF]; omega), k5 (by simp only [kE, kF]; omega), k5 (by simp only [kE, kF]; omega),
   k5 (by simp only [kE, kF]; omega), k5 (by simp only [kE, kF]; omega), k5 (by decide),
   k5 (by simp only [kE, kF]; omega), k5 (by decide),
   k5 (by decide), k6 (kH (by rw [<- d2]; intro h0; have := Rat.intCast_eq_zero_iff.1 h0; omega)),
   k5 (by
    rw [l1, l2]
    exact decP_iff.2 (by unfold isLS; rw [if_neg (by omega)]; rfl)), k7]
  rfl
 have a0 : ((1 : Nat) : Int) = 1 := rfl
 have k0 : (Nat.ble 1 (qs 0).length && Nat.ble (qs 0).length 1000 && Nat.ble w 10000) = true := by simp only [kE, kI, q0]; omega
 have k9 : (Nat.ble 1 (qs (n - 1)).length && Nat.ble (qs (n - 1)).length 1000 && Nat.ble w 10000) = true := by simp only [kE, kI, q9]; omega
 have e9 : (((n : Nat) : Int) - 1).toNat = n - 1 := by omega
 by_cases hall : ∀ j, 1 <= j -> j < 1 + (n - 1) -> okAt tk tick j = true
 ·have g := Goes.count (R := Rnd prog G f15.ntmps 0 [0, 1, 4, 5] b17) (fun j => o17 w n tk qs tick ((j : Nat) : Int)) (e := .exit 0) (ls' := o17 w n tk qs tick ((n : Nat) : Int)) (by simp) (n - 1) 1 (fun j a b => step j (by omega) (hall j a b)) (by rw [show 1 + (n - 1) = n by omega]; exact fin)
  refine (qp (r := .fr 3 (.rats (w + 65) (at17 m n tk qs tick))) hG (orc17 hG hT) mix enter17 (L := [(6, lcst (o17 w n tk qs tick 1) (.exit 0) (o17 w n tk qs tick (n : Nat)))]) (pol := pol17) (lps1n (b := b17) (b' := b17i) (live := [0, 1, 4, 5]) (m := 0) (by kernel_rfl) (by kernel_rfl) (by kernel_rfl) (by kernel_rfl) (lcst_ok g)) ?_).le (frrats_le 3 _ hsw) (.refl _)
  rw [e17a, show Int.toNat 0 = 0 from rfl, k6 (kH (by omega)), k5 c0]
  unfold at17
  by_cases ht : tick <= tk 0
  ·rw [if_pos ht, k5 (kG ht), k5 c0, k5 (by exact k0), k5 (by rw [kI]; exact Nat.le_refl _), k7, List.drop_zero]
   show some (Res.ret (.fr 3 (.rats (w + 65) (List.take (qs 0).length (qs 0)))) []) = _
   rw [List.take_length]
  ·rw [if_neg ht, if_pos (by rw [fbad_all _ _ _ hall]; omega), k6 (kH ht), k5 isLS_t, k5 (by simp only [kE, kF]; omega), k5 (by simp only [kE, kF]; omega), k5 (by rw [e9]; exact k9),
    k5 (by rw [kI]; exact Nat.le_refl _), k7, List.drop_zero]
   show some (Res.ret (.fr 3 (.rats (w + 65) (List.take (qs (((n : Nat) : Int) - 1).toNat).length (qs (((n : Nat) : Int) - 1).toNat)))) []) = _
   rw [List.take_length, e9]
 ·obtain ⟨f1, f2, f3, f4⟩ := fbad_some (okAt tk tick) (n - 1) 1 hall
  by_cases ht : tick <= tk 0
  ·have g := Goes.count (R := Rnd prog G f15.ntmps 0 [0, 1, 4, 5] b17) (fun j => o17 w n tk qs tick ((n : Nat) : Int)) (e := .exit 0) (ls' := o17 w n tk qs tick ((n : Nat) : Int)) (by simp) 0 0 (fun j a b => by omega) fin
   refine (qp (r := .fr 3 (.rats (w + 65) (at17 m n tk qs tick))) hG (orc17 hG hT) mix enter17 (L := [(6, lno)]) (pol := pol17) (lps1n (b := b17) (b' := b17i) (live := [0, 1, 4, 5]) (m := 0) (by kernel_rfl) (by kernel_rfl) (by kernel_rfl) (by kernel_rfl) lno_ok) ?_).le (frrats_le 3 _ hsw) (.refl _)
   rw [e17c, show Int.toNat 0 = 0 from rfl, k6 (kH (by omega)), k5 c0]
   unfold at17
   rw [if_pos ht, k5 (kG ht), k5 c0, k5 (by exact k0), k5 (by rw [kI]; exact Nat.le_refl _), k7, List.drop_zero]
   show some (Res.ret (.fr 3 (.rats (w + 65) (List.take (qs 0).length (qs 0)))) []) = _
   rw [List.take_length]
  ·have hprev : okAt tk tick (fbad (okAt tk tick) (n - 1) 1 - 1) = true := by
    rcases Nat.lt_or_ge 1 (fbad (okAt tk tick) (n - 1) 1) with a | a
    ·exact f4 _ (by omega) (by omega)
    ·rw [show fbad (okAt tk tick) (n - 1) 1 - 1 = 0 by omega]; exact kG (by omega)
   unfold at17
   rw [if_neg ht, if_neg (by omega)]
   generalize fbad (okAt tk tick) (n - 1) 1 = i at *
   have g := Goes.count (R := Rnd prog G f15.ntmps 0 [0, 1, 4, 5] b17) (fun j => o17 w n tk qs tick ((j : Nat) : Int)) (e := .ret) (ls' := o17r w (parL (qs (i - 1)) (qs i) (prt tk tick i) m)) (by simp) (i - 1) 1 (fun j a b => step j (by omega) (f4 j a (by omega))) (by rw [show 1 + (i - 1) = i by omega]; exact bad i f1 (by omega) f3 hprev)
   refine qp hG (orc17 hG hT) mix enter17 (L := [(6, lcst (o17 w n tk qs tick 1) .ret (o17r w (parL (qs (i - 1)) (qs i) (prt tk tick i) m)))]) (pol := pol17) (lps1n (b := b17) (b' := b17i) (live := [0, 1, 4, 5]) (m := 0) (by kernel_rfl) (by kernel_rfl) (by kernel_rfl) (by kernel_rfl) (lcst_ok g)) ?_
   rw [e17b, show Int.toNat 0 = 0 from rfl, k6 (kH (by omega)), k5 c0, k6 (kH ht), k5 isLS_t, k5 (by rw [kI]; exact Nat.le_refl _), k7, List.drop_zero, List.take_length]
def b35w : Code := (qh (qd f92)).getD 0 .skip
def R35w : Orc := [(36, g27)]
def O35w (A : Am) (n : Int) : Orc := [(36, g27), (116, cst [qk A, .i .i64 n] True (.i .i64 0))]
def st35w (w : Nat) (qs : List Rat) (n : Nat) (lk : Nat -> Lk) (e i : Int) : LS := ⟨[.lst 3 (.rats w qs), .i .i64 e, .lst 16 (.fn n (fun j => lkPV (lk j))), .i .i64 n, .i .i64 i], []⟩
theorem r35w (w : Nat) (qs : List Rat) (n : Nat) (lk : Nat -> Lk) (e i : Int) : qe prog R35w [] pol35 f92.ntmps 0 [1, 4, 16, 17, 18] b35w (st35w w qs n lk e i) =
 Tr.br (decide (i < (n : Int))) (.br (ix (i) ((n : Int))) (.br (ix (i) ((qs.length : Int))) (.br ((w + 64).ble 800000) (.br (decide (rcmp (qs.getD i.toNat 0) (lk i.toNat).low < 0)) (.ok (.out .ret (LS.mk [.lst 3 (.rats w qs), .i .i64 17, .lst 16 (.fn n fun (j : Nat) => .agg [.q (lk j).len 64, .q (lk j).low 64, .q (lk j).high 64, .q (lk j).spd 64, .q (lk j).brk 64, .lst 6 (.fn (lk j).np fun (a : Nat) => .agg [.q ((lk j).px a) 64, .q ((lk j).py a) 64])]), .i .i64 (n : Int), .i .i64 i] []))) (.br (ix (i) ((qs.length : Int))) (.br ((w + 64).ble 800000) (.br (decide ((0 : Int) < rcmp (qs.getD i.toNat 0) (lk i.toNat).high)) (.ok (.out .ret (LS.mk [.lst 3 (.rats w qs), .i .i64 17, .lst 16 (.fn n fun (j : Nat) => .agg [.q (lk j).len 64, .q (lk j).low 64, .q (lk j).high 64, .q (lk j).spd 64, .q (lk j).brk 64, .lst 6 (.fn (lk j).np fun (a : Nat) => .agg [.q ((lk j).px a) 64, .q ((lk j).py a) 64])]), .i .i64 (n : Int), .i .i64 i] []))) (.br (ib (i + 1)) (.ok (.out .normal (LS.mk [.lst 3 (.rats w qs), .i .i64 e, .lst 16 (.fn n fun (j : Nat) => .agg [.q (lk j).len 64, .q (lk j).low 64, .q (lk j).high 64, .q (lk j).spd 64, .q (lk j).brk 64, .lst 6 (.fn (lk j).np fun (a : Nat) => .agg [.q ((lk j).px a) 64, .q ((lk j).py a) 64])]), .i .i64 (n : Int), .i .i64 (i + 1)] []))) (.no 10002))) (.no 1)) (.no 8007))) (.no 1)) (.no 8016)) (.no 7005)) (.ok (.out (.exit 0) (LS.mk [.lst 3 (.rats w qs), .i .i64 e, .lst 16 (.fn n fun (j : Nat) => .agg [.q (lk j).len 64, .q (lk j).low 64, .q (lk j).high 64, .q (lk j).spd 64, .q (lk j).brk 64, .lst 6 (.fn (lk j).np fun (a : Nat) => .agg [.q ((lk j).px a) 64, .q ((lk j).py a) 64])]), .i .i64 (n : Int), .i .i64 i] []))) := by kernel_rfl
theorem e35w (w : Nat) (A : Am) (qs : List Rat) (n e i : Int) (x : Exit) : evF prog (O35w A qs.length) [(5, lcst (st35w w qs A.n A.lk 0 0) (.exit 0) (st35w w qs A.n A.lk 0 i))] pol35 f92 [qk A, .lst 3 (.rats w qs)] [] qo =
 Tr.br (qg (isA [qk A, .i .i64 (qs.length : Int)] True [qk A, .i .i64 (qs.length : Int)])) (.br (!decide ((0 : Int) = 0)) (.ok (.ret (.i .i64 0) [])) (.br (qg (isLS (LS.mk [.lst 3 (.rats w qs), .i .i64 0, .lst 16 (.fn A.n fun (j : Nat) => .agg [.q (A.lk j).len 64, .q (A.lk j).low 64, .q (A.lk j).high 64, .q (A.lk j).spd 64, .q (A.lk j).brk 64, .lst 6 (.fn (A.lk j).np fun (a : Nat) => .agg [.q ((A.lk j).px a) 64, .q ((A.lk j).py a) 64])]), .i .i64 (A.n : Int), .i .i64 0] []) (LS.mk [.lst 3 (.rats w qs), .i .i64 0, .lst 16 (.fn A.n fun (j : Nat) => .agg [.q (A.lk j).len 64, .q (A.lk j).low 64, .q (A.lk j).high 64, .q (A.lk j).spd 64, .q (A.lk j).brk 64, .lst 6 (.fn (A.lk j).np fun (a : Nat) => .agg [.q ((A.lk j).px a) 64, .q ((A.lk j).py a) 64])]), .i .i64 (A.n : Int), .i .i64 0] []))) (.ok (.ret (.i .i64 0) [])) (.no 1))) (.no 1) := by kernel_rfl
theorem e35b (w : Nat) (A : Am) (qs : List Rat) (n e i : Int) (x : Exit) : evF prog (O35w A qs.length) [(5, lcst (st35w w qs A.n A.lk 0 0) .ret (st35w w qs A.n A.lk 17 i))] pol35 f92 [qk A, .lst 3 (.rats w qs)] [] qo =
 Tr.br (qg (isA [qk A, .i .i64 (qs.length : Int)] True [qk A, .i .i64 (qs.length : Int)])) (.br (!decide ((0 : Int) = 0)) (.ok (.ret (.i .i64 0) [])) (.br (qg (isLS (LS.mk [.lst 3 (.rats w qs), .i .i64 0, .lst 16 (.fn A.n fun (j : Nat) => .agg [.q (A.lk j).len 64, .q (A.lk j).low 64, .q (A.lk j).high 64, .q (A.lk j).spd 64, .q (A.lk j).brk 64, .lst 6 (.fn (A.lk j).np fun (a : Nat) => .agg [.q ((A.lk j).px a) 64, .q ((A.lk j).py a) 64])]), .i .i64 (A.n : Int), .i .i64 0] []) (LS.mk [.lst 3 (.rats w qs), .i .i64 0, .lst 16 (.fn A.n fun (j : Nat) => .agg [.q (A.lk j).len 64, .q (A.lk j).low 64, .q (A.lk j).high 64, .q (A.lk j).spd 64, .q (A.lk j).brk 64, .lst 6 (.fn (A.lk j).np fun (a : Nat) => .agg [.q ((A.lk j).px a) 64, .q ((A.lk j).py a) 64])]), .i .i64 (A.n : Int), .i .i64 0] []))) (.ok (.ret (.i .i64 17) [])) (.no 1))) (.no 1) := by kernel_rfl
include hG in
theorem pc85 (A : Am) (hA : armB A = true) (k : Nat) (hk : k = A.n) : PC prog G 116 [qk A, .i .i64 (k : Nat)] [] (.i .i64 0) [] := by
 obtain ⟨r, hs', p, e⟩ := ok85 hG [qk A, .i .i64 (k : Nat)] [] (fun r hs' => .ok (.ret r hs')) (.ret (.i .i64 0) []) (by
  show (Tr.br _ _ _).run = _
  rw [k5 (decP_iff.2 ⟨_, A, by rw [hk], .refl _, hA⟩)]; rfl)
 cases e
 exact p
include hG in
theorem orcR35 (hT : TabG G) : OrcOK prog G R35w := .cons (gk27 hG hT) .nil
include hG in
theorem pc35w (hT : TabG G) (w : Nat) (hw : w <= 100000) (A : Am) (hA : armB A = true) (qs : List Rat) (hl : qs.length = A.n) : PC prog G 92 [qk A, .lst 3 (.rats w qs)] [] (.i .i64 (if fitB A qs = true then 0 else 17)) [] := by
 obtain ⟨h1, h2, h3, h4, h5, h6, h7⟩ := armB_c hA
 have hstep : ∀ j, j < A.n -> fit1 A.lk qs j = true -> Rnd prog G f92.ntmps 0 [1, 4, 16, 17, 18] b35w (st35w w qs A.n A.lk 0 ((j : Nat) : Int)) .normal (st35w w qs A.n A.lk 0 ((j + 1 : Nat) : Int)) := by
  intro j hj hf
  refine qb hG (orcR35 hG hT) mix (L := []) (pol := pol35) (O := R35w) (kD (by kernel_rfl)) (Nat.zero_le _) ?_
  simp only [fit1, kE, kF] at hf
  rw [r35w, Int.toNat_natCast, k5 (kG (by omega)), k5 (by simp only [kE, kF]; omega), k5 (by simp only [kE, kF]; omega), k5 (by rw [kI]; omega), k6 (kH (by rw [rcmp_lt]; exact Rat.not_lt.2 hf.1)),
   k5 (by simp only [kE, kF]; omega), k5 (by rw [kI]; omega), k6 (kH (by rw [rcmp_gt]; exact Rat.not_lt.2 hf.2)), k5 (by simp only [kE, kF]; omega), k7]
  rfl
 have hbad : ∀ j, j < A.n -> fit1 A.lk qs j = false -> Rnd prog G f92.ntmps 0 [1, 4, 16, 17, 18] b35w (st35w w qs A.n A.lk 0 ((j : Nat) : Int)) .ret (st35w w qs A.n A.lk 17 ((j : Nat) : Int)) := by
  intro j hj hf
  refine qb hG (orcR35 hG hT) mix (L := []) (pol := pol35) (O := R35w) (kD (by kernel_rfl)) (Nat.zero_le _) ?_
  simp only [fit1, Bool.and_eq_false_iff, kN] at hf
  rw [r35w, Int.toNat_natCast, k5 (kG (by omega)), k5 (by simp only [kE, kF]; omega), k5 (by simp only [kE, kF]; omega), k5 (by rw [kI]; omega)]
  by_cases h1 : (A.lk j).low <= qs.getD j 0
  ·rw [k6 (kH (by rw [rcmp_lt]; exact Rat.not_lt.2 h1)),
    k5 (by simp only [kE, kF]; omega), k5 (by rw [kI]; omega), k5 (kG (by rw [rcmp_gt]; exact Rat.not_le.1 (hf.resolve_left (fun h => h h1)))), k7]
   rfl
  ·rw [k5 (kG (by rw [rcmp_lt]; exact Rat.not_le.1 h1)), k7]
   rfl
 have hend : Rnd prog G f92.ntmps 0 [1, 4, 16, 17, 18] b35w (st35w w qs A.n A.lk 0 ((A.n : Nat) : Int)) (.exit 0) (st35w w qs A.n A.lk 0 ((A.n : Nat) : Int)) := by
  refine qb hG (orcR35 hG hT) mix (L := []) (pol := pol35) (O := R35w) (kD (by kernel_rfl)) (Nat.zero_le _) ?_
  rw [r35w, k6 (kH (by omega)), k7]
  rfl
 obtain ⟨g1, g2⟩ := Goes.search (fun j => st35w w qs A.n A.lk 0 ((j : Nat) : Int)) (fun j => st35w w qs A.n A.lk 17 ((j : Nat) : Int)) (fit1 A.lk qs) A.n (by simp) (by simp) hstep hbad hend A.n 0 (by omega)
 have oc : OrcOK prog G (O35w A qs.length) := .cons (gk27 hG hT) (.cons (cst_t (pc85 hG A hA qs.length hl)) .nil)
 cases hall : fitB A qs with
 | true =>
  rw [if_pos rfl]
  refine qp hG oc mix enter35 (L := [(5, lcst (st35w w qs A.n A.lk 0 0) (.exit 0) (st35w w qs A.n A.lk 0 (A.n : Nat)))]) (pol := pol35) (lps1 (b := b35w) (live := [1, 4, 16, 17, 18]) (m := 0) (by kernel_rfl) (by kernel_rfl) (by kernel_rfl) (lcst_ok (g1 fun j _ hj => List.all_eq_true.1 hall j (List.mem_range.2 hj)))) ?_
  rw [e35w w A qs 0 0 (A.n : Nat) .ret, k5 (decP_iff.2 ⟨rfl, trivial⟩), k6 (by decide), k5 isLS_t, k7]
 | false =>
  rw [if_neg (by decide)]
  have hn : ¬ ∀ j, 0 <= j -> j < A.n -> fit1 A.lk qs j = true := by
   intro hh
   have : fitB A qs = true := List.all_eq_true.2 fun j hj => hh j (Nat.zero_le _) (List.mem_range.1 hj)
   rw [hall] at this; cases this
  refine qp hG oc mix enter35 (L := [(5, lcst (st35w w qs A.n A.lk 0 0) .ret (st35w w qs A.n A.lk 17 ((fbad (fit1 A.lk qs) A.n 0 : Nat) : Int)))]) (pol := pol35) (lps1 (b := b35w) (live := [1, 4, 16, 17, 18]) (m := 0) (by kernel_rfl) (by kernel_rfl) (by kernel_rfl) (lcst_ok (g2 hn))) ?_
  rw [e35b w A qs 0 0 _ .ret, k5 (decP_iff.2 ⟨rfl, trivial⟩), k6 (by decide), k5 isLS_t, k7]
def P35A (A : Am) (a : PV) (w : Nat) (q : List Rat) : Prop := a = qk A /\ q.length = A.n /\ w <= 10000
def c35 (A : Am) : Spec := fun args hs K => match args, hs with
 | [a, .lst 3 (.rats w q)], [] => .br (qg (P35A A a w q)) (.br (fitB A q) (K (.i .i64 0) []) (K (.i .i64 17) [])) (.no 1)
 | _, _ => .no 1
include hG in
theorem ck35 (hT : TabG G) (A : Am) (hA : armB A = true) : qc prog G 92 (c35 A) := by
 intro args hs K x h
 unfold c35 at h
 split at h
 case h_2 => cases h
 rename_i a w q
 obtain ⟨hc, hr⟩ := kA h
 obtain ⟨rfl, hl, hw⟩ := decP_iff.1 hc
 have p := pc35w hG hT w (by omega) A hA q hl
 cases hf : fitB A q with
 | true => rw [hf, if_pos rfl] at p; rw [k5 hf] at hr; exact ⟨_, _, p, hr⟩
 | false => rw [hf, if_neg (by decide)] at p; rw [k6 hf] at hr; exact ⟨_, _, p, hr⟩
def P98A (A : Am) (a : PV) (p q : List Rat) (t u : Int) (w v : Nat) : Prop := a = qk A /\ p.length = A.n /\ q.length = A.n /\ -100000 <= u - t /\ u - t <= 100000 /\ w <= 10000 /\ v <= 10000
def c98A (A : Am) : Spec := fun args hs K => match args, hs with
 | [a, .agg [.i .i64 t, .lst 3 (.rats w p)], .agg [.i .i64 u, .lst 3 (.rats v q)]], [] => .br (qg (P98A A a p q t u w v)) (.br (slowB A (u - t) p q) (K (.bl true) []) (K (.bl false) [])) (.no 1)
 | _, _ => .no 1
include hG in
theorem ck98A (hT : TabG G) (A : Am) (hA : armB A = true) : qc prog G 95 (c98A A) := by
 intro args hs K x h
 unfold c98A at h
 split at h
 case h_2 => cases h
 rename_i a t w p u v q
 obtain ⟨hc, hr⟩ := kA h
 obtain ⟨rfl, h1, h2, h3, h4, h5, h6⟩ := decP_iff.1 hc
 have pc := pc98 hG hT w v h5 h6 A hA t u p q h1 h2 h3 h4
 cases hf : slowB A (u - t) p q with
 | true => rw [hf] at pc; rw [k5 hf] at hr; exact ⟨_, _, pc, hr⟩
 | false => rw [hf] at pc; rw [k6 hf] at hr; exact ⟨_, _, pc, hr⟩
def b58 : Code := (qh (qd f50)).getD 0 .skip
def pol58 : Pol := { live := [(9, [1, 2, 4, 20, 21, 22])] }
def R58 (A : Am) : Orc := [(92, c35 A), (95, c98A A)]
def O58 (A : Am) : Orc := [(92, c35 A), (91, cst [qk A] True (.i .i64 0)), (95, c98A A)]
theorem enter58 : Enters prog 50 f50 (qd f50) := ⟨func50, by kernel_rfl, rfl⟩
def st58 (A : Am) (w n : Nat) (tk : Nat -> Int) (qs : Nat -> List Rat) (e i : Int) : LS := ⟨[trC w n tk qs, .ptr 0 12 0 0 [], .i .i64 e, trC w n tk qs, .i .i64 n, .i .i64 i], [some ⟨12, .vals [qk A]⟩]⟩
theorem r58 (A : Am) (w n : Nat) (tk : Nat -> Int) (qs : Nat -> List Rat) (e i : Int) : (qe prog (R58 A) [] pol58 f50.ntmps 0 [1, 2, 4, 20, 21, 22] b58 (st58 A w n tk qs e i)).run =
 (Tr.br (decide (i < (n : Int))) (.br (ix (i) ((n : Int))) (.br (decide (tk i.toNat < 0)) (.ok (.out .ret (LS.mk [trC w n tk qs, .ptr 0 12 0 0 [], .i .i64 1, trC w n tk qs, .i .i64 (n : Int), .i .i64 i] [some (.mk 12 (.vals [qk A]))]))) (.br (decide ((2000 : Int) < tk i.toNat)) (.ok (.out .ret (LS.mk [trC w n tk qs, .ptr 0 12 0 0 [], .i .i64 1, trC w n tk qs, .i .i64 (n : Int), .i .i64 i] [some (.mk 12 (.vals [qk A]))]))) (.br (qg (P35A A (qk A) w (qs i.toNat))) (.br (fitB A (qs i.toNat)) (.br (decide (i = 0)) (.br (ib (i + 1)) (.ok (.out .normal (LS.mk [trC w n tk qs, .ptr 0 12 0 0 [], .i .i64 e, trC w n tk qs, .i .i64 (n : Int), .i .i64 (i + 1)] [some (.mk 12 (.vals [qk A]))]))) (.no 22002)) (.br (ib (i - 1)) (.br (ix (i - 1) ((n : Int))) (.br (decide (tk i.toNat <= tk (i - 1).toNat)) (.ok (.out .ret (LS.mk [trC w n tk qs, .ptr 0 12 0 0 [], .i .i64 9, trC w n tk qs, .i .i64 (n : Int), .i .i64 i] [some (.mk 12 (.vals [qk A]))]))) (.br (ib (i - 1)) (.br (ix (i - 1) ((n : Int))) (.br (qg (P98A A (qk A) (qs (i - 1).toNat) (qs i.toNat) (tk (i - 1).toNat) (tk i.toNat) w w)) (.br (slowB A (tk i.toNat - tk (i - 1).toNat) (qs (i - 1).toNat) (qs i.toNat)) (.br (ib (i + 1)) (.ok (.out .normal (LS.mk [trC w n tk qs, .ptr 0 12 0 0 [], .i .i64 e, trC w n tk qs, .i .i64 (n : Int), .i .i64 (i + 1)] [some (.mk 12 (.vals [qk A]))]))) (.no 22002)) (.ok (.out .ret (LS.mk [trC w n tk qs, .ptr 0 12 0 0 [], .i .i64 19, trC w n tk qs, .i .i64 (n : Int), .i .i64 i] [some (.mk 12 (.vals [qk A]))])))) (.no 1)) (.no 20005)) (.no 20006))) (.no 18004)) (.no 18005))) (.ok (.out .ret (LS.mk [trC w n tk qs, .ptr 0 12 0 0 [], .i .i64 17, trC w n tk qs, .i .i64 (n : Int), .i .i64 i] [some (.mk 12 (.vals [qk A]))])))) (.no 1)))) (.no 11005)) (.ok (.out (.exit 0) (LS.mk [trC w n tk qs, .ptr 0 12 0 0 [], .i .i64 e, trC w n tk qs, .i .i64 (n : Int), .i .i64 i] [some (.mk 12 (.vals [qk A]))])))).run := by kernel_rfl
theorem e58 (A : Am) (w n : Nat) (tk : Nat -> Int) (qs : Nat -> List Rat) (i : Int) : (evF prog (O58 A) [(9, lcst (st58 A w n tk qs 0 0) (.exit 0) (st58 A w n tk qs 0 i))] pol58 f50 [qk A, trC w n tk qs] [] qo).run =
 (Tr.br (qg (isA [qk A] True [qk A])) (.br (decide ((n : Int) = 0)) (.ok (.ret (.i .i64 14) [])) (.br (decide ((60 : Int) < (n : Int))) (.ok (.ret (.i .i64 2) [])) (.br (qg (isLS (LS.mk [trC w n tk qs, .ptr 0 12 0 0 [], .i .i64 0, trC w n tk qs, .i .i64 (n : Int), .i .i64 0] [some (.mk 12 (.vals [qk A]))]) (LS.mk [trC w n tk qs, .ptr 0 12 0 0 [], .i .i64 0, trC w n tk qs, .i .i64 (n : Int), .i .i64 0] [some (.mk 12 (.vals [qk A]))]))) (.ok (.ret (.i .i64 0) [])) (.no 1)))) (.no 1)).run := by kernel_rfl
theorem e58b (A : Am) (w n : Nat) (tk : Nat -> Int) (qs : Nat -> List Rat) (e i : Int) : (evF prog (O58 A) [(9, lcst (st58 A w n tk qs 0 0) .ret (st58 A w n tk qs e i))] pol58 f50 [qk A, trC w n tk qs] [] qo).run =
 (Tr.br (qg (isA [qk A] True [qk A])) (.br (decide ((n : Int) = 0)) (.ok (.ret (.i .i64 14) [])) (.br (decide ((60 : Int) < (n : Int))) (.ok (.ret (.i .i64 2) [])) (.br (qg (isLS (LS.mk [trC w n tk qs, .ptr 0 12 0 0 [], .i .i64 0, trC w n tk qs, .i .i64 (n : Int), .i .i64 0] [some (.mk 12 (.vals [qk A]))]) (LS.mk [trC w n tk qs, .ptr 0 12 0 0 [], .i .i64 0, trC w n tk qs, .i .i64 (n : Int), .i .i64 0] [some (.mk 12 (.vals [qk A]))]))) (.ok (.ret (.i .i64 e) [])) (.no 1)))) (.no 1)).run := by kernel_rfl
def ck1 (A : Am) (tk : Nat -> Int) (qs : Nat -> List Rat) (j : Nat) : Int :=
 if tk j < 0 \/ 2000 < tk j then 1 else if fitB A (qs j) = false then 17 else if j = 0 then 0 else if tk j <= tk (j - 1) then 9 else if slowB A (tk j - tk (j - 1)) (qs (j - 1)) (qs j) = false then 19 else 0
def ckB (A : Am) (tk : Nat -> Int) (qs : Nat -> List Rat) (j : Nat) : Bool := decide (ck1 A tk qs j = 0)
def ckR (A : Am) (n : Nat) (tk : Nat -> Int) (qs : Nat -> List Rat) : Int := if (List.range n).all (ckB A tk qs) = true then 0 else ck1 A tk qs (fbad (ckB A tk qs) n 0)
include hG in
theorem pc58 (hT : TabG G) (A : Am) (hA : armB A = true) (w : Nat) (hw : w <= 9000) (n : Nat) (h1 : 1 <= n) (h60 : n <= 60) (tk : Nat -> Int) (qs : Nat -> List Rat) (hl : ∀ j, j < n -> (qs j).length = A.n) (hr : ∀ j, j < n -> -50000 <= tk j /\ tk j <= 50000) :
  PC prog G 50 [qk A, trC w n tk qs] [] (.i .i64 (ckR A n tk qs)) [] := by
 have oc : OrcOK prog G (R58 A) := .cons (ck35 hG hT A hA) (.cons (ck98A hG hT A hA) .nil)
 have rd : ∀ j, j < n -> (qe prog (R58 A) [] pol58 f50.ntmps 0 [1, 2, 4, 20, 21, 22] b58 (st58 A w n tk qs 0 ((j : Nat) : Int))).run =
   some (if ck1 A tk qs j = 0 then .out .normal (st58 A w n tk qs 0 ((j + 1 : Nat) : Int)) else .out .ret (st58 A w n tk qs (ck1 A tk qs j) ((j : Nat) : Int))) := by
  intro j hj
  have hlj := hl j hj
  have hrj := hr j hj
  have p1 : qg (P35A A (qk A) w (qs j)) = true := decP_iff.2 ⟨rfl, hlj, by omega⟩
  have leaf : ∀ (k : Int) (t : Tr), ck1 A tk qs j = k -> t.run = some (if k = 0 then .out .normal (st58 A w n tk qs 0 ((j + 1 : Nat) : Int)) else .out .ret (st58 A w n tk qs k ((j : Nat) : Int))) -> t.run = some (if ck1 A tk qs j = 0 then .out .normal (st58 A w n tk qs 0 ((j + 1 : Nat) : Int)) else .out .ret (st58 A w n tk qs (ck1 A tk qs j) ((j : Nat) : Int))) := by
   rintro k t rfl h
   exact h
  rw [r58, Int.toNat_natCast]
  by_cases c1 : tk j < 0 \/ 2000 < tk j
  ·refine leaf 1 _ (by unfold ck1; rw [if_pos c1]) ?_
   rw [if_neg (by decide)]
   rcases c1 with c | c
   ·repeat first | rw [k5 (by first | (simp only [kE, Bool.or_eq_true, kF, kI, Nat.blt_eq, kJ, kK, kM, kN]; omega) | exact decP_iff.2 ⟨rfl, trivial⟩ | exact decP_iff.2 rfl | exact kG rfl | decide)] | rw [k6 (by first | (simp only [Bool.and_eq_false_iff, Bool.not_eq_false', kF, kN]; omega) | exact congrArg (!·) (kG rfl) | decide)]
    rw [k7]
    rfl
   ·by_cases c' : tk j < 0
    ·repeat first | rw [k5 (by first | (simp only [kE, Bool.or_eq_true, kF, kI, Nat.blt_eq, kJ, kK, kM, kN]; omega) | exact decP_iff.2 ⟨rfl, trivial⟩ | exact decP_iff.2 rfl | exact kG rfl | decide)] | rw [k6 (by first | (simp only [Bool.and_eq_false_iff, Bool.not_eq_false', kF, kN]; omega) | exact congrArg (!·) (kG rfl) | decide)]
     rw [k7]
     rfl
    ·repeat first | rw [k5 (by first | (simp only [kE, Bool.or_eq_true, kF, kI, Nat.blt_eq, kJ, kK, kM, kN]; omega) | exact decP_iff.2 ⟨rfl, trivial⟩ | exact decP_iff.2 rfl | exact kG rfl | decide)] | rw [k6 (by first | (simp only [Bool.and_eq_false_iff, Bool.not_eq_false', kF, kN]; omega) | exact congrArg (!·) (kG rfl) | decide)]
     rw [k7]
     rfl
  ·cases hf : fitB A (qs j) with
   | false =>
    refine leaf 17 _ (by unfold ck1; rw [if_neg c1, if_pos hf]) ?_
    rw [if_neg (by decide)]
    repeat first | rw [k5 (by first | (simp only [kE, Bool.or_eq_true, kF, kI, Nat.blt_eq, kJ, kK, kM, kN]; omega) | exact p1 | exact hf | exact decP_iff.2 ⟨rfl, trivial⟩ | exact decP_iff.2 rfl | exact kG rfl | decide)] | rw [k6 (by first | (simp only [Bool.and_eq_false_iff, Bool.not_eq_false', kF, kN]; omega) | exact p1 | exact hf | exact congrArg (!·) (kG rfl) | decide)]
    rw [k7]
    rfl
   | true =>
    have hf' : ¬ fitB A (qs j) = false := by rw [hf]; decide
    by_cases c3 : j = 0
    ·refine leaf 0 _ (by unfold ck1; rw [if_neg c1, if_neg hf', if_pos c3]) ?_
     rw [if_pos rfl]
     repeat first | rw [k5 (by first | (simp only [kE, Bool.or_eq_true, kF, kI, Nat.blt_eq, kJ, kK, kM, kN]; omega) | exact p1 | exact hf | exact decP_iff.2 ⟨rfl, trivial⟩ | exact decP_iff.2 rfl | exact kG rfl | decide)] | rw [k6 (by first | (simp only [Bool.and_eq_false_iff, Bool.not_eq_false', kF, kN]; omega) | exact p1 | exact hf | exact congrArg (!·) (kG rfl) | decide)]
     rw [k7]
     rfl
    ·have e1 : (((j : Nat) : Int) - 1).toNat = j - 1 := by omega
     rw [e1]
     have hlk := hl (j - 1) (by omega)
     have hrk := hr (j - 1) (by omega)
     have p2 : qg (P98A A (qk A) (qs (j - 1)) (qs j) (tk (j - 1)) (tk j) w w) = true := decP_iff.2 ⟨rfl, hlk, hlj, by omega, by omega, by omega, by omega⟩
     by_cases c4 : tk j <= tk (j - 1)
     ·refine leaf 9 _ (by unfold ck1; rw [if_neg c1, if_neg hf', if_neg c3, if_pos c4]) ?_
      rw [if_neg (by decide)]
      repeat first | rw [k5 (by first | (simp only [kE, Bool.or_eq_true, kF, kI, Nat.blt_eq, kJ, kK, kM, kN]; omega) | exact p1 | exact hf | exact decP_iff.2 ⟨rfl, trivial⟩ | exact decP_iff.2 rfl | exact kG rfl | decide)] | rw [k6 (by first | (simp only [Bool.and_eq_false_iff, Bool.not_eq_false', kF, kN]; omega) | exact p1 | exact hf | exact congrArg (!·) (kG rfl) | decide)]
      rw [k7]
      rfl
     ·cases hs : slowB A (tk j - tk (j - 1)) (qs (j - 1)) (qs j) with
      | false =>
       refine leaf 19 _ (by unfold ck1; rw [if_neg c1, if_neg hf', if_neg c3, if_neg c4, if_pos hs]) ?_
       rw [if_neg (by decide)]
       repeat first | rw [k5 (by first | (simp only [kE, Bool.or_eq_true, kF, kI, Nat.blt_eq, kJ, kK, kM, kN]; omega) | exact p1 | exact hf | exact p2 | exact hs | exact decP_iff.2 ⟨rfl, trivial⟩ | exact decP_iff.2 rfl | exact kG rfl | decide)] | rw [k6 (by first | (simp only [Bool.and_eq_false_iff, Bool.not_eq_false', kF, kN]; omega) | exact p1 | exact hf | exact p2 | exact hs | exact congrArg (!·) (kG rfl) | decide)]
       rw [k7]
       rfl
      | true =>
       refine leaf 0 _ (by unfold ck1; rw [if_neg c1, if_neg hf', if_neg c3, if_neg c4, if_neg (by rw [hs]; decide)]) ?_
       rw [if_pos rfl]
       repeat first | rw [k5 (by first | (simp only [kE, Bool.or_eq_true, kF, kI, Nat.blt_eq, kJ, kK, kM, kN]; omega) | exact p1 | exact hf | exact p2 | exact hs | exact decP_iff.2 ⟨rfl, trivial⟩ | exact decP_iff.2 rfl | exact kG rfl | decide)] | rw [k6 (by first | (simp only [Bool.and_eq_false_iff, Bool.not_eq_false', kF, kN]; omega) | exact p1 | exact hf | exact p2 | exact hs | exact congrArg (!·) (kG rfl) | decide)]
       rw [k7]
       rfl
 obtain ⟨g1, g2⟩ := Goes.search (R := Rnd prog G f50.ntmps 0 [1, 2, 4, 20, 21, 22] b58) (fun j => st58 A w n tk qs 0 ((j : Nat) : Int)) (fun j => st58 A w n tk qs (ck1 A tk qs j) ((j : Nat) : Int)) (ckB A tk qs) n
  (e0 := .exit 0) (e1 := .ret) (fin := st58 A w n tk qs 0 ((n : Nat) : Int)) (by simp) (by simp)
  (fun j hj hf => by
   refine qb hG oc mix (L := []) (pol := pol58) (O := R58 A) (kD (by kernel_rfl)) (by simp [st58]) ?_
   rw [rd j hj, if_pos (of_decide_eq_true hf)])
  (fun j hj hf => by
   refine qb hG oc mix (L := []) (pol := pol58) (O := R58 A) (kD (by kernel_rfl)) (by simp [st58]) ?_
   rw [rd j hj, if_neg (of_decide_eq_false hf)])
  (by
   refine qb hG oc mix (L := []) (pol := pol58) (O := R58 A) (kD (by kernel_rfl)) (by simp [st58]) ?_
   rw [r58, k6 (kH (by omega)), k7]
   rfl) n 0 (by omega)
 have p52 : PC prog G 91 [qk A] [] (.i .i64 0) [] := by
  obtain ⟨r, hs', p, e⟩ := ok52 hG [qk A] [] (fun r hs' => .ok (.ret r hs')) (.ret (.i .i64 0) []) (by
   show (Tr.br _ _ _).run = _
   rw [k5 (decP_iff.2 ⟨_, A, rfl, .refl _, hA⟩)]; rfl)
  cases e
  exact p
 have oc2 : OrcOK prog G (O58 A) := .cons (ck35 hG hT A hA) (.cons (cst_t p52) (.cons (ck98A hG hT A hA) .nil))
 unfold ckR
 cases hall : (List.range n).all (ckB A tk qs) with
 | true =>
  rw [if_pos rfl]
  refine qp hG oc2 mix enter58 (L := [(9, lcst (st58 A w n tk qs 0 0) (.exit 0) (st58 A w n tk qs 0 (n : Nat)))]) (pol := pol58) (lps1 (b := b58) (live := [1, 2, 4, 20, 21, 22]) (m := 0) (by kernel_rfl) (by kernel_rfl) (by kernel_rfl) (lcst_ok (g1 fun j _ hj => List.all_eq_true.1 hall j (List.mem_range.2 hj)))) ?_
  rw [e58]
  repeat first | rw [k5 (by first | (simp only [kE, Bool.or_eq_true, kF, kI, Nat.blt_eq, kJ, kK, kM, kN]; omega) | exact decP_iff.2 ⟨rfl, trivial⟩ | exact decP_iff.2 rfl | exact kG rfl | decide)] | rw [k6 (by first | (simp only [Bool.and_eq_false_iff, Bool.not_eq_false', kF, kN]; omega) | exact congrArg (!·) (kG rfl) | decide)]
  rw [k7]
 | false =>
  rw [if_neg (by decide)]
  have hn : ¬ ∀ j, 0 <= j -> j < n -> ckB A tk qs j = true := by
   intro hh
   have : (List.range n).all (ckB A tk qs) = true := List.all_eq_true.2 fun j hj => hh j (Nat.zero_le _) (List.mem_range.1 hj)
   rw [hall] at this; cases this
  refine qp hG oc2 mix enter58 (L := [(9, lcst (st58 A w n tk qs 0 0) .ret (st58 A w n tk qs (ck1 A tk qs (fbad (ckB A tk qs) n 0)) ((fbad (ckB A tk qs) n 0 : Nat) : Int)))]) (pol := pol58) (lps1 (b := b58) (live := [1, 2, 4, 20, 21, 22]) (m := 0) (by kernel_rfl) (by kernel_rfl) (by kernel_rfl) (lcst_ok (g2 hn))) ?_
  rw [e58b]
  repeat first | rw [k5 (by first | (simp only [kE, Bool.or_eq_true, kF, kI, Nat.blt_eq, kJ, kK, kM, kN]; omega) | exact decP_iff.2 ⟨rfl, trivial⟩ | exact decP_iff.2 rfl | exact kG rfl | decide)] | rw [k6 (by first | (simp only [Bool.and_eq_false_iff, Bool.not_eq_false', kF, kN]; omega) | exact congrArg (!·) (kG rfl) | decide)]
  rw [k7]
theorem enIt : Enters prog 128 f128 (qd f128) := ⟨func128, by kernel_rfl, rfl⟩
theorem enFl : Enters prog 97 f97 (qd f97) := ⟨func97, by kernel_rfl, rfl⟩
theorem eIt (k : Nat) : (evF prog [(111, s114), (113, s116)] [] {} f128 [.s (nb k)] [] qo).run =
  (Tr.br (decide ((8 : Int) < ((nb (bv (nb k).data.toList)).size : Int))) (.ok (.ret (.tup [.i .i64 0, .i .i64 2]) [])) (.br (Nat.ble (nb (bv (nb k).data.toList)).size 8) (.br (decide (9223372036854775807 < (bv (nb (bv (nb k).data.toList)).data.toList : Int))) (.ok (.ret (.tup [.i .i64 0, .i .i64 2]) [])) (.br (Nat.ble (nb (bv (nb k).data.toList)).size 8) (.ok (.ret (.tup [.i .i64 (IntKind.i64.wrap (bv (nb (bv (nb k).data.toList)).data.toList : Int)), .i .i64 0]) [])) (.no 1))) (.no 1))).run := by kernel_rfl
def isNb (a : ByteArray) : Prop := ∃ k, a = nb k /\ k < 72057594037927936
def gIt : Spec := fun args hs K => match args, hs with
 | [.s a], [] => .br (qg (isNb a)) (K (.tup [.i .i64 (bv a.data.toList), .i .i64 0]) []) (.no 1)
 | _, _ => .no 1
include hG in
theorem gkIt : qc prog G 128 gIt := by
 intro args hs K x h
 unfold gIt at h
 split at h
 case h_2 => cases h
 obtain ⟨hc, hr⟩ := kA h
 obtain ⟨k, rfl, hk⟩ := decP_iff.1 hc
 refine ⟨_, _, qp hG (.cons (ok114 hG) (.cons (ok116 hG) .nil)) mix enIt (hs := []) (L := []) (pol := {}) (kD (by kernel_rfl)) ((eIt k).trans ?_), hr⟩
 simp only [qA]
 have h1 := nb_size_le (k := 7) (show k < 256 ^ 7 by omega)
 rw [k6 (kH (by omega)), k5 (by rw [kI]; omega), k6 (kH (by omega)), k5 (by rw [kI]; omega), k7]
 have hw : IntKind.i64.wrap (k : Int) = (k : Int) := by
  exact wi64 (by omega) (by omega)
 rw [hw]
theorem eFl (x : Rat) (n : Nat) : (evF prog [(67, g74), (127, gWh), (128, gIt)] [] {} f97 [.q x n] [] qo).run =
  (Tr.br (Nat.ble n 800000) (.br (Nat.ble n 790000) (.br (qg (isNb (qq (x.floor : Rat)))) (.br (ql (x.floor : Rat)) (.br (ovf (0 - (bv (qq (x.floor : Rat)).data.toList : Int))) (.ok (.ret (.tup [.i .i64 (0 - (bv (qq (x.floor : Rat)).data.toList : Int)), .i .i64 0]) [])) (.no 1)) (.ok (.ret (.tup [.i .i64 (bv (qq (x.floor : Rat)).data.toList : Int), .i .i64 0]) []))) (.no 1)) (.no 1)) (.no 1)).run := by kernel_rfl
def smF (x : Rat) : Prop := -1000000 <= x.floor /\ x.floor <= 1000000
def gFl : Spec := fun args hs K => match args, hs with
 | [.q x n], [] => .br (qg (smF x)) (.br (Nat.ble n 780000) (K (.tup [.i .i64 x.floor, .i .i64 0]) []) (.no 1)) (.no 1)
 | _, _ => .no 1
include hG in
theorem gkFl (hT : TabG G) : qc prog G 97 gFl := by
 intro args hs K y h
 unfold gFl at h
 split at h
 case h_2 => cases h
 rename_i x n
 obtain ⟨hc, hr⟩ := kA h
 obtain ⟨hb, hr⟩ := kA hr
 rw [kI] at hb
 obtain ⟨h1, h2⟩ := decP_iff.1 hc
 refine ⟨_, _, qp hG (.cons (gk74 hG hT) (.cons (gkWh hG hT) (.cons (gkIt hG) .nil))) mix enFl (hs := []) (L := []) (pol := {}) (kD (by kernel_rfl)) ((eFl x n).trans ?_), hr⟩
 generalize x.floor = m at *
 have e1 : ((m : Rat)).num = m := rfl
 rw [k5 (by rw [kI]; omega), k5 (by rw [kI]; omega), k5 (decP_iff.2 ⟨m.natAbs, by rw [rnum_eq]; rfl, by omega⟩), rnum_eq, e1, qA]
 by_cases hm : m < 0
 ·rw [k5 (show ql (m : Rat) = true from kG (show ((m : Rat)).num < 0 from hm)), k5 (by simp only [ovf, kE, kF]; omega), k7, show (0 : Int) - (m.natAbs : Int) = m by omega]
 ·rw [k6 (show ql (m : Rat) = false from kH (show ¬ ((m : Rat)).num < 0 from hm)), k7, show ((m.natAbs : Nat) : Int) = m by omega]
include hG in
theorem pc91 (A : Am) (hA : armB A = true) : PC prog G 91 [qk A] [] (.i .i64 0) [] := by
 obtain ⟨r, hs', p, e⟩ := ok52 hG [qk A] [] (fun r hs' => .ok (.ret r hs')) (.ret (.i .i64 0) []) (by
  show (Tr.br _ _ _).run = _
  rw [k5 (decP_iff.2 ⟨_, A, rfl, .refl _, hA⟩)]; rfl)
 cases e
 exact p
theorem hf2 : hf + hf = 1 := by kernel_rfl
end
section
open Go
set_option maxRecDepth 100000
variable {G : World -> (Nat -> Prop) -> Prop} (hG : GOk G)
end
section
open Go Tryd
set_option maxRecDepth 100000
variable {G : World -> (Nat -> Prop) -> Prop} (hG : GOk G)
def b16 : Code := (qh (qd f14)).getD 0 .skip
def pol16 : Pol := { live := [(5, [2, 5, 6, 7, 16, 17])], wr := [(60, [0]), (61, [1])] }
def W69 (A : Am) (a v : PV) : Prop := a = qk A /\ okW v = true
def w69 (A : Am) (CF : PV -> List Rat) (IT : PV -> PV) : Spec := fun args hs K => match args, hs with
 | [a, .ptr 0 1 0 0 []], [⟨1, .vals [.agg [.w v]]⟩] => .br (qg (W69 A a v)) (K (.fr 3 (.rats 64 (CF v))) [⟨1, .vals [.agg [.w (IT v)]]⟩]) (.no 1)
 | _, _ => .no 1
def O16 (A : Am) (CF : PV -> List Rat) (IT : PV -> PV) : Orc := [(60, s45), (61, w69 A CF IT)]
def l16 (A : Am) (CF : PV -> List Rat) (IT : PV -> PV) : qx := unr prog (O16 A CF IT) [] pol16 f14.ntmps 0 [2, 5, 6, 7, 16, 17] b16 5
theorem e16 (A : Am) (CF : PV -> List Rat) (IT : PV -> PV) (m : PV) : (evF prog (O16 A CF IT) [(5, l16 A CF IT)] pol16 f14 [qk A, .w m] [] qo).run =
 (Tr.br (okW m && decide ((0 : Int) < 10) && decide ((10 : Int) <= 4294967296)) (.br (okW (rs m) && decide ((0 : Int) < 4) && decide ((4 : Int) <= 4294967296)) (.br (ib ((1 : Int) + nx (rs m) (4 : Int))) (.br (decide ((0 : Int) < 1 + nx (rs m) (4 : Int))) (.br (qg (W69 A (qk A) (rs (rs m)))) (.br (((0 : Nat) + (CF (rs (rs m))).length).ble (CF (rs (rs m))).length) (.br (Nat.blt (0 : Nat) [PV.agg [PV.i .i64 (nx m (10 : Int)), PV.lst 3 (.rats 64 (List.take (CF (rs (rs m))).length (List.drop (0 : Nat) (CF (rs (rs m))))))]].length && [PV.agg [PV.i .i64 (nx m (10 : Int)), PV.lst 3 (.rats 64 (List.take (CF (rs (rs m))).length (List.drop (0 : Nat) (CF (rs (rs m))))))]].length.ble 4294967296) (.br (decide ((1 : Int) < 1 + nx (rs m) (4 : Int))) (.br (okW (IT (rs (rs m))) && decide ((0 : Int) < 20) && decide ((20 : Int) <= 4294967296)) (.br (ib ((48 : Int) + nx (IT (rs (rs m))) (20 : Int))) (.br (ib (nx m (10 : Int) + ((48 : Int) + nx (IT (rs (rs m))) (20 : Int)))) (.br (qg (W69 A (qk A) (rs (IT (rs (rs m)))))) (.br (((0 : Nat) + (CF (rs (IT (rs (rs m))))).length).ble (CF (rs (IT (rs (rs m))))).length) (.br (([PV.agg [PV.i .i64 (nx m (10 : Int)), PV.lst 3 (.rats 64 (List.take (CF (rs (rs m))).length (List.drop (0 : Nat) (CF (rs (rs m))))))]].length + [PV.agg [PV.i .i64 (nx m (10 : Int) + ((48 : Int) + nx (IT (rs (rs m))) (20 : Int))), PV.lst 3 (.rats 64 (List.take (CF (rs (IT (rs (rs m))))).length (List.drop (0 : Nat) (CF (rs (IT (rs (rs m))))))))]].length).ble 4294967296) (.br (decide ((2 : Int) < 1 + nx (rs m) (4 : Int))) (.br (okW (IT (rs (IT (rs (rs m))))) && decide ((0 : Int) < 20) && decide ((20 : Int) <= 4294967296)) (.br (ib ((48 : Int) + nx (IT (rs (IT (rs (rs m))))) (20 : Int))) (.br (ib (nx m (10 : Int) + ((48 : Int) + nx (IT (rs (rs m))) (20 : Int)) + ((48 : Int) + nx (IT (rs (IT (rs (rs m))))) (20 : Int)))) (.br (qg (W69 A (qk A) (rs (IT (rs (IT (rs (rs m)))))))) (.br (((0 : Nat) + (CF (rs (IT (rs (IT (rs (rs m))))))).length).ble (CF (rs (IT (rs (IT (rs (rs m))))))).length) (.br (([PV.agg [PV.i .i64 (nx m (10 : Int)), PV.lst 3 (.rats 64 (List.take (CF (rs (rs m))).length (List.drop (0 : Nat) (CF (rs (rs m))))))]].length + [PV.agg [PV.i .i64 (nx m (10 : Int) + ((48 : Int) + nx (IT (rs (rs m))) (20 : Int))), PV.lst 3 (.rats 64 (List.take (CF (rs (IT (rs (rs m))))).length (List.drop (0 : Nat) (CF (rs (IT (rs (rs m))))))))]].length + [PV.agg [PV.i .i64 (nx m (10 : Int) + ((48 : Int) + nx (IT (rs (rs m))) (20 : Int)) + ((48 : Int) + nx (IT (rs (IT (rs (rs m))))) (20 : Int))), PV.lst 3 (.rats 64 (List.take (CF (rs (IT (rs (IT (rs (rs m))))))).length (List.drop (0 : Nat) (CF (rs (IT (rs (IT (rs (rs m))))))))))]].length).ble 4294967296) (.br (decide ((3 : Int) < 1 + nx (rs m) (4 : Int))) (.br (okW (IT (rs (IT (rs (IT (rs (rs m))))))) && decide ((0 : Int) < 20) && decide ((20 : Int) <= 4294967296)) (.br (ib ((48 : Int) + nx (IT (rs (IT (rs (IT (rs (rs m))))))) (20 : Int))) (.br (ib (nx m (10 : Int) + ((48 : Int) + nx (IT (rs (rs m))) (20 : Int)) + ((48 : Int) + nx (IT (rs (IT (rs (rs m))))) (20 : Int)) + ((48 : Int) + nx (IT (rs (IT (rs (IT (rs (rs m))))))) (20 : Int)))) (.br (qg (W69 A (qk A) (rs (IT (rs (IT (rs (IT (rs (rs m)))))))))) (.br (((0 : Nat) + (CF (rs (IT (rs (IT (rs (IT (rs (rs m))))))))).length).ble (CF (rs (IT (rs (IT (rs (IT (rs (rs m))))))))).length) (.br (([PV.agg [PV.i .i64 (nx m (10 : Int)), PV.lst 3 (.rats 64 (List.take (CF (rs (rs m))).length (List.drop (0 : Nat) (CF (rs (rs m))))))]].length + [PV.agg [PV.i .i64 (nx m (10 : Int) + ((48 : Int) + nx (IT (rs (rs m))) (20 : Int))), PV.lst 3 (.rats 64 (List.take (CF (rs (IT (rs (rs m))))).length (List.drop (0 : Nat) (CF (rs (IT (rs (rs m))))))))]].length + [PV.agg [PV.i .i64 (nx m (10 : Int) + ((48 : Int) + nx (IT (rs (rs m))) (20 : Int)) + ((48 : Int) + nx (IT (rs (IT (rs (rs m))))) (20 : Int))), PV.lst 3 (.rats 64 (List.take (CF (rs (IT (rs (IT (rs (rs m))))))).length (List.drop (0 : Nat) (CF (rs (IT (rs (IT (rs (rs m))))))))))]].length + [PV.agg [PV.i .i64 (nx m (10 : Int) + ((48 : Int) + nx (IT (rs (rs m))) (20 : Int)) + ((48 : Int) + nx (IT (rs (IT (rs (rs m))))) (20 : Int)) + ((48 : Int) + nx (IT (rs (IT (rs (IT (rs (rs m))))))) (20 : Int))), PV.lst 3 (.rats 64 (List.take (CF (rs (IT (rs (IT (rs (IT (rs (rs m))))))))).length (List.drop (0 : Nat) (CF (rs (IT (rs (IT (rs (IT (rs (rs m))))))))))))]].length).ble 4294967296) (.br (decide ((4 : Int) < 1 + nx (rs m) (4 : Int))) (.br (okW (IT (rs (IT (rs (IT (rs (IT (rs (rs m))))))))) && decide ((0 : Int) < 20) && decide ((20 : Int) <= 4294967296)) (.br (ib ((48 : Int) + nx (IT (rs (IT (rs (IT (rs (IT (rs (rs m))))))))) (20 : Int))) (.br (ib (nx m (10 : Int) + ((48 : Int) + nx (IT (rs (rs m))) (20 : Int)) + ((48 : Int) + nx (IT (rs (IT (rs (rs m))))) (20 : Int)) + ((48 : Int) + nx (IT (rs (IT (rs (IT (rs (rs m))))))) (20 : Int)) + ((48 : Int) + nx (IT (rs (IT (rs (IT (rs (IT (rs (rs m))))))))) (20 : Int)))) (.br (qg (W69 A (qk A) (rs (IT (rs (IT (rs (IT (rs (IT (rs (rs m)))))))))))) (.br (((0 : Nat) + (CF (rs (IT (rs (IT (rs (IT (rs (IT (rs (rs m))))))))))).length).ble (CF (rs (IT (rs (IT (rs (IT (rs (IT (rs (rs m))))))))))).length) (.br (([PV.agg [PV.i .i64 (nx m (10 : Int)), PV.lst 3 (.rats 64 (List.take (CF (rs (rs m))).length (List.drop (0 : Nat) (CF (rs (rs m))))))]].length + [PV.agg [PV.i .i64 (nx m (10 : Int) + ((48 : Int) + nx (IT (rs (rs m))) (20 : Int))), PV.lst 3 (.rats 64 (List.take (CF (rs (IT (rs (rs m))))).length (List.drop (0 : Nat) (CF (rs (IT (rs (rs m))))))))]].length + [PV.agg [PV.i .i64 (nx m (10 : Int) + ((48 : Int) + nx (IT (rs (rs m))) (20 : Int)) + ((48 : Int) + nx (IT (rs (IT (rs (rs m))))) (20 : Int))), PV.lst 3 (.rats 64 (List.take (CF (rs (IT (rs (IT (rs (rs m))))))).length (List.drop (0 : Nat) (CF (rs (IT (rs (IT (rs (rs m))))))))))]].length + [PV.agg [PV.i .i64 (nx m (10 : Int) + ((48 : Int) + nx (IT (rs (rs m))) (20 : Int)) + ((48 : Int) + nx (IT (rs (IT (rs (rs m))))) (20 : Int)) + ((48 : Int) + nx (IT (rs (IT (rs (IT (rs (rs m))))))) (20 : Int))), PV.lst 3 (.rats 64 (List.take (CF (rs (IT (rs (IT (rs (IT (rs (rs m))))))))).length (List.drop (0 : Nat) (CF (rs (IT (rs (IT (rs (IT (rs (rs m))))))))))))]].length + [PV.agg [PV.i .i64 (nx m (10 : Int) + ((48 : Int) + nx (IT (rs (rs m))) (20 : Int)) + ((48 : Int) + nx (IT (rs (IT (rs (rs m))))) (20 : Int)) + ((48 : Int) + nx (IT (rs (IT (rs (IT (rs (rs m))))))) (20 : Int)) + ((48 : Int) + nx (IT (rs (IT (rs (IT (rs (IT (rs (rs m))))))))) (20 : Int))), PV.lst 3 (.rats 64 (List.take (CF (rs (IT (rs (IT (rs (IT (rs (IT (rs (rs m))))))))))).length (List.drop (0 : Nat) (CF (rs (IT (rs (IT (rs (IT (rs (IT (rs (rs m))))))))))))))]].length).ble 4294967296) (.no 16) (.no 10002)) (.no 10005)) (.no 1)) (.no 9002)) (.no 9003)) (.no 1)) (.ok (.ret (PV.fr 2 (.vals [PV.agg [PV.i .i64 (nx m (10 : Int)), PV.lst 3 (.rats 64 (List.take (CF (rs (rs m))).length (List.drop (0 : Nat) (CF (rs (rs m))))))], PV.agg [PV.i .i64 (nx m (10 : Int) + ((48 : Int) + nx (IT (rs (rs m))) (20 : Int))), PV.lst 3 (.rats 64 (List.take (CF (rs (IT (rs (rs m))))).length (List.drop (0 : Nat) (CF (rs (IT (rs (rs m))))))))], PV.agg [PV.i .i64 (nx m (10 : Int) + ((48 : Int) + nx (IT (rs (rs m))) (20 : Int)) + ((48 : Int) + nx (IT (rs (IT (rs (rs m))))) (20 : Int))), PV.lst 3 (.rats 64 (List.take (CF (rs (IT (rs (IT (rs (rs m))))))).length (List.drop (0 : Nat) (CF (rs (IT (rs (IT (rs (rs m))))))))))], PV.agg [PV.i .i64 (nx m (10 : Int) + ((48 : Int) + nx (IT (rs (rs m))) (20 : Int)) + ((48 : Int) + nx (IT (rs (IT (rs (rs m))))) (20 : Int)) + ((48 : Int) + nx (IT (rs (IT (rs (IT (rs (rs m))))))) (20 : Int))), PV.lst 3 (.rats 64 (List.take (CF (rs (IT (rs (IT (rs (IT (rs (rs m))))))))).length (List.drop (0 : Nat) (CF (rs (IT (rs (IT (rs (IT (rs (rs m))))))))))))]])) []))) (.no 10002)) (.no 10005)) (.no 1)) (.no 9002)) (.no 9003)) (.no 1)) (.ok (.ret (PV.fr 2 (.vals [PV.agg [PV.i .i64 (nx m (10 : Int)), PV.lst 3 (.rats 64 (List.take (CF (rs (rs m))).length (List.drop (0 : Nat) (CF (rs (rs m))))))], PV.agg [PV.i .i64 (nx m (10 : Int) + ((48 : Int) + nx (IT (rs (rs m))) (20 : Int))), PV.lst 3 (.rats 64 (List.take (CF (rs (IT (rs (rs m))))).length (List.drop (0 : Nat) (CF (rs (IT (rs (rs m))))))))], PV.agg [PV.i .i64 (nx m (10 : Int) + ((48 : Int) + nx (IT (rs (rs m))) (20 : Int)) + ((48 : Int) + nx (IT (rs (IT (rs (rs m))))) (20 : Int))), PV.lst 3 (.rats 64 (List.take (CF (rs (IT (rs (IT (rs (rs m))))))).length (List.drop (0 : Nat) (CF (rs (IT (rs (IT (rs (rs m))))))))))]])) []))) (.no 10002)) (.no 10005)) (.no 1)) (.no 9002)) (.no 9003)) (.no 1)) (.ok (.ret (PV.fr 2 (.vals [PV.agg [PV.i .i64 (nx m (10 : Int)), PV.lst 3 (.rats 64 (List.take (CF (rs (rs m))).length (List.drop (0 : Nat) (CF (rs (rs m))))))], PV.agg [PV.i .i64 (nx m (10 : Int) + ((48 : Int) + nx (IT (rs (rs m))) (20 : Int))), PV.lst 3 (.rats 64 (List.take (CF (rs (IT (rs (rs m))))).length (List.drop (0 : Nat) (CF (rs (IT (rs (rs m))))))))]])) []))) (.no 10002)) (.no 10005)) (.no 1)) (.no 9002)) (.no 9003)) (.no 1)) (.ok (.ret (PV.fr 2 (.vals [PV.agg [PV.i .i64 (nx m (10 : Int)), PV.lst 3 (.rats 64 (List.take (CF (rs (rs m))).length (List.drop (0 : Nat) (CF (rs (rs m))))))]])) []))) (.no 10002)) (.no 10005)) (.no 1)) (.ok (.ret PV.nil []))) (.no 5002)) (.no 1)) (.no 1)).run := by kernel_rfl
theorem fr_fn (e n : Nat) (f : Nat -> PV) (vs : List PV) (hl : vs.length = n) (h : ∀ (i : Nat) (v : PV), vs[i]? = some v -> noRef 8 v = true /\ VLe v (f i)) : RLe (.fr e (.vals vs)) (.fr e (.fn n f)) := by
 subst hl
 exact ⟨fun m => .refl _, fun m => KsLe.one (KLe.fn rfl h)⟩
end
section
open Go
set_option maxRecDepth 100000
theorem list_ext0 {p q : List Rat} {m : Nat} (hp : p.length = m) (hq : q.length = m) (h : ∀ i, i < m -> p.getD i 0 = q.getD i 0) : p = q := by
 apply List.ext_getElem (by omega)
 intro i h1 h2
 have := h i (by omega)
 rwa [List.getD_eq_getElem?_getD, List.getD_eq_getElem?_getD, List.getElem?_eq_getElem h1, List.getElem?_eq_getElem h2] at this
theorem parL_get {p q : List Rat} {s : Rat} {m i : Nat} (h : i < m) : (parL p q s m).getD i 0 = p.getD i 0 + s * (q.getD i 0 - p.getD i 0) := by
 unfold parL
 rw [getD_map_range _ h]
 rfl
theorem parL_0 {p q : List Rat} {m : Nat} (hp : p.length = m) : parL p q 0 m = p :=
 list_ext0 (parL_len _ _ _ _) hp fun i hi => by rw [parL_get hi]; grind
theorem parL_1 {p q : List Rat} {m : Nat} (hq : q.length = m) : parL p q 1 m = q :=
 list_ext0 (parL_len _ _ _ _) hq fun i hi => by rw [parL_get hi]; grind
section
variable {m n : Nat} {tk : Nat -> Int} {qs : Nat -> List Rat} (h : TrC m n tk qs)
include h
theorem at_lo {tick : Int} (ht : tick <= tk 0) : at17 m n tk qs tick = qs 0 := by unfold at17; rw [if_pos ht]
theorem fbad_at {tick : Int} {i : Nat} (h1 : 1 <= i) (hi : i <= n) (ha : ∀ j, j < i -> tk j <= tick) (hb : i < n -> tick < tk i) : fbad (okAt tk tick) (n - 1) 1 = i := by
 have hn := h.n1
 by_cases hall : ∀ j, 1 <= j -> j < 1 + (n - 1) -> okAt tk tick j = true
 ·rw [fbad_all _ _ _ hall]
  rcases Nat.lt_or_ge i n with g | g
  ·have := of_decide_eq_true (hall i h1 (by omega))
   have := hb g
   omega
  ·omega
 ·obtain ⟨f1, f2, f3, f4⟩ := fbad_some (okAt tk tick) (n - 1) 1 hall
  generalize fbad (okAt tk tick) (n - 1) 1 = k at *
  have g3 := of_decide_eq_false f3
  rcases Nat.lt_trichotomy k i with g | g | g
  ·exact absurd (ha k g) g3
  ·exact g
  ·have := of_decide_eq_true (f4 i h1 g)
   have := hb (by omega)
   omega
theorem at_hi {tick : Int} (ht : tk (n - 1) <= tick) : at17 m n tk qs tick = qs (n - 1) := by
 have hn := h.n1
 unfold at17
 split
 ·rename_i g
  have := h.mono (n - 1) 0 (by omega)
  rw [Nat.zero_add] at this
  rcases Nat.lt_or_ge 1 n with g1 | g1
  ·have a := h.inc 0 (by omega)
   have b := h.mono (n - 2) 1 (by omega)
   rw [show 1 + (n - 2) = n - 1 by omega] at b
   rw [Nat.zero_add] at a
   omega
  ·rw [show n - 1 = 0 by omega]
 ·rw [if_pos]
  exact fbad_at h (by omega) (Nat.le_refl _) (fun j hj => by
   have := h.mono (n - 1 - j) j (by omega)
   rw [show j + (n - 1 - j) = n - 1 by omega] at this
   omega) (fun g => by omega)
theorem at_seg {tick : Int} {i : Nat} (hi : i + 1 < n) (ha : tk i <= tick) (hb : tick <= tk (i + 1)) :
  at17 m n tk qs tick = parL (qs i) (qs (i + 1)) (((tick : Rat) - (tk i : Rat)) / ((tk (i + 1) : Rat) - (tk i : Rat))) m := by
 have hn := h.n1
 have l0 := h.len i (by omega)
 have l1 := h.len (i + 1) hi
 have z0 : ∀ x : Rat, ((tick : Rat) - (tick : Rat)) / x = 0 := fun x => by rw [show (tick : Rat) - (tick : Rat) = 0 by grind, Rat.div_def, Rat.zero_mul]
 have hne : (tk (i + 1) : Rat) - (tk i : Rat) ≠ 0 := by
  rw [<- Rat.intCast_sub]
  intro h0
  have := Rat.intCast_eq_zero_iff.1 h0
  have := h.inc i hi
  omega
 by_cases e1 : tick = tk (i + 1)
 ·have e2 : ((tick : Rat) - (tk i : Rat)) / ((tk (i + 1) : Rat) - (tk i : Rat)) = 1 := by rw [e1, Rat.div_def]; exact Rat.mul_inv_cancel _ hne
  rw [e2, parL_1 l1]
  rcases Nat.lt_or_ge (i + 2) n with g | g
  ·have a1 := h.inc (i + 1) g
   have hf := fbad_at h (tick := tick) (i := i + 2) (by omega) (by omega) (fun j hj => by
    have := h.mono (i + 1 - j) j (by omega)
    rw [show j + (i + 1 - j) = i + 1 by omega] at this
    omega) (fun _ => by rw [e1]; exact a1)
   have hlt : ¬ tick <= tk 0 := by
    have := h.mono i 0 (by omega)
    have := h.inc i hi
    rw [Nat.zero_add] at *
    omega
   unfold at17
   rw [if_neg hlt, if_neg (by omega), hf]
   show parL (qs (i + 1)) (qs (i + 2)) (((tick : Rat) - (tk (i + 1) : Rat)) / _) m = _
   rw [<- e1, z0, parL_0 l1]
  ·rw [at_hi h (by rw [show n - 1 = i + 1 by omega]; omega), show n - 1 = i + 1 by omega]
 ·by_cases e0 : tick <= tk 0
  ·have : i = 0 := by
    rcases Nat.eq_zero_or_pos i with g | g
    ·exact g
    ·have := h.mono (i - 1) 1 (by omega)
     have := h.inc 0 (by omega)
     rw [show 1 + (i - 1) = i by omega] at *
     rw [Nat.zero_add] at *
     omega
   subst this
   have e2 : tick = tk 0 := by omega
   rw [at_lo h e0, <- e2, z0, parL_0 l0]
  ·have hf := fbad_at h (tick := tick) (i := i + 1) (by omega) (by omega) (fun j hj => by
    have := h.mono (i - j) j (by omega)
    rw [show j + (i - j) = i by omega] at this
    omega) (fun _ => by omega)
   unfold at17
   rw [if_neg e0, if_neg (by omega), hf]
   rfl
end
end
section
open Go
set_option maxRecDepth 100000
variable {G : World -> (Nat -> Prop) -> Prop} (hG : GOk G)
end
section
open Go
set_option maxRecDepth 100000
theorem rabs_le {x c : Rat} : rabs x <= c ↔ x <= c /\ -x <= c := by
 unfold rabs
 split <;> constructor <;> intro h <;> grind
def armL (A : Am) : Prop := ∀ j, -2 <= (A.lk j).low /\ (A.lk j).high <= 2 /\ 1 <= 11 * (A.lk j).spd
theorem low_all : ∀ k, k < 6 -> (-2 : Rat) <= mkRat (-1 - ((k : Nat) : Int)) (Int.toNat 3) := by decide +kernel
theorem high_all : ∀ k, k < 6 -> mkRat (1 + ((k : Nat) : Int)) (Int.toNat 3) <= (2 : Rat) := by decide +kernel
theorem spd_all : ∀ k, k < 8 -> (1 : Rat) <= 11 * mkRat 1 (4 + ((k : Nat) : Int)).toNat := by decide +kernel
theorem armL_V (v : PV) : armL (armD v) := by
 intro j
 have g1 := qw (rs (itR6 j (rs (rs (rs v))))) (show (0 : Int) < 6 by omega)
 have g2 := qw (rs (rs (itR6 j (rs (rs (rs v)))))) (show (0 : Int) < 6 by omega)
 have g3 := qw (rs (rs (rs (itR6 j (rs (rs (rs v))))))) (show (0 : Int) < 8 by omega)
 have a := low_all (nx (rs (itR6 j (rs (rs (rs v))))) 6).toNat (by omega)
 have b := high_all (nx (rs (rs (itR6 j (rs (rs (rs v)))))) 6).toNat (by omega)
 have c := spd_all (nx (rs (rs (rs (itR6 j (rs (rs (rs v))))))) 8).toNat (by omega)
 rw [Int.toNat_of_nonneg g1.1] at a
 rw [Int.toNat_of_nonneg g2.1] at b
 rw [Int.toNat_of_nonneg g3.1] at c
 exact ⟨a, b, c⟩
theorem ck_zero {A : Am} {n : Nat} {tk : Nat -> Int} {qs : Nat -> List Rat} (h1 : ∀ j, j < n -> 0 <= tk j /\ tk j <= 2000 /\ fitB A (qs j) = true) (h2 : ∀ j, j + 1 < n -> tk j < tk (j + 1) /\ slowB A (tk (j + 1) - tk j) (qs j) (qs (j + 1)) = true) : ckR A n tk qs = 0 := by
 have h : (List.range n).all (ckB A tk qs) = true := List.all_eq_true.2 fun j hj => kG (by
  have hj' := List.mem_range.1 hj
  obtain ⟨a, b, c⟩ := h1 j hj'
  unfold ck1
  rw [if_neg (by omega), if_neg (by rw [c]; decide)]
  by_cases h0 : j = 0
  ·rw [if_pos h0]
  ·obtain ⟨d, e⟩ := h2 (j - 1) (by omega)
   rw [show j - 1 + 1 = j by omega] at d e
   rw [if_neg h0, if_neg (by omega), if_neg (by rw [e]; decide)])
 unfold ckR
 rw [if_pos h]
section
variable {A : Am} {n : Nat} {tk : Nat -> Int} {qs : Nat -> List Rat} (h : TrC A.n n tk qs)
include h
end
end
section
open Go Tryd
set_option maxRecDepth 100000
variable {G : World -> (Nat -> Prop) -> Prop} (hG : GOk G)
def b19w : Code := (qh (qd f17)).getD 0 .skip
def st19w (w v : Nat) (xs ys : List Rat) (n i : Int) : LS := ⟨[.lst 3 (.rats w xs), .lst 3 (.rats v ys), .bl false, .i .i64 n, .i .i64 i], []⟩
theorem r19w (w v : Nat) (xs ys : List Rat) (n i : Int) : (qe prog [] [] pol19 f17.ntmps 0 [0, 1, 4, 12, 13] b19w (st19w w v xs ys n i)).run =
 (Tr.br (decide (i < n)) (.br (ix (i) ((xs.length : Int))) (.br (ix (i) ((ys.length : Int))) (.br (!decide (xs.getD i.toNat 0 = ys.getD i.toNat 0)) (.ok (.out .ret (LS.mk [.lst 3 (.rats w xs), .lst 3 (.rats v ys), .bl false, .i .i64 n, .i .i64 i] []))) (.br (ib (i + 1)) (.ok (.out .normal (LS.mk [.lst 3 (.rats w xs), .lst 3 (.rats v ys), .bl false, .i .i64 n, .i .i64 (i + 1)] []))) (.no 9002))) (.no 7003)) (.no 7007)) (.ok (.out (.exit 0) (LS.mk [.lst 3 (.rats w xs), .lst 3 (.rats v ys), .bl false, .i .i64 n, .i .i64 i] [])))).run := by kernel_rfl
theorem e19w (w v : Nat) (xs ys : List Rat) (x : Exit) (i : Int) : (evF prog [] [(4, lcst (st19w w v xs ys xs.length 0) (.exit 0) (st19w w v xs ys xs.length i))] pol19 f17 [.lst 3 (.rats w xs), .lst 3 (.rats v ys)] [] qo).run =
 (Tr.br (!decide ((xs.length : Int) = (ys.length : Int))) (.ok (.ret (.bl false) [])) (.br (qg (isLS (LS.mk [.lst 3 (.rats w xs), .lst 3 (.rats v ys), .bl false, .i .i64 (xs.length : Int), .i .i64 0] []) (LS.mk [.lst 3 (.rats w xs), .lst 3 (.rats v ys), .bl false, .i .i64 (xs.length : Int), .i .i64 0] []))) (.ok (.ret (.bl true) [])) (.no 1))).run := by kernel_rfl
theorem e19b (w v : Nat) (xs ys : List Rat) (x : Exit) (i : Int) : (evF prog [] [(4, lcst (st19w w v xs ys xs.length 0) .ret (st19w w v xs ys xs.length i))] pol19 f17 [.lst 3 (.rats w xs), .lst 3 (.rats v ys)] [] qo).run =
 (Tr.br (!decide ((xs.length : Int) = (ys.length : Int))) (.ok (.ret (.bl false) [])) (.br (qg (isLS (LS.mk [.lst 3 (.rats w xs), .lst 3 (.rats v ys), .bl false, .i .i64 (xs.length : Int), .i .i64 0] []) (LS.mk [.lst 3 (.rats w xs), .lst 3 (.rats v ys), .bl false, .i .i64 (xs.length : Int), .i .i64 0] []))) (.ok (.ret (.bl false) [])) (.no 1))).run := by kernel_rfl
def eqJ (xs ys : List Rat) (j : Nat) : Bool := decide (xs.getD j 0 = ys.getD j 0)
def c19 : Spec := fun args hs K => match args, hs with
 | [.lst 3 (.rats w xs), .lst 3 (.rats v ys)], [] => .br (Nat.ble xs.length ys.length && Nat.ble ys.length xs.length && Nat.ble xs.length 1000) (.br (decide (xs = ys)) (K (.bl true) []) (K (.bl false) [])) (.no 1)
 | _, _ => .no 1
include hG in
theorem ck19 : qc prog G 17 c19 := by
 intro args hs K x h
 unfold c19 at h
 split at h
 case h_2 => cases h
 rename_i w xs v ys
 obtain ⟨hc, hr⟩ := kA h
 simp only [kE, kI] at hc
 obtain ⟨⟨a1, a2⟩, a3⟩ := hc
 have hl : ys.length = xs.length := by omega
 obtain ⟨g1, g2⟩ := Goes.search (R := Rnd prog G f17.ntmps 0 [0, 1, 4, 12, 13] b19w) (fun j => st19w w v xs ys xs.length ((j : Nat) : Int)) (fun j => st19w w v xs ys xs.length ((j : Nat) : Int)) (eqJ xs ys) xs.length
  (e0 := .exit 0) (e1 := .ret) (fin := st19w w v xs ys xs.length ((xs.length : Nat) : Int)) (by simp) (by simp)
  (fun j hj hf => by
   refine qb hG .nil mix (L := []) (pol := pol19) (O := []) (kD (by kernel_rfl)) (Nat.zero_le _) ?_
   have hb : (!decide (xs.getD j 0 = ys.getD j 0)) = false := by rw [show decide (xs.getD j 0 = ys.getD j 0) = true from hf]; rfl
   rw [r19w, Int.toNat_natCast]
   repeat first | rw [k5 (by first | (simp only [kE, Bool.or_eq_true, kF, kI, Nat.blt_eq, kJ, kK, kM, kN]; omega) | exact hb | exact decP_iff.2 ⟨rfl, trivial⟩ | exact decP_iff.2 rfl | exact kG rfl | decide)] | rw [k6 (by first | (simp only [Bool.and_eq_false_iff, Bool.not_eq_false', kF, kN]; omega) | exact hb | exact congrArg (!·) (kG rfl) | decide)]
   rw [k7]
   rfl)
  (fun j hj hf => by
   refine qb hG .nil mix (L := []) (pol := pol19) (O := []) (kD (by kernel_rfl)) (Nat.zero_le _) ?_
   have hb : (!decide (xs.getD j 0 = ys.getD j 0)) = true := by rw [show decide (xs.getD j 0 = ys.getD j 0) = false from hf]; rfl
   rw [r19w, Int.toNat_natCast]
   repeat first | rw [k5 (by first | (simp only [kE, Bool.or_eq_true, kF, kI, Nat.blt_eq, kJ, kK, kM, kN]; omega) | exact hb | exact decP_iff.2 ⟨rfl, trivial⟩ | exact decP_iff.2 rfl | exact kG rfl | decide)] | rw [k6 (by first | (simp only [Bool.and_eq_false_iff, Bool.not_eq_false', kF, kN]; omega) | exact hb | exact congrArg (!·) (kG rfl) | decide)]
   rw [k7]
   rfl)
  (by
   refine qb hG .nil mix (L := []) (pol := pol19) (O := []) (kD (by kernel_rfl)) (Nat.zero_le _) ?_
   rw [r19w, k6 (kH (by omega)), k7]
   rfl) xs.length 0 (by omega)
 by_cases he : xs = ys
 ·rw [k5 (kG he)] at hr
  refine ⟨_, _, qp hG .nil mix enter19 (O := []) (L := [(4, lcst (st19w w v xs ys xs.length 0) (.exit 0) (st19w w v xs ys xs.length xs.length))]) (pol := pol19) (lps1 (b := b19w) (live := [0, 1, 4, 12, 13]) (m := 0) (by kernel_rfl) (by kernel_rfl) (by kernel_rfl) (lcst_ok (g1 fun j _ _ => by rw [he]; exact kG rfl))) ?_, hr⟩
  refine (e19w w v xs ys .ret _).trans ?_
  repeat first | rw [k5 (by first | (simp only [kE, Bool.or_eq_true, kF, kI, Nat.blt_eq, kJ, kK, kM, kN]; omega) | exact decP_iff.2 ⟨rfl, trivial⟩ | exact decP_iff.2 rfl | exact kG rfl | decide)] | rw [k6 (by first | (simp only [Bool.and_eq_false_iff, Bool.not_eq_false', kF, kN]; omega) | exact congrArg (!·) (kG rfl) | decide)]
  rw [k7]
 ·rw [k6 (kH he)] at hr
  have hn : ¬ ∀ j, 0 <= j -> j < xs.length -> eqJ xs ys j = true := fun hh => he (list_ext0 rfl hl fun i hi => of_decide_eq_true (hh i (Nat.zero_le _) hi))
  refine ⟨_, _, qp hG .nil mix enter19 (O := []) (L := [(4, lcst (st19w w v xs ys xs.length 0) .ret (st19w w v xs ys xs.length (fbad (eqJ xs ys) xs.length 0 : Nat)))]) (pol := pol19) (lps1 (b := b19w) (live := [0, 1, 4, 12, 13]) (m := 0) (by kernel_rfl) (by kernel_rfl) (by kernel_rfl) (lcst_ok (g2 hn))) ?_, hr⟩
  refine (e19b w v xs ys .ret _).trans ?_
  repeat first | rw [k5 (by first | (simp only [kE, Bool.or_eq_true, kF, kI, Nat.blt_eq, kJ, kK, kM, kN]; omega) | exact decP_iff.2 ⟨rfl, trivial⟩ | exact decP_iff.2 rfl | exact kG rfl | decide)] | rw [k6 (by first | (simp only [Bool.and_eq_false_iff, Bool.not_eq_false', kF, kN]; omega) | exact congrArg (!·) (kG rfl) | decide)]
  rw [k7]
end
section
open Go
set_option maxRecDepth 100000
variable {G : World -> (Nat -> Prop) -> Prop} (hG : GOk G)
def wyE (w : Nat) (q : List Rat) : PV := .lst 3 (.rats w q)
def wyP (w n : Nat) (qs : Nat -> List Rat) : PV := .lst 1 (.fn n (fun j => wyE w (qs j)))
def OGd : Orc := [(19, g21), (63, c71)]
include hG in
theorem orcGd (hT : TabG G) : OrcOK Tryd.prog G OGd := .cons (gk21 hG hT) (.cons (ck71 hG) .nil)
def gdC (w : Nat) (q : List Rat) : Bool := Nat.ble 1 q.length && Nat.ble q.length 1000 && Nat.ble w 10000
end
section
open Go Tryd
set_option maxRecDepth 100000
variable {G : World -> (Nat -> Prop) -> Prop} (hG : GOk G)
def msI (p q : List Rat) (s : Rat) : Nat -> Rat
 | 0 => s
 | k + 1 => msI p q s k + rabs (q.getD k 0 - p.getD k 0)
theorem enWy : Enters prog 21 f21 (qd f21) := ⟨func21, by kernel_rfl, rfl⟩
def bWy : Code := (qh (qd f21)).getD 0 .skip
def polWy : Pol := { live := [(4, [2, 5, 6, 12, 13])], wr := [(60, [0])] }
def isP (a b : PV) : Prop := a = b
def vCfW (A : Am) : Spec := fun args hs K => match args, hs with
 | [a, .lst 1 (.ints .i64 ks)], [] => .br (qg (isP a (qk A))) (K (.fr 3 (.rats 64 (cfL A.lk (.lst 1 (.ints .i64 ks)) A.n))) []) (.no 1)
 | _, _ => .no 1
def RWy (A : Am) : Orc := [(30, vCfW A), (60, s45)]
def wyN (A : Am) (v : PV) (n i : Int) : LS := ⟨[.ptr 0 12 0 0 [], .nil, .ptr 1 1 0 0 [], .i .i64 n, .i .i64 i], [some ⟨12, .vals [qk A]⟩, some ⟨1, .vals [.agg [.w v]]⟩]⟩
def wyX (A : Am) (v : PV) (L : List (List Rat)) (n i : Int) : LS := ⟨[.ptr 0 12 0 0 [], .sl 1 1 0 L.length, .ptr 2 1 0 0 [], .i .i64 n, .i .i64 i], [some ⟨12, .vals [qk A]⟩, some ⟨1, .vals (L.map (wyE 64))⟩, some ⟨1, .vals [.agg [.w v]]⟩]⟩
def cfg (A : Am) (v : PV) : List Rat := cfL A.lk (.lst 1 (.ints .i64 [nx v 9, nx (rs v) 9, nx (rs (rs v)) 9])) A.n
def nx9 (v : PV) : Bool := okW v && decide ((0 : Int) < 9) && decide ((9 : Int) <= 4294967296)
def trWy (A : Am) (v : PV) (n i : Int) (c : Bool) (nxt ex : LS) : Tr :=
 .br (decide (i < n)) (.br (nx9 v) (.br (nx9 (rs v)) (.br (nx9 (rs (rs v))) (.br (qg (isP (qk A) (qk A))) (.br (Nat.ble (0 + (cfg A v).length) (cfg A v).length) (.br c (.br (ovf (i + 1)) (.ok (.out .normal nxt)) (.no 1)) (.no 1)) (.no 1)) (.no 1)) (.no 1)) (.no 1)) (.no 1)) (.ok (.out (.exit 0) ex))
theorem tWyN (A : Am) (v : PV) (n i : Int) : (qe prog (RWy A) [] polWy f21.ntmps 0 [2, 5, 6, 12, 13] bWy (wyN A v n i)).run =
  (trWy A v n i true (wyX A (rs (rs (rs v))) [List.take (cfg A v).length (List.drop 0 (cfg A v))] n (i + 1)) (wyN A v n i)).run := by kernel_rfl
theorem tWy (A : Am) (v : PV) (n i : Int) : ∀ L : List (List Rat), 1 <= L.length -> L.length <= 5 -> (qe prog (RWy A) [] polWy f21.ntmps 0 [2, 5, 6, 12, 13] bWy (wyX A v L n i)).run =
  (trWy A v n i (Nat.ble (L.length + 1) 4294967296) (wyX A (rs (rs (rs v))) (L ++ [List.take (cfg A v).length (List.drop 0 (cfg A v))]) n (i + 1)) (wyX A v L n i)).run
 | [], h, _ => absurd h (Nat.not_succ_le_zero 0)
 | [a], _, _ => by kernel_rfl
 | [a, b], _, _ => by kernel_rfl
 | [a, b, c], _, _ => by kernel_rfl
 | [a, b, c, d], _, _ => by kernel_rfl
 | [a, b, c, d, e], _, _ => by kernel_rfl
 | _ :: _ :: _ :: _ :: _ :: _ :: _, _, h => by simp only [kJ] at h; omega
theorem eWy (A : Am) (m v : PV) : ∀ L : List (List Rat), 1 <= L.length -> L.length <= 5 -> (evF prog (RWy A) [(4, lcst (wyN A (rs m) (1 + nx m 5) 0) (.exit 0) (wyX A v L (1 + nx m 5) (1 + nx m 5)))] polWy f21 [qk A, .w m] [] qo).run =
  (Tr.br (okW m && decide ((0 : Int) < 5) && decide ((5 : Int) <= 4294967296)) (.br (ovf (1 + nx m 5)) (.br (qg (isLS (wyN A (rs m) (1 + nx m 5) 0) (wyN A (rs m) (1 + nx m 5) 0))) (.ok (.ret (.fr 1 (.vals (L.map (wyE 64)))) [])) (.no 1)) (.no 1)) (.no 1)).run
 | [], h, _ => absurd h (Nat.not_succ_le_zero 0)
 | [a], _, _ => by kernel_rfl
 | [a, b], _, _ => by kernel_rfl
 | [a, b, c], _, _ => by kernel_rfl
 | [a, b, c, d], _, _ => by kernel_rfl
 | [a, b, c, d, e], _, _ => by kernel_rfl
 | _ :: _ :: _ :: _ :: _ :: _ :: _, _, h => by simp only [kJ] at h; omega
def wyV (v : PV) : Nat -> PV
 | 0 => v
 | j + 1 => rs (rs (rs (wyV v j)))
theorem okW_wyV {v : PV} (h : okW v = true) : ∀ j, okW (wyV v j) = true
 | 0 => h
 | j + 1 => okW_rs (okW_rs (okW_rs (okW_wyV h j)))
def wayQ (A : Am) (m : PV) (j : Nat) : List Rat := cfg A (wyV (rs m) j)
def wayN (m : PV) : Nat := (1 + nx m 5).toNat
include hG in
theorem vkCfW (A : Am) (hA : armB A = true) (hX : limX A = true) : qc prog G 30 (vCfW A) := by
 intro args hs K x h
 unfold vCfW at h
 split at h
 case h_2 => cases h
 rename_i a ks
 obtain ⟨hc, hr⟩ := kA h
 obtain rfl : a = qk A := decP_iff.1 hc
 obtain ⟨r, hs', p, e⟩ := ok33 hG [qk A, .w (.lst 1 (.ints .i64 ks))] [] (fun r hs' => .ok (.ret r hs')) (.ret (.fr 3 (.rats 64 (cfL A.lk (.lst 1 (.ints .i64 ks)) A.n))) []) (by
  show (Tr.br _ _ _).run = _
  rw [k5 (decP_iff.2 ⟨okA_arm hA, hX, rfl⟩)]; rfl)
 cases e
 exact ⟨_, _, PC.args (.cons (.refl _) (.cons (vle_w_in rfl) .nil)) p, hr⟩
include hG in
theorem pcWy (A : Am) (hA : armB A = true) (hX : limX A = true) (m : PV) (hm : okW m = true) : PC prog G 21 [qk A, .w m] [] (.fr 1 (.vals (((List.range (wayN m)).map (wayQ A m)).map (wyE 64)))) [] := by
 obtain ⟨r0, r1⟩ := qw m (show (0 : Int) < 5 by omega)
 have oc : OrcOK prog G (RWy A) := .cons (vkCfW hG A hA hX) (.cons (ok45 hG) .nil)
 obtain ⟨n, hn⟩ : ∃ n : Nat, wayN m = n := ⟨_, rfl⟩
 have hN : 1 + nx m 5 = (n : Int) := by unfold wayN at hn; omega
 have k9 : ∀ {v : PV}, okW v = true -> nx9 v = true := fun h => by simp only [nx9, h]; rfl
 have run : ∀ (v : PV) (j : Nat) (c : Bool) (nxt ex : LS), okW v = true -> j < n -> c = true -> (trWy A v n (j : Nat) c nxt ex).run = some (.out .normal nxt) := fun v j c nxt ex hv hj hc => by
  unfold trWy
  rw [k5 (kG (by omega)), k5 (k9 hv), k5 (k9 (okW_rs hv)), k5 (k9 (okW_rs (okW_rs hv))), k5 (decP_iff.2 (show isP _ _ from rfl)), k5 (by rw [kI]; omega), k5 hc, k5 (by simp only [ovf, kE, kF]; omega), k7]
 have ho := okW_rs hm
 have g : Goes (Rnd prog G f21.ntmps 0 [2, 5, 6, 12, 13] bWy) (wyN A (rs m) n 0) (.exit 0) (wyX A (wyV (rs m) n) ((List.range n).map (wayQ A m)) n n) := by
  refine Goes.build (xst := fun L (j : Nat) => wyX A (wyV (rs m) j) L n ((j : Nat) : Int)) (wayQ A m) (by simp) n (by omega) ?_ ?_ ?_
  ·refine qb hG oc mix (L := []) (pol := polWy) (kD (by kernel_rfl)) (by simp [wyN]) ((tWyN A (rs m) n ((0 : Nat) : Int)).trans ?_)
   rw [run (rs m) 0 _ _ _ ho (by omega) rfl, List.drop_zero, List.take_length]
   rfl
  ·intro L j hL h1 hj
   refine qb hG oc mix (L := []) (pol := polWy) (kD (by kernel_rfl)) (by simp [wyX]) ((tWy A (wyV (rs m) j) n ((j : Nat) : Int) L (by omega) (by omega)).trans ?_)
   rw [run _ j _ _ _ (okW_wyV ho j) hj (by rw [kI]; omega), List.drop_zero, List.take_length]
   rfl
  ·refine qb hG oc mix (L := []) (pol := polWy) (kD (by kernel_rfl)) (by simp [wyX]) ((tWy A (wyV (rs m) n) n ((n : Nat) : Int) _ (by simp; omega) (by simp; omega)).trans ?_)
   unfold trWy
   rw [k6 (kH (by omega)), k7]
 have g1 : Goes (Rnd prog G f21.ntmps 0 [2, 5, 6, 12, 13] bWy) (wyN A (rs m) (1 + nx m 5) 0) (.exit 0) (wyX A (wyV (rs m) n) ((List.range n).map (wayQ A m)) (1 + nx m 5) (1 + nx m 5)) := by
  rw [hN]
  exact g
 rw [hn]
 refine qp hG oc mix enWy (pol := polWy) (L := [(4, lcst (wyN A (rs m) (1 + nx m 5) 0) (.exit 0) (wyX A (wyV (rs m) n) ((List.range n).map (wayQ A m)) (1 + nx m 5) (1 + nx m 5)))])
  (lps1 (b := bWy) (live := [2, 5, 6, 12, 13]) (m := 0) (by kernel_rfl) (by kernel_rfl) (by kernel_rfl) (lcst_ok g1)) ((eWy A m _ _ (by simp; omega) (by simp; omega)).trans ?_)
 rw [k5 (by rw [hm]; rfl), k5 (by simp only [ovf, kE, kF]; omega), k5 isLS_t, k7]
end
section
open Go
set_option maxRecDepth 100000
def dst (p q : List Rat) (m : Nat) : Rat := msI p q 0 m
def seqL (L : List (List Rat)) (j : Nat) : List Rat := L.getD j []
end
section
open Go
set_option maxRecDepth 100000
variable {G : World -> (Nat -> Prop) -> Prop} (hG : GOk G)
theorem map_h (w : Nat) (L : List (List Rat)) : ∀ (i : Nat) (v : PV), (L.map (wyE w))[i]? = some v -> noRef 8 v = true /\ VLe v (wyE w (seqL L i)) := fun i v hi => by
 rw [List.getElem?_map] at hi
 cases hj : L[i]? with
 | none => rw [hj] at hi; cases hi
 | some q =>
  rw [hj] at hi
  obtain rfl := Option.some.inj hi
  refine ⟨rfl, ?_⟩
  rw [seqL, List.getD_eq_getElem?_getD, hj]
  exact .refl _
include hG in
theorem pcWyF (A : Am) (hA : armB A = true) (hX : limX A = true) (m : PV) (hm : okW m = true) : PC Tryd.prog G 21 [qk A, .w m] [] (.fr 1 (.fn (wayN m) (fun j => wyE 64 (wayQ A m j)))) [] :=
 (pcWy hG A hA hX m hm).le (fr_fn 1 _ _ _ (by simp) fun i v hi => by
  have := map_h 64 _ i v hi
  refine ⟨this.1, ?_⟩
  have hlt : i < wayN m := by
   have := (List.getElem?_eq_some_iff.1 hi).1
   simpa using this
  have e : seqL ((List.range (wayN m)).map (wayQ A m)) i = wayQ A m i := by
   rw [seqL, List.getD_eq_getElem?_getD, List.getElem?_map, List.getElem?_range hlt]; rfl
  rw [e] at this
  exact this.2) (.refl _)
def eqC (p q : List Rat) (t e : Tr) : Tr := .br (Nat.ble p.length q.length && Nat.ble q.length p.length && Nat.ble p.length 1000) (.br (decide (p = q)) t e) (.no 1)
end
section
open Go
set_option maxRecDepth 100000
end
section
open Go
set_option maxRecDepth 100000
variable {G : World -> (Nat -> Prop) -> Prop} (hG : GOk G)
theorem eqC_t {p q : List Rat} {t e : Tr} (h : p = q) (hl : p.length <= 1000) : (eqC p q t e).run = t.run := by
 subst h
 unfold eqC
 rw [k5 (by simp only [kE, kI]; omega), k5 (kG rfl)]
end
section
open Go Tryd
set_option maxRecDepth 100000
variable {G : World -> (Nat -> Prop) -> Prop} (hG : GOk G)
theorem enCe : Enters prog 126 f126 (qd f126) := ⟨func126, by kernel_rfl, rfl⟩
theorem eCe (x : Rat) (n : Nat) : (evF prog [(36, g27), (63, c71), (97, gFl), (99, g83)] [] {} f126 [.q x n] [] qo).run =
  (Tr.br (Nat.ble (n + 64) 800000) (.br (decide ((0 : Int) < rcmp x ((2000 : Int) : Rat))) (.ok (.ret (.i .i64 2001) [])) (.br (Nat.ble n 800000) (.br (qg (smF (-x))) (.br (Nat.ble n 780000) (.br (ovf (0 - (-x).floor)) (.ok (.ret (.i .i64 (0 - (-x).floor)) [])) (.no 1)) (.no 1)) (.no 1)) (.no 1))) (.no 1)).run := by kernel_rfl
def isC2 (x : Rat) : Prop := 0 <= x /\ x <= 2000
def gCe : Spec := fun args hs K => match args, hs with
 | [.q x n], [] => .br (qg (isC2 x)) (.br (Nat.ble n 700000) (K (.i .i64 (0 - (-x).floor)) []) (.no 1)) (.no 1)
 | _, _ => .no 1
include hG in
theorem gkCe (hT : TabG G) : qc prog G 126 gCe := by
 intro args hs K y h
 unfold gCe at h
 split at h
 case h_2 => cases h
 rename_i x n
 obtain ⟨hc, hr⟩ := kA h
 obtain ⟨hb, hr⟩ := kA hr
 rw [kI] at hb
 obtain ⟨h1, h2⟩ := decP_iff.1 hc
 have f1 : -2000 <= (-x).floor := Rat.le_floor_iff.2 (by show (((-2000 : Int)) : Rat) <= -x; have : ((-2000 : Int) : Rat) = -2000 := rfl; grind)
 have f2 : (-x).floor < 1 := Rat.floor_lt_iff.2 (by show -x < 1; grind)
 refine ⟨_, _, qp hG (.cons (gk27 hG hT) (.cons (ck71 hG) (.cons (gkFl hG hT) (.cons (gk83 hG hT) .nil)))) mix enCe (hs := []) (L := []) (pol := {}) (kD (by kernel_rfl)) ((eCe x n).trans ?_), hr⟩
 rw [k5 (by rw [kI]; omega), k6 (kH (Int.not_lt.2 (rcmp_le.2 (show x <= ((2000 : Int) : Rat) from h2)))), k5 (by rw [kI]; omega), k5 (decP_iff.2 (show smF (-x) from ⟨by omega, by omega⟩)),
  k5 (by rw [kI]; omega), k5 (by simp only [ovf, kE, kF]; omega), k7]
theorem enTk : Enters prog 94 f94 (qd f94) := ⟨func94, by kernel_rfl, rfl⟩
def bTa : Code := (qh (qd f94)).getD 0 .skip
def bTb : Code := (qh (qd f94)).getD 1 .skip
def polTk : Pol := { live := [(2, [1, 2, 3, 6, 7, 18, 19, 20]), (10, [1, 2, 11, 32, 33, 34])] }
def isFt (A : Am) (a : PV) (w : Nat) (q : List Rat) : Prop := a = qk A /\ w <= 1000 /\ fitB A q = true /\ q.length = A.n
def vFt (A : Am) : Spec := fun args hs K => match args, hs with
 | [a, .lst 3 (.rats w q)], [] => .br (qg (isFt A a w q)) (K (.i .i64 0) []) (.no 1)
 | _, _ => .no 1
include hG in
theorem vkFt (hT : TabG G) (A : Am) (hA : armB A = true) : qc prog G 92 (vFt A) := by
 intro args hs K x h
 unfold vFt at h
 split at h
 case h_2 => cases h
 rename_i a w q
 obtain ⟨hc, hr⟩ := kA h
 obtain ⟨rfl, hw, hf, hl⟩ := decP_iff.1 hc
 have p := pc35w hG hT w (by omega) A hA q hl
 rw [if_pos hf] at p
 exact ⟨_, _, p, hr⟩
def lTa (A : Am) : qx := unr prog [(92, vFt A)] [] polTk f94.ntmps 0 [1, 2, 3, 6, 7, 18, 19, 20] bTa 3
def RTb : Orc := [(55, g28), (56, g29), (64, c72), (126, gCe)]
def stTb (w : Nat) (p q : List Rat) (k : Int) (n : Nat) (lk : Nat -> Lk) (i : Int) : LS := ⟨[wyE w p, wyE w q, .i .i64 k, .lst 16 (.fn n (fun j => lkPV (lk j))), .i .i64 n, .i .i64 i], []⟩
def ptV (d : Lk) (p q : Rat) : Rat := rabs (q - p) / d.spd
def clV (d : Lk) (p q : Rat) : Int := 0 - (-(ptV d p q)).floor
theorem tTb (w : Nat) (p q : List Rat) (k : Int) (n : Nat) (lk : Nat -> Lk) (i : Int) : (qe prog RTb [] polTk f94.ntmps 0 [1, 2, 11, 32, 33, 34] bTb (stTb w p q k n lk i)).run =
  (Tr.br (decide (i < (n : Int))) (.br (ix (i) ((n : Int))) (.br (ix (i) ((q.length : Int))) (.br (ix (i) ((p.length : Int))) (.br (Nat.ble (w + w + 1) 800000) (.br (Nat.ble (w + w + 1) 800000) (.br (qg (nz72 (lk i.toNat).spd)) (.br (Nat.ble (w + w + 1 + 64) 800000) (.br (qg (isC2 (ptV (lk i.toNat) (p.getD i.toNat 0) (q.getD i.toNat 0)))) (.br (Nat.ble (w + w + 1 + 64) 700000) (.br (ovf (i + 1)) (.ok (.out .normal (stTb w p q (if clV (lk i.toNat) (p.getD i.toNat 0) (q.getD i.toNat 0) > k then clV (lk i.toNat) (p.getD i.toNat 0) (q.getD i.toNat 0) else k) n lk (i + 1)))) (.no 1)) (.no 1)) (.no 1)) (.no 1)) (.no 1)) (.no 1)) (.no 1)) (.no 1)) (.no 1)) (.no 1)) (.ok (.out (.exit 2) (stTb w p q k n lk i)))).run := by kernel_rfl
theorem eTk (A : Am) (w : Nat) (p q : List Rat) (k : Int) : (evF prog [(92, vFt A)] [(2, lTa A), (10, lcst (stTb w p q 1 A.n A.lk 0) (.exit 2) (stTb w p q k A.n A.lk A.n))] polTk f94 [qk A, wyE w p, wyE w q] [] qo).run =
  (Tr.br (qg (isFt A (qk A) w p)) (.br (qg (isFt A (qk A) w q)) (.br (qg (isLS (stTb w p q 1 A.n A.lk 0) (stTb w p q 1 A.n A.lk 0))) (.br (decide ((2000 : Int) < k)) (.ok (.ret (.tup [.i .i64 0, .i .i64 19]) [])) (.ok (.ret (.tup [.i .i64 k, .i .i64 0]) []))) (.no 1)) (.no 1)) (.no 1)).run := by kernel_rfl
def tkF (lk : Nat -> Lk) (p q : List Rat) : Nat -> Int
 | 0 => 1
 | i + 1 => if clV (lk i) (p.getD i 0) (q.getD i 0) > tkF lk p q i then clV (lk i) (p.getD i 0) (q.getD i 0) else tkF lk p q i
def tkT (A : Am) (p q : List Rat) : Int := tkF A.lk p q A.n
theorem pt_bd {A : Am} (hL : armL A) {p q : List Rat} (hp : fitB A p = true) (hq : fitB A q = true) {i : Nat} (hi : i < A.n) : 0 <= ptV (A.lk i) (p.getD i 0) (q.getD i 0) /\ ptV (A.lk i) (p.getD i 0) (q.getD i 0) <= 44 /\ (A.lk i).spd ≠ 0 := by
 obtain ⟨a1, a2, a3⟩ := hL i
 have b := fitB_iff.1 hp i hi
 have c := fitB_iff.1 hq i hi
 have hs : 0 < (A.lk i).spd := by grind
 have hu : ptV (A.lk i) (p.getD i 0) (q.getD i 0) * (A.lk i).spd = rabs (q.getD i 0 - p.getD i 0) := Rat.div_mul_cancel (by grind)
 have r1 : rabs (q.getD i 0 - p.getD i 0) <= 4 := rabs_le.2 ⟨by grind, by grind⟩
 have r0 : 0 <= rabs (q.getD i 0 - p.getD i 0) := by unfold rabs; split <;> grind
 generalize ptV (A.lk i) (p.getD i 0) (q.getD i 0) = u at *
 refine ⟨nn_of_mul hs (by grind), ?_, by grind⟩
 have := nn_of_mul (x := 44 - u) hs (by grind)
 grind
theorem cl_bd {d : Lk} {p q : Rat} (h0 : 0 <= ptV d p q) (h1 : ptV d p q <= 44) : 0 <= clV d p q /\ clV d p q <= 44 /\ ptV d p q <= ((clV d p q : Int) : Rat) /\ ((clV d p q : Int) : Rat) < ptV d p q + 1 := by
 unfold clV
 have f1 : -44 <= (-ptV d p q).floor := Rat.le_floor_iff.2 (by have : ((-44 : Int) : Rat) = -44 := rfl; grind)
 have f2 : (-ptV d p q).floor < 1 := Rat.floor_lt_iff.2 (by show -ptV d p q < 1; grind)
 have f3 := Rat.floor_le (-ptV d p q)
 have f4 := Rat.lt_floor_add_one (-ptV d p q)
 generalize (-ptV d p q).floor = m at *
 have c1 : ((0 - m : Int) : Rat) = -(m : Rat) := by rw [show (0 : Int) - m = -m by omega]; exact Rat.intCast_neg m
 have c2 : ((m + 1 : Int) : Rat) = (m : Rat) + 1 := Rat.intCast_add m 1
 rw [c1]
 rw [c2] at f4
 exact ⟨by omega, by omega, by grind, by grind⟩
theorem tkF_bd {A : Am} (hL : armL A) {p q : List Rat} (hp : fitB A p = true) (hq : fitB A q = true) : ∀ i, i <= A.n -> 1 <= tkF A.lk p q i /\ tkF A.lk p q i <= 44 /\ (∀ j, j < i -> clV (A.lk j) (p.getD j 0) (q.getD j 0) <= tkF A.lk p q i) /\ (1 < tkF A.lk p q i -> ∃ j, j < i /\ clV (A.lk j) (p.getD j 0) (q.getD j 0) = tkF A.lk p q i)
 | 0, _ => ⟨Int.le_refl _, by show (1 : Int) <= 44; omega, fun j hj => absurd hj (Nat.not_lt_zero _), fun h => absurd h (by show ¬ (1 : Int) < 1; omega)⟩
 | i + 1, hi => by
  obtain ⟨a, b, c, d⟩ := tkF_bd hL hp hq i (by omega)
  obtain ⟨p0, p1, -⟩ := pt_bd hL hp hq (show i < A.n by omega)
  obtain ⟨c0, c1, -, -⟩ := cl_bd p0 p1
  rw [tkF]
  split
  ·rename_i g
   refine ⟨by omega, c1, fun j hj => ?_, fun _ => ⟨i, by omega, rfl⟩⟩
   rcases Nat.lt_or_ge j i with g' | g'
   ·have := c j g'; omega
   ·rw [show j = i by omega]; exact Int.le_refl _
  ·rename_i g
   refine ⟨a, b, fun j hj => ?_, fun h => ?_⟩
   ·rcases Nat.lt_or_ge j i with g' | g'
    ·exact c j g'
    ·rw [show j = i by omega]; omega
   ·obtain ⟨j, hj, e⟩ := d h
    exact ⟨j, by omega, e⟩
theorem tk_slow {A : Am} (hL : armL A) {p q : List Rat} (hp : fitB A p = true) (hq : fitB A q = true) : slowB A (tkT A p q) p q = true /\ (1 < tkT A p q -> slowB A (tkT A p q - 1) p q = false) := by
 obtain ⟨a, b, c, d⟩ := tkF_bd hL hp hq A.n (Nat.le_refl _)
 have one : ∀ (i : Nat) (k : Int), i < A.n -> (slow1 A.lk (k : Rat) p q i = true ↔ ptV (A.lk i) (p.getD i 0) (q.getD i 0) <= (k : Rat)) := fun i k hi => by
  obtain ⟨p0, p1, hs⟩ := pt_bd hL hp hq hi
  obtain ⟨a1, a2, a3⟩ := hL i
  have hs' : 0 < (A.lk i).spd := by grind
  have hu : ptV (A.lk i) (p.getD i 0) (q.getD i 0) * (A.lk i).spd = rabs (q.getD i 0 - p.getD i 0) := Rat.div_mul_cancel hs
  unfold slow1
  rw [kF, <- hu]
  generalize ptV (A.lk i) (p.getD i 0) (q.getD i 0) = u at *
  constructor
  ·intro h
   have := nn_of_mul (x := (k : Rat) - u) hs' (by grind)
   grind
  ·intro h
   have := Rat.mul_nonneg (show 0 <= (k : Rat) - u by grind) (show 0 <= (A.lk i).spd by grind)
   grind
 refine ⟨List.all_eq_true.2 fun i hi => ?_, fun h => ?_⟩
 ·have hi' := List.mem_range.1 hi
  obtain ⟨p0, p1, -⟩ := pt_bd hL hp hq hi'
  obtain ⟨-, -, c2, -⟩ := cl_bd p0 p1
  refine (one i _ hi').2 ?_
  have := Rat.intCast_le_intCast.2 (c i hi')
  exact Rat.le_trans c2 this
 ·obtain ⟨j, hj, e⟩ := d h
  obtain ⟨p0, p1, -⟩ := pt_bd hL hp hq hj
  obtain ⟨-, -, -, c3⟩ := cl_bd p0 p1
  cases hc : slowB A (tkT A p q - 1) p q with
  | false => rfl
  | true =>
   have := (one j _ hj).1 (List.all_eq_true.1 hc j (List.mem_range.2 hj))
   rw [e] at c3
   have c1 : ((tkT A p q - 1 : Int) : Rat) = ((tkT A p q : Int) : Rat) - 1 := Rat.intCast_sub _ 1
   rw [c1] at this
   have e' : ((tkF A.lk p q A.n : Int) : Rat) = ((tkT A p q : Int) : Rat) := rfl
   rw [e'] at c3
   grind
include hG in
theorem pcTk (hT : TabG G) (A : Am) (hA : armB A = true) (hL : armL A) (w : Nat) (hw : w <= 1000) (p q : List Rat) (hp : fitB A p = true) (hq : fitB A q = true) (lp : p.length = A.n) (lq : q.length = A.n) :
  PC prog G 94 [qk A, wyE w p, wyE w q] [] (.tup [.i .i64 (tkT A p q), .i .i64 0]) [] := by
 obtain ⟨a1, a2, a3, a4, k1, k3, a7⟩ := armB_c hA
 have ocf : OrcOK prog G [(92, vFt A)] := .cons (vkFt hG hT A hA) .nil
 have oc : OrcOK prog G RTb := .cons (gk28 hG hT) (.cons (gk29 hG hT) (.cons (ck72 hG hT) (.cons (gkCe hG hT) .nil)))
 have g := Goes.count (R := Rnd prog G f94.ntmps 0 [1, 2, 11, 32, 33, 34] bTb) (fun i => stTb w p q (tkF A.lk p q i) A.n A.lk ((i : Nat) : Int)) (e := .exit 2) (ls' := stTb w p q (tkT A p q) A.n A.lk A.n) (by simp) A.n 0
  (fun i _ hi => by
   obtain ⟨p0, p1, hs⟩ := pt_bd hL hp hq (show i < A.n by omega)
   refine qb hG oc mix (L := []) (pol := polTk) (kD (by kernel_rfl)) (Nat.zero_le _) ((tTb w p q _ A.n A.lk _).trans ?_)
   rw [Int.toNat_natCast, k5 (kG (by omega)), k5 (by simp only [kE, kF]; omega), k5 (by simp only [kE, kF]; omega), k5 (by simp only [kE, kF]; omega), k5 (by rw [kI]; omega), k5 (by rw [kI]; omega),
    k5 (decP_iff.2 (show nz72 _ from hs)), k5 (by rw [kI]; omega), k5 (decP_iff.2 (show isC2 _ from ⟨p0, by grind⟩)), k5 (by rw [kI]; omega), k5 (by simp only [ovf, kE, kF]; omega), k7]
   rfl)
  (by
   refine qb hG oc mix (L := []) (pol := polTk) (kD (by kernel_rfl)) (Nat.zero_le _) ((tTb w p q _ A.n A.lk _).trans ?_)
   rw [Nat.zero_add, k6 (kH (by omega)), k7]
   rfl)
 obtain ⟨t1, t44, -, -⟩ := tkF_bd hL hp hq A.n (Nat.le_refl _)
 have t44' : tkT A p q <= 44 := t44
 have ha : qv prog G f94.ntmps 0 [1, 2, 3, 6, 7, 18, 19, 20] bTa (lTa A) := unr_ok hG ocf mix (kD (by kernel_rfl)) 3
 refine qp hG ocf mix enTk (hs := []) (pol := polTk) (L := [(2, lTa A), (10, lcst (stTb w p q 1 A.n A.lk 0) (.exit 2) (stTb w p q (tkT A p q) A.n A.lk A.n))])
  (lps2 (b1 := bTa) (b2 := bTb) (by kernel_rfl) (by kernel_rfl) (by kernel_rfl) (by kernel_rfl) (by kernel_rfl) ha (lcst_ok g)) ((eTk A w p q _).trans ?_)
 rw [k5 (decP_iff.2 ⟨rfl, hw, hp, lp⟩), k5 (decP_iff.2 ⟨rfl, hw, hq, lq⟩), k5 isLS_t, k6 (kH (by omega)), k7]
theorem enTg : Enters prog 93 f93 (qd f93) := ⟨func93, by kernel_rfl, rfl⟩
def bTg : Code := (qh (qd f93)).getD 0 .skip
def polTg : Pol := { live := [(3, [3, 6, 7, 8])] }
def trTg (w : Nat) (xs : List Rat) (n i : Int) (c : Bool) (nx ex : LS) : Tr :=
 .br (decide (i < n)) (.br (decide ((0 : Int) <= i) && decide (i < (xs.length : Int))) (.br (Nat.ble (w + 64 + 1) 800000) (.br c (.br (ovf (i + 1)) (.ok (.out .normal nx)) (.no 1)) (.no 1)) (.no 1)) (.no 1)) (.ok (.out (.exit 0) ex))
theorem tTgN (w : Nat) (xs : List Rat) (n i : Int) : (qe prog OGd [] polTg f93.ntmps 0 [3, 6, 7, 8] bTg (n70 w xs n i)).run =
  (trTg w xs n i true ⟨[.sl 0 3 0 1, .lst 3 (.rats w xs), .i .i64 n, .i .i64 (i + 1)], [some ⟨3, .rats (Nat.max (w + 64 + 1) 0) [xs.getD i.toNat 0 + ((0 : Int) : Rat)]⟩]⟩ (n70 w xs n i)).run := by kernel_rfl
theorem tTgX (w W : Nat) (xs ys : List Rat) (n i : Int) : (qe prog OGd [] polTg f93.ntmps 0 [3, 6, 7, 8] bTg (x70 w W xs ys n i)).run =
  (trTg w xs n i (Nat.ble ys.length ys.length && Nat.ble (ys.length + 1) 4294967296) ⟨[.sl 0 3 0 (ys.length + 1), .lst 3 (.rats w xs), .i .i64 n, .i .i64 (i + 1)], [some ⟨3, .rats (Nat.max W (Nat.max (w + 64 + 1) 0)) (List.take ys.length (List.drop 0 ys) ++ [xs.getD i.toNat 0 + ((0 : Int) : Rat)])⟩]⟩ (x70 w W xs ys n i)).run := by kernel_rfl
theorem eTg (w : Nat) (xs : List Rat) : (evF prog OGd [(3, lcst (n70 w xs (xs.length : Nat) 0) (.exit 0) (fin70 w xs))] polTg f93 [.lst 3 (.rats w xs)] [] qo).run =
  (Tr.br (qg (isLS (n70 w xs (xs.length : Nat) 0) (n70 w xs (xs.length : Nat) 0))) (.br (Nat.ble xs.length xs.length) (.ok (.ret (.fr 3 (.rats (w + 64 + 1) (List.take xs.length (List.drop 0 xs)))) [])) (.no 1)) (.no 1)).run := by kernel_rfl
include hG in
theorem pcTg (hT : TabG G) (w : Nat) (hw : w <= 10000) (xs : List Rat) (h1 : 1 <= xs.length) (h2 : xs.length <= 1000) : PC prog G 93 [.lst 3 (.rats w xs)] [] (.fr 3 (.rats (w + 65) xs)) [] := by
 have run : ∀ (i : Nat) (c : Bool) (nx ex : LS), i < xs.length -> c = true -> (trTg w xs xs.length (i : Nat) c nx ex).run = some (.out .normal nx) := fun i c nx ex hi hc => by
  unfold trTg
  rw [k5 (kG (by omega)), k5 (by simp only [kE, kF]; omega), k5 (by rw [kI]; omega), k5 hc, k5 (by simp only [ovf, kE, kF]; omega), k7]
 have g : Goes (Rnd prog G f93.ntmps 0 [3, 6, 7, 8] bTg) (n70 w xs (xs.length : Nat) 0) (.exit 0) (fin70 w xs) := by
  refine Goes.build (xst := fun ys j => x70 w (w + 64 + 1) xs ys (xs.length : Nat) (j : Nat)) (fun j => xs.getD j 0) (by simp) xs.length h1 ?_ ?_ ?_
  ·refine qb hG (orcGd hG hT) mix (L := []) (pol := polTg) (kD (by kernel_rfl)) (Nat.zero_le _) ((tTgN w xs xs.length ((0 : Nat) : Int)).trans ?_)
   rw [run 0 _ _ _ h1 rfl, add00]
   rfl
  ·intro ys j hy hj1 hj
   refine qb hG (orcGd hG hT) mix (L := []) (pol := polTg) (kD (by kernel_rfl)) (Nat.zero_le _) ((tTgX w _ xs ys xs.length ((j : Nat) : Int)).trans ?_)
   rw [run j _ _ _ hj (by simp only [kE, kI]; omega), Int.toNat_natCast, add00, List.drop_zero, List.take_length, mx0]
   unfold x70
   rw [List.length_append]
   rfl
  ·rw [getD_range_map]
   refine qb hG (orcGd hG hT) mix (L := []) (pol := polTg) (kD (by kernel_rfl)) (Nat.zero_le _) ((tTgX w _ xs _ xs.length _).trans ?_)
   unfold trTg
   rw [k6 (kH (by omega)), k7]
   rfl
 refine qp hG (orcGd hG hT) mix enTg (L := [(3, lcst (n70 w xs (xs.length : Nat) 0) (.exit 0) (fin70 w xs))]) (pol := polTg) (lps1 (b := bTg) (live := [3, 6, 7, 8]) (m := 0) (by kernel_rfl) (by kernel_rfl) (by kernel_rfl) (lcst_ok g)) ?_
 rw [eTg, k5 isLS_t, k5 (by rw [kI]; omega), k7, List.drop_zero, List.take_length]
include hG in
theorem ckTg (hT : TabG G) : qc prog G 93 c70 := by
 intro args hs K x h
 unfold c70 at h
 split at h
 case h_2 => cases h
 obtain ⟨hc, hr⟩ := kA h
 simp only [kE, kI] at hc
 exact ⟨_, _, pcTg hG hT _ hc.2 _ hc.1.1 hc.1.2, hr⟩
theorem enPa : Enters prog 48 f48 (qd f48) := ⟨func48, by kernel_rfl, rfl⟩
def bPa : Code := (qh (qd f48)).getD 0 .skip
def polPa : Pol := { live := [(15, [1, 3, 6, 7, 10, 11])], own := [45] }
def isTk (A : Am) (a : PV) (w v : Nat) (p q : List Rat) : Prop := a = qk A /\ w = v /\ w <= 1000 /\ fitB A p = true /\ fitB A q = true /\ p.length = A.n /\ q.length = A.n
def vTk (A : Am) (T : List Rat -> List Rat -> Int) : Spec := fun args hs K => match args, hs with
 | [a, .lst 3 (.rats w p), .lst 3 (.rats v q)], [] => .br (qg (isTk A a w v p q)) (K (.tup [.i .i64 (T p q), .i .i64 0]) []) (.no 1)
 | _, _ => .no 1
include hG in
theorem vkTk (hT : TabG G) (A : Am) (hA : armB A = true) (hL : armL A) : qc prog G 94 (vTk A (tkT A)) := by
 intro args hs K x h
 unfold vTk at h
 split at h
 case h_2 => cases h
 obtain ⟨hc, hr⟩ := kA h
 obtain ⟨rfl, rfl, hw, hp, hq, lp, lq⟩ := decP_iff.1 hc
 exact ⟨_, _, pcTk hG hT A hA hL _ hw _ _ hp hq lp lq, hr⟩
def RPa (A : Am) (T : List Rat -> List Rat -> Int) : Orc := [(93, c70), (94, vTk A T)]
def kyX (x : Int × List Rat) : PV := kyPV 129 x.1 x.2
def stPa (A : Am) (n : Nat) (qs : Nat -> List Rat) (e : Int) (L : List (Int × List Rat)) (i : Int) : LS := ⟨[wyP 64 n qs, .ptr 0 12 0 0 [], .nil, .i .i64 e, .sl 1 2 0 L.length, .i .i64 i], [some ⟨12, .vals [qk A]⟩, some ⟨2, .vals (L.map kyX)⟩]⟩
def trPa (A : Am) (T : List Rat -> List Rat -> Int) (n : Nat) (p q : List Rat) (u : Int) (c : Nat) (nx bad ex : LS) : Tr :=
 .br (decide ((c : Int) < (n : Int))) (.br (decide ((0 : Int) <= (c : Int) - 1) && decide ((c : Int) - 1 < (n : Int))) (.br (decide ((0 : Int) <= (c : Int)) && decide ((c : Int) < (n : Int))) (.br (qg (isTk A (qk A) 64 64 p q)) (.br (decide ((0 : Int) <= (c : Int) - 1) && decide ((c : Int) - 1 < (c : Int)))
  (.br (ovf (u + T p q)) (.br (decide ((2000 : Int) < u + T p q)) (.ok (.out .ret bad)) (.br (decide ((0 : Int) <= (c : Int) - 1) && decide ((c : Int) - 1 < (c : Int))) (.br (ovf (u + T p q)) (.br (decide ((0 : Int) <= (c : Int)) && decide ((c : Int) < (n : Int))) (.br (gdC 64 q) (.br (Nat.ble (0 + q.length) q.length)
   (.br (Nat.ble (c + 1) 4294967296) (.ok (.out .normal nx)) (.no 1)) (.no 1)) (.no 1)) (.no 1)) (.no 1)) (.no 1))) (.no 1)) (.no 1)) (.no 1)) (.no 1)) (.no 1)) (.ok (.out (.exit 0) ex))
theorem tPa (A : Am) (T : List Rat -> List Rat -> Int) (n : Nat) (qs : Nat -> List Rat) : ∀ L : List (Int × List Rat), 1 <= L.length -> L.length <= 5 -> (qe prog (RPa A T) [] polPa f48.ntmps 0 [1, 3, 6, 7, 10, 11] bPa (stPa A n qs 0 L L.length)).run =
  (trPa A T n (qs (L.length - 1)) (qs L.length) (L.getLastD (0, [])).1 L.length (stPa A n qs 0 (L ++ [((L.getLastD (0, [])).1 + T (qs (L.length - 1)) (qs L.length), List.take (qs L.length).length (List.drop 0 (qs L.length)))]) ((L.length : Int) + 1)) (stPa A n qs 19 L L.length) (stPa A n qs 0 L L.length)).run
 | [], h, _ => absurd h (Nat.not_succ_le_zero 0)
 | [a], _, _ => by kernel_rfl
 | [a, b], _, _ => by kernel_rfl
 | [a, b, c], _, _ => by kernel_rfl
 | [a, b, c, d], _, _ => by kernel_rfl
 | [a, b, c, d, e], _, _ => by kernel_rfl
 | _ :: _ :: _ :: _ :: _ :: _ ::  _, _, h => by simp only [kJ] at h; omega
def OPa (A : Am) (T : List Rat -> List Rat -> Int) : Orc := [(91, cst [qk A] True (.i .i64 0)), (92, vFt A), (93, c70), (94, vTk A T)]
def trPe (A : Am) (n : Nat) (qs : Nat -> List Rat) (s : Int) (L : List (Int × List Rat)) : Tr :=
 .br (qg (isA [qk A] True [qk A])) (.br (decide ((n : Int) = 0)) (.ok (.ret (.tup [.nil, .i .i64 14]) [])) (.br (decide ((60 : Int) < (n : Int))) (.ok (.ret (.tup [.nil, .i .i64 2]) [])) (.br (decide (s < 0)) (.ok (.ret (.tup [.nil, .i .i64 1]) [])) (.br (decide ((2000 : Int) < s)) (.ok (.ret (.tup [.nil, .i .i64 1]) []))
  (.br (decide ((0 : Int) <= 0) && decide ((0 : Int) < (n : Int))) (.br (qg (isFt A (qk A) 64 (qs 0))) (.br (decide ((0 : Int) <= 0) && decide ((0 : Int) < (n : Int))) (.br (gdC 64 (qs 0)) (.br (Nat.ble (0 + (qs 0).length) (qs 0).length)
   (.br (qg (isLS (stPa A n qs 0 [(s, List.take (qs 0).length (List.drop 0 (qs 0)))] 1) (stPa A n qs 0 [(s, List.take (qs 0).length (List.drop 0 (qs 0)))] 1))) (.ok (.ret (.tup [.fr 2 (.vals (L.map kyX)), .i .i64 0]) [])) (.no 1)) (.no 1)) (.no 1)) (.no 1)) (.no 1)) (.no 1)))))) (.no 1)
theorem ePa (A : Am) (T : List Rat -> List Rat -> Int) (n : Nat) (qs : Nat -> List Rat) (s : Int) : ∀ L : List (Int × List Rat), 1 <= L.length -> L.length <= 5 -> (evF prog (OPa A T) [(15, lcst (stPa A n qs 0 [(s, List.take (qs 0).length (List.drop 0 (qs 0)))] 1) (.exit 0) (stPa A n qs 0 L n))] polPa f48 [qk A, wyP 64 n qs, .i .i64 s] [] qo).run = (trPe A n qs s L).run
 | [], h, _ => absurd h (Nat.not_succ_le_zero 0)
 | [a], _, _ => by kernel_rfl
 | [a, b], _, _ => by kernel_rfl
 | [a, b, c], _, _ => by kernel_rfl
 | [a, b, c, d], _, _ => by kernel_rfl
 | [a, b, c, d, e], _, _ => by kernel_rfl
 | _ :: _ :: _ :: _ :: _ :: _ ::  _, _, h => by simp only [kJ] at h; omega
def tkP (T : List Rat -> List Rat -> Int) (qs : Nat -> List Rat) (s : Int) : Nat -> Int
 | 0 => s
 | i + 1 => tkP T qs s i + T (qs i) (qs (i + 1))
def paL (T : List Rat -> List Rat -> Int) (qs : Nat -> List Rat) (s : Int) (i : Nat) : List (Int × List Rat) := (List.range i).map fun j => (tkP T qs s j, qs j)
theorem paL_len (T : List Rat -> List Rat -> Int) (qs : Nat -> List Rat) (s : Int) (i : Nat) : (paL T qs s i).length = i := by simp [paL]
theorem paL_succ (T : List Rat -> List Rat -> Int) (qs : Nat -> List Rat) (s : Int) (i : Nat) : paL T qs s (i + 1) = paL T qs s i ++ [(tkP T qs s i, qs i)] := by simp [paL, List.range_succ]
theorem tkP_le {A : Am} (hL : armL A) {qs : Nat -> List Rat} (hq : ∀ j, fitB A (qs j) = true) (s : Int) : ∀ i : Nat, s + i <= tkP (tkT A) qs s i /\ tkP (tkT A) qs s i <= s + 44 * i
 | 0 => ⟨by show s + (0 : Nat) <= s; omega, by show s <= s + 44 * ((0 : Nat) : Int); omega⟩
 | i + 1 => by
  have ih := tkP_le hL hq s i
  obtain ⟨a, b, -, -⟩ := tkF_bd hL (hq i) (hq (i + 1)) A.n (Nat.le_refl _)
  have a' : 1 <= tkT A (qs i) (qs (i + 1)) := a
  have b' : tkT A (qs i) (qs (i + 1)) <= 44 := b
  rw [tkP]
  omega
include hG in
theorem pcPa (hT : TabG G) (A : Am) (hA : armB A = true) (hL : armL A) (n : Nat) (h1 : 1 <= n) (h5 : n <= 5) (qs : Nat -> List Rat) (hl : ∀ j, (qs j).length = A.n) (hq : ∀ j, fitB A (qs j) = true) (s : Int) (s0 : 0 <= s) (s1 : s <= 100) :
  PC prog G 48 [qk A, wyP 64 n qs, .i .i64 s] [] (.tup [.fr 2 (.vals ((paL (tkT A) qs s n).map kyX)), .i .i64 0]) [] := by
 obtain ⟨a1, a2, a3, a4, k1, k3, a7⟩ := armB_c hA
 have oc : OrcOK prog G (RPa A (tkT A)) := .cons (ckTg hG hT) (.cons (vkTk hG hT A hA hL) .nil)
 have gd : ∀ j, gdC 64 (qs j) = true := fun j => by
  have := hl j
  simp only [gdC, kE, kI]
  omega
 have g := Goes.count (R := Rnd prog G f48.ntmps 0 [1, 3, 6, 7, 10, 11] bPa) (fun i => stPa A n qs 0 (paL (tkT A) qs s (i + 1)) ((i + 1 : Nat) : Int)) (e := .exit 0) (ls' := stPa A n qs 0 (paL (tkT A) qs s n) n) (by simp) (n - 1) 0
  (fun i _ hi => by
   have e := tPa A (tkT A) n qs (paL (tkT A) qs s (i + 1)) (by rw [paL_len]; omega) (by rw [paL_len]; omega)
   have el : ((paL (tkT A) qs s (i + 1)).getLastD (0, [])).1 = tkP (tkT A) qs s i := by rw [paL_succ]; simp
   rw [paL_len, el, show i + 1 - 1 = i by omega, List.drop_zero, List.take_length] at e
   refine qb hG oc mix (L := []) (pol := polPa) (kD (by kernel_rfl)) (by simp [stPa]) (e.trans ?_)
   have b := tkP_le hL hq s i
   have b2 := tkP_le hL hq s (i + 1)
   have b3 : tkP (tkT A) qs s (i + 1) = tkP (tkT A) qs s i + tkT A (qs i) (qs (i + 1)) := rfl
   unfold trPa
   rw [k5 (kG (by omega)), k5 (by simp only [kE, kF]; omega), k5 (by simp only [kE, kF]; omega), k5 (decP_iff.2 (show isTk A _ _ _ _ _ from ⟨rfl, rfl, by omega, hq _, hq _, hl _, hl _⟩)), k5 (by simp only [kE, kF]; omega),
    k5 (by simp only [ovf, kE, kF]; omega), k6 (kH (by omega)), k5 (by simp only [kE, kF]; omega), k5 (by simp only [ovf, kE, kF]; omega), k5 (by simp only [kE, kF]; omega),
    k5 (gd _), k5 (by rw [kI]; omega), k5 (by rw [kI]; omega), k7, paL_succ (tkT A) qs s (i + 1)]
   rfl)
  (by
   have e := tPa A (tkT A) n qs (paL (tkT A) qs s n) (by rw [paL_len]; omega) (by rw [paL_len]; omega)
   rw [paL_len] at e
   rw [Nat.zero_add, show n - 1 + 1 = n by omega]
   refine qb hG oc mix (L := []) (pol := polPa) (kD (by kernel_rfl)) (by simp [stPa]) (e.trans ?_)
   unfold trPa
   rw [k6 (kH (by omega)), k7])
 have g0 : Goes (Rnd prog G f48.ntmps 0 [1, 3, 6, 7, 10, 11] bPa) (stPa A n qs 0 [(s, List.take (qs 0).length (List.drop 0 (qs 0)))] 1) (.exit 0) (stPa A n qs 0 (paL (tkT A) qs s n) n) := by
  rw [List.drop_zero, List.take_length]
  exact g
 refine qp hG (.cons (cst_t (pc91 hG A hA)) (.cons (vkFt hG hT A hA) (.cons (ckTg hG hT) (.cons (vkTk hG hT A hA hL) .nil)))) mix enPa (hs := []) (pol := polPa) (L := [(15, lcst (stPa A n qs 0 [(s, List.take (qs 0).length (List.drop 0 (qs 0)))] 1) (.exit 0) (stPa A n qs 0 (paL (tkT A) qs s n) n))])
  (lps1 (b := bPa) (live := [1, 3, 6, 7, 10, 11]) (m := 0) (by kernel_rfl) (by kernel_rfl) (by kernel_rfl) (lcst_ok g0)) ((ePa A (tkT A) n qs s _ (by rw [paL_len]; omega) (by rw [paL_len]; omega)).trans ?_)
 unfold trPe
 rw [k5 (decP_iff.2 ⟨rfl, trivial⟩), k6 (kH (by omega)), k6 (kH (by omega)), k6 (kH (by omega)), k6 (kH (by omega)), k5 (by simp only [kE, kF]; omega),
  k5 (decP_iff.2 (show isFt A _ _ _ from ⟨rfl, by omega, hq 0, hl 0⟩)), k5 (by simp only [kE, kF]; omega), k5 (gd 0), k5 (by rw [kI]; omega), k5 isLS_t, k7]
end
section
open Go
set_option maxRecDepth 100000
section
variable {m n : Nat} {tk : Nat -> Int} {qs : Nat -> List Rat} (h : TrC m n tk qs)
include h
theorem at_key {i : Nat} (hi : i < n) : at17 m n tk qs (tk i) = qs i := by
 rcases Nat.lt_or_ge (i + 1) n with g | g
 ·rw [at_seg h g (Int.le_refl _) (by have := h.inc i g; omega), show ((tk i : Rat) - (tk i : Rat)) = 0 by grind, Rat.div_def, Rat.zero_mul, parL_0 (h.len i hi)]
 ·rw [show i = n - 1 by omega]
  exact at_hi h (Int.le_refl _)
end
end
section
open Go Tryd
set_option maxRecDepth 100000
variable {G : World -> (Nat -> Prop) -> Prop} (hG : GOk G)
theorem enTd : Enters prog 47 f47 (qd f47) := ⟨func47, by kernel_rfl, rfl⟩
theorem enTF : Enters prog 9 f9 (qd f9) := ⟨func9, by kernel_rfl, rfl⟩
def tdQ : Nat -> List Rat
 | 1 => [mkRat 2 1]
 | _ => [mkRat 0 1]
def OTd (S : Am) (wa : PV) (t u : Int) (p q : List Rat) : Orc := [(27, cst [.lst 1 (.ints .i64 [3])] True (armFr S)), (28, s23), (48, cst [qk S, wa, .i .i64 5] True (.tup [.fr 2 (.vals [kyPV 129 t p, kyPV 129 u q]), .i .i64 0]))]
theorem eTd (S : Am) (wa : PV) (t u : Int) (p q : List Rat) : (evF prog (OTd S wa t u p q) [] {} f47 [] [] qo).run =
  (Tr.br (qg (isA [.lst 1 (.ints .i64 [3])] True [.lst 1 (.ints .i64 [3])])) (.br (Nat.ble (0 + S.n) S.n) (.br (qg (isA [qk S, wa, .i .i64 5] True [qk S, .lst 1 (.vals [wyE 64 [mkRat 0 1], wyE 64 [mkRat 2 1]]), .i .i64 5])) (.ok (.ret (.b (decide (u = 13))) [])) (.no 1)) (.no 1)) (.no 1)).run := by kernel_rfl
theorem armL_3 : armL (Asam [3]) := fun j => ⟨show (-2 : Rat) <= mkRat (-2) 1 by decide +kernel, show mkRat 2 1 <= (2 : Rat) by decide +kernel, show (1 : Rat) <= 11 * mkRat 1 4 by decide +kernel⟩
include hG in
theorem pcTd (hT : TabG G) : PC prog G 47 [] [] (.bl true) [] := by
 have hn : (Asam [3]).n = 1 := rfl
 have p := pcPa hG hT (Asam [3]) armB_3 armL_3 2 (by omega) (by omega) tdQ (fun j => by unfold tdQ; split <;> rfl) (fun j => by unfold tdQ; split <;> kernel_rfl) 5 (by omega) (by omega)
 have p' : PC prog G 48 [qk (Asam [3]), .lst 1 (.vals [wyE 64 [mkRat 0 1], wyE 64 [mkRat 2 1]]), .i .i64 5] [] _ [] := PC.args (args' := [qk (Asam [3]), wyP 64 2 tdQ, .i .i64 5]) (.cons (.refl _) (.cons (VLe.lst (c := .vals [wyE 64 [mkRat 0 1], wyE 64 [mkRat 2 1]]) (d := .fn 2 (fun j => wyE 64 (tdQ j))) rfl fun i hi => by
  have hi' : i < 2 := hi
  have : i = 0 \/ i = 1 := by omega
  rcases this with rfl | rfl <;> exact .refl _) (.cons (.refl _) .nil))) p
 have hv : tkP (tkT (Asam [3])) tdQ 5 1 = 13 := by kernel_rfl
 refine (qp (r := .b true) hG (.cons (cst_t (sam3 hG)) (.cons (ok23 hG) (.cons (cst_t p') .nil))) mix enTd (hs := []) (L := []) (pol := {}) (kD (by kernel_rfl)) ((eTd (Asam [3]) _ _ _ _ _).trans ?_)).le (rle_b rfl) (.refl _)
 rw [k5 (decP_iff.2 ⟨rfl, trivial⟩), k5 (by rw [kI, Nat.zero_add]; exact Nat.le_refl _), k5 (decP_iff.2 ⟨rfl, trivial⟩), k7, kG hv]
def bTF : Code := (qh (qd f9)).getD 0 .skip
def polTF : Pol := { live := [(9, [3, 8, 9, 10, 11, 46, 47, 48])] }
def isAt (t0 a : PV) (t : Int) : Prop := a = t0 /\ -100000 <= t /\ t <= 100000
def vAtF (t0 : PV) (R : Int -> List Rat) : Spec := fun args hs K => match args, hs with
 | [a, .i .i64 t], [] => .br (qg (isAt t0 a t)) (K (.fr 3 (.rats 900 (R t))) []) (.no 1)
 | _, _ => .no 1
def vCkF (P1 : PV -> Nat -> (Nat -> PV) -> Prop) (P2 : PV -> List PV -> Prop) : Spec := fun args hs K => match args, hs with
 | [a, .lst 2 (.fn n f)], [] => .br (qg (P1 a n f)) (K (.i .i64 0) []) (.no 1)
 | [a, .lst 2 (.vals xs)], [] => .br (qg (P2 a xs)) (K (.i .i64 19) []) (.no 1)
 | _, _ => .no 1
def RTF (t0 : PV) (R : Int -> List Rat) : Orc := [(15, vAtF t0 R), (17, c19)]
def stTF (A : Am) (x : Int) (n : Nat) (tk : Nat -> Int) (qs : Nat -> List Rat) (i : Int) : LS := ⟨[.i .i64 x, .bl false, .ptr 0 12 0 0 [], wyP 64 n qs, trC 129 n tk qs, trC 129 n tk qs, .i .i64 n, .i .i64 i], [some ⟨12, .vals [qk A]⟩]⟩
def tk9 (p : List Rat) : List Rat := List.take p.length (List.drop 0 p)
theorem tTF (A : Am) (x : Int) (n : Nat) (tk : Nat -> Int) (qs : Nat -> List Rat) (R : Int -> List Rat) (i : Int) : (qe prog (RTF (trC 129 n tk qs) R) [] polTF f9.ntmps 0 [3, 8, 9, 10, 11, 46, 47, 48] bTF (stTF A x n tk qs i)).run =
  (Tr.br (decide (i < (n : Int))) (.br (ix (i) ((n : Int))) (.br (ix (i) ((n : Int))) (eqC (qs i.toNat) (qs i.toNat) (.br (qg (isAt (trC 129 n tk qs) (trC 129 n tk qs) (tk i.toNat))) (.br (Nat.ble (0 + (R (tk i.toNat)).length) (R (tk i.toNat)).length) (.br (ix (i) ((n : Int))) (eqC (tk9 (R (tk i.toNat))) (qs i.toNat) (.br (ovf (i + 1)) (.ok (.out .normal (stTF A x n tk qs (i + 1)))) (.no 1)) (.ok (.out .ret (stTF A x n tk qs i)))) (.no 1)) (.no 1)) (.no 1)) (.ok (.out .ret (stTF A x n tk qs i)))) (.no 1)) (.no 1)) (.ok (.out (.exit 0) (stTF A x n tk qs i)))).run := by kernel_rfl
def OTF (l m : PV) (A : Am) (s : Int) (n : Nat) (tk : Nat -> Int) (qs : Nat -> List Rat) (P1 : PV -> Nat -> (Nat -> PV) -> Prop) (P2 : PV -> List PV -> Prop) : Orc :=
 [(13, cst [.w l] True (armFr A)), (21, cst [qk A, .w m] True (.fr 1 (.fn n (fun j => wyE 64 (qs j))))), (47, cst [] True (.bl true)), (48, cst [qk A, wyP 64 n qs, .i .i64 s] True (.tup [.fr 2 (.fn n (fun j => kyPV 129 (tk j) (qs j))), .i .i64 0])), (49, s24), (50, vCkF P1 P2)]
def trTF (A : Am) (n : Nat) (i : Int) (tk : Nat -> Int) (qs : Nat -> List Rat) (P2 : PV -> List PV -> Prop) : Tr :=
 .br (decide (i = 0)) (.ok (.ret (.bl true) [])) (.br (decide ((0 : Int) <= i) && decide (i < (n : Int))) (.br (ovf (i - 1)) (.br (decide ((0 : Int) <= i - 1) && decide (i - 1 < (n : Int))) (.br (ovf (tk (i - 1).toNat + 1))
  (.br (decide (tk i.toNat = tk (i - 1).toNat + 1)) (.ok (.ret (.bl true) [])) (.br (ovf (i - 1)) (.br (decide ((0 : Int) <= i - 1) && decide (i - 1 < (n : Int))) (.br (decide ((0 : Int) <= i) && decide (i < (n : Int))) (.br (ovf (tk i.toNat - 1)) (.br (decide ((0 : Int) <= i) && decide (i < (n : Int)))
   (.br (qg (P2 (qk A) [kyPV 129 (tk (i - 1).toNat) (qs (i - 1).toNat), kyPV 129 (tk i.toNat - 1) (qs i.toNat)])) (.ok (.ret (.b (decide ((19 : Int) = 19))) [])) (.no 1)) (.no 1)) (.no 1)) (.no 1)) (.no 1)) (.no 1))) (.no 1)) (.no 1)) (.no 1)) (.no 1))
theorem eTF (l m : PV) (A : Am) (fr x s : Int) (n : Nat) (tk : Nat -> Int) (qs : Nat -> List Rat) (P1 : PV -> Nat -> (Nat -> PV) -> Prop) (P2 : PV -> List PV -> Prop) : (evF prog (OTF l m A s n tk qs P1 P2) [(9, lcst (stTF A x n tk qs 0) (.exit 0) (stTF A x n tk qs n))] polTF f9 [.w l, .w m, .i .i64 fr, .i .i64 x] [] qo).run =
  (Tr.br (qg (isA [] True [])) (.br (qg (isA [l.w] True [l.w])) (.br (Nat.ble (0 + A.n) A.n) (.br (qg (isA [qk A, m.w] True [qk A, m.w])) (.br (Nat.ble (0 + n) n) (.br (qg (isA [qk A, wyP 64 n qs, .i .i64 s] True [qk A, wyP 64 n qs, .i .i64 (fr % 100)])) (.br (Nat.ble (0 + n) n) (.br (!decide ((n : Int) = (n : Int))) (.ok (.ret (.bl false) [])) (.br (qg (P1 (qk A) n (fun j => kyPV 129 (tk j) (qs j)))) (.br (qg (isLS (stTF A x n tk qs 0) (stTF A x n tk qs 0))) (.br (decide ((0 : Int) < (n : Int)) && decide ((n : Int) <= 4294967296)) (trTF A n (x % (n : Int)) tk qs P2) (.no 1)) (.no 1)) (.no 1))) (.no 1)) (.no 1)) (.no 1)) (.no 1)) (.no 1)) (.no 1)) (.no 1)).run := by kernel_rfl
def isP1 (A : Am) (n : Nat) (tk : Nat -> Int) (qs : Nat -> List Rat) (a : PV) (k : Nat) (f : Nat -> PV) : Prop := a = qk A /\ k = n /\ f = (fun j => kyPV 129 (tk j) (qs j))
def isP2 (A : Am) (n : Nat) (tk : Nat -> Int) (qs : Nat -> List Rat) (a : PV) (xs : List PV) : Prop := a = qk A /\ ∃ i : Nat, i + 1 < n /\ 1 < tkT A (qs i) (qs (i + 1)) /\ xs = [kyPV 129 (tk i) (qs i), kyPV 129 (tk (i + 1) - 1) (qs (i + 1))]
include hG in
theorem vkAtF (hT : TabG G) {m n : Nat} {tk : Nat -> Int} {qs : Nat -> List Rat} (h : TrC m n tk qs) : qc prog G 15 (vAtF (trC 129 n tk qs) (at17 m n tk qs)) := by
 intro args hs K x hh
 unfold vAtF at hh
 split at hh
 case h_2 => cases hh
 obtain ⟨hc, hr⟩ := kA hh
 obtain ⟨rfl, h0, h9⟩ := decP_iff.1 hc
 exact ⟨_, _, (pc17 hG hT 129 (by omega) h _ h0 h9).le (frrats_le 3 _ (by unfold segW; omega)) (.refl _), hr⟩
include hG in
theorem vkCkF (hT : TabG G) (A : Am) (hA : armB A = true) (hL : armL A) (n : Nat) (h1 : 1 <= n) (h5 : n <= 5) (qs : Nat -> List Rat) (hl : ∀ j, (qs j).length = A.n) (hq : ∀ j, fitB A (qs j) = true) (s : Int) (s0 : 0 <= s) (s1 : s <= 100) :
  qc prog G 50 (vCkF (isP1 A n (tkP (tkT A) qs s) qs) (isP2 A n (tkP (tkT A) qs s) qs)) := by
 have bd := tkP_le hL hq s
 have ge1 : ∀ i, 1 <= tkT A (qs i) (qs (i + 1)) := fun i => (tkF_bd hL (hq i) (hq (i + 1)) A.n (Nat.le_refl _)).1
 have st : ∀ i, tkP (tkT A) qs s (i + 1) = tkP (tkT A) qs s i + tkT A (qs i) (qs (i + 1)) := fun i => rfl
 intro args hs K x hh
 unfold vCkF at hh
 split at hh
 case h_3 => cases hh
 ·obtain ⟨hc, hr⟩ := kA hh
  obtain ⟨rfl, rfl, rfl⟩ := decP_iff.1 hc
  have p := pc58 hG hT A hA 129 (by omega) _ h1 (by omega) (tkP (tkT A) qs s) qs (fun j _ => hl j) (fun j hj => by have := bd j; omega)
  rw [ck_zero (fun j hj => by have := bd j; exact ⟨by omega, by omega, hq j⟩) (fun j _ => by
   have := ge1 j
   have e := st j
   exact ⟨by omega, by rw [e, show ∀ a b : Int, a + b - a = b from fun a b => by omega]; exact (tk_slow hL (hq j) (hq (j + 1))).1⟩)] at p
  exact ⟨_, _, p, hr⟩
 ·obtain ⟨hc, hr⟩ := kA hh
  obtain ⟨rfl, i, hi, ht, rfl⟩ := decP_iff.1 hc
  have b0 := bd i
  have b1 := bd (i + 1)
  have e := st i
  generalize hta : tkP (tkT A) qs s i = ta at *
  generalize htb : tkP (tkT A) qs s (i + 1) = tb at *
  have p := pc58 hG hT A hA 129 (by omega) 2 (by omega) (by omega) (fun j => if j = 0 then ta else tb - 1) (fun j => if j = 0 then qs i else qs (i + 1)) (fun j hj => by show (if j = 0 then _ else _ : List Rat).length = _; split <;> exact hl _) (fun j hj => by show _ <= (if j = 0 then ta else tb - 1) /\ (if j = 0 then ta else tb - 1) <= _; split <;> omega)
  have hck0 : ck1 A (fun j => if j = 0 then ta else tb - 1) (fun j => if j = 0 then qs i else qs (i + 1)) 0 = 0 := by
   unfold ck1
   simp only [if_true]
   rw [if_neg (by omega), if_neg (by rw [hq i]; decide)]
  have hck1 : ck1 A (fun j => if j = 0 then ta else tb - 1) (fun j => if j = 0 then qs i else qs (i + 1)) 1 = 19 := by
   unfold ck1
   simp only [show (1 : Nat) - 1 = 0 from rfl, if_true, show ((1 : Nat) = 0) = False from by simp, if_false]
   rw [if_neg (by omega), if_neg (by rw [hq (i + 1)]; decide), if_neg (by omega), show tb - 1 - ta = tkT A (qs i) (qs (i + 1)) - 1 by omega, if_pos ((tk_slow hL (hq i) (hq (i + 1))).2 ht)]
  have hR : ckR A 2 (fun j => if j = 0 then ta else tb - 1) (fun j => if j = 0 then qs i else qs (i + 1)) = 19 := by
   have k0 : ckB A (fun j => if j = 0 then ta else tb - 1) (fun j => if j = 0 then qs i else qs (i + 1)) 0 = true := kG hck0
   have k1 : ckB A (fun j => if j = 0 then ta else tb - 1) (fun j => if j = 0 then qs i else qs (i + 1)) 1 = false := kH (by rw [hck1]; decide)
   unfold ckR
   have hall : ¬ (List.range 2).all (ckB A (fun j => if j = 0 then ta else tb - 1) (fun j => if j = 0 then qs i else qs (i + 1))) = true := fun h => by
    have := List.all_eq_true.1 h 1 (by decide)
    rw [k1] at this
    cases this
   rw [if_neg hall]
   have hf : fbad (ckB A (fun j => if j = 0 then ta else tb - 1) (fun j => if j = 0 then qs i else qs (i + 1))) 2 0 = 1 := by
    simp only [fbad, k0, k1]
   rw [hf, hck1]
  rw [hR] at p
  refine ⟨_, _, PC.args (args' := [qk A, trC 129 2 (fun j => if j = 0 then ta else tb - 1) (fun j => if j = 0 then qs i else qs (i + 1))]) (.cons (.refl _) (.cons (VLe.lst (c := .vals [kyPV 129 ta (qs i), kyPV 129 (tb - 1) (qs (i + 1))]) (d := .fn 2 (fun j => kyPV 129 (if j = 0 then ta else tb - 1) (if j = 0 then qs i else qs (i + 1)))) rfl fun j hj => ?_) .nil)) p, hr⟩
  have hj' : j < 2 := hj
  have : j = 0 \/ j = 1 := by omega
  rcases this with rfl | rfl <;> exact .refl _
include hG in
theorem lawTF (hT : TabG G) (l m : PV) (fr x : Int) (hl : okW l = true) (hm : okW m = true) : PC prog G 9 [.w l, .w m, .i .i64 fr, .i .i64 x] [] (.bl true) [] := by
 have hA := armB_V l
 have hX := limX_V l
 have hL := armL_V l
 have p13 : PC prog G 13 [.w l] [] (armFr (armD l)) [] := by
  obtain ⟨r, hs', p, e⟩ := ok15 hG [.w l] [] (fun r hs' => .ok (.ret r hs')) (.ret (armFr (armD l)) []) (by show (Tr.br _ _ _).run = _; rw [k5 hl]; rfl)
  cases e
  exact p
 generalize armD l = A at *
 obtain ⟨a1, a2, a3, a4, k1, k3, a7⟩ := armB_c hA
 obtain ⟨r0, r1⟩ := qw m (show (0 : Int) < 5 by omega)
 have hn1 : 1 <= wayN m /\ wayN m <= 5 := by unfold wayN; omega
 have hq : ∀ j, (wayQ A m j).length = A.n := fun j => cfL_len _ _ _
 have hf : ∀ j, fitB A (wayQ A m j) = true := fun j => cfL_fit hA
 have p21 := pcWyF hG A hA hX m hm
 generalize wayN m = n at *
 generalize wayQ A m = qs at *
 obtain ⟨h1, h5⟩ := hn1
 have s0 : 0 <= fr % 100 := by omega
 have s1 : fr % 100 <= 100 := by omega
 generalize hs : fr % 100 = s at *
 have bd := tkP_le hL hf s
 have ge1 : ∀ i, 1 <= tkT A (qs i) (qs (i + 1)) := fun i => (tkF_bd hL (hf i) (hf (i + 1)) A.n (Nat.le_refl _)).1
 have st : ∀ i, tkP (tkT A) qs s (i + 1) = tkP (tkT A) qs s i + tkT A (qs i) (qs (i + 1)) := fun i => rfl
 have p48 : PC prog G 48 [qk A, wyP 64 n qs, .i .i64 s] [] (.tup [.fr 2 (.fn n (fun j => kyPV 129 (tkP (tkT A) qs s j) (qs j))), .i .i64 0]) [] := (pcPa hG hT A hA hL n h1 h5 qs hq hf s s0 s1).le (frs_le0 2 n _ _ (by rw [List.length_map, paL_len]) fun i v hi => by
  rw [List.getElem?_map, paL, List.getElem?_map] at hi
  rcases Nat.lt_or_ge i n with g | g
  ·rw [List.getElem?_range g] at hi
   obtain rfl := Option.some.inj hi
   exact ⟨rfl, .refl _⟩
  ·rw [List.getElem?_eq_none (by simpa using g)] at hi
   cases hi) (.refl _)
 have v50 := vkCkF hG hT A hA hL n h1 h5 qs hq hf s s0 s1
 have hTr : TrC A.n n (tkP (tkT A) qs s) qs := ⟨h1, by omega, k1, k3, fun j _ => hq j, fun j hj => by have := bd j; omega, fun j _ => by have := ge1 j; have e := st j; omega⟩
 have v15 := vkAtF hG hT hTr
 generalize tkP (tkT A) qs s = tk at *
 have oc : OrcOK prog G (RTF (trC 129 n tk qs) (at17 A.n n tk qs)) := .cons v15 (.cons (ck19 hG) .nil)
 have g := Goes.count (R := Rnd prog G f9.ntmps 0 [3, 8, 9, 10, 11, 46, 47, 48] bTF) (fun i => stTF A x n tk qs ((i : Nat) : Int)) (e := .exit 0) (ls' := stTF A x n tk qs n) (by simp) n 0
  (fun i _ hi => by
   have hk : at17 A.n n tk qs (tk i) = qs i := at_key hTr (by omega)
   have hb := bd i
   refine qb hG oc mix (L := []) (pol := polTF) (kD (by kernel_rfl)) (by simp [stTF]) ((tTF A x n tk qs (at17 A.n n tk qs) _).trans ?_)
   rw [Int.toNat_natCast, hk, k5 (kG (by omega)), k5 (by simp only [kE, kF]; omega), k5 (by simp only [kE, kF]; omega), eqC_t rfl (by rw [hq]; omega),
    k5 (decP_iff.2 (show isAt _ _ _ from ⟨rfl, by omega, by omega⟩)), k5 (by rw [kI]; omega), k5 (by simp only [kE, kF]; omega), eqC_t (by rw [tk9, List.drop_zero, List.take_length]) (by rw [tk9, List.drop_zero, List.take_length, hq]; omega),
    k5 (by simp only [ovf, kE, kF]; omega), k7]
   rfl)
  (by
   refine qb hG oc mix (L := []) (pol := polTF) (kD (by kernel_rfl)) (by simp [stTF]) ((tTF A x n tk qs (at17 A.n n tk qs) _).trans ?_)
   rw [Nat.zero_add, k6 (kH (by omega)), k7])
 have i0 : 0 <= x % (n : Int) := Int.emod_nonneg _ (by omega)
 have i1 : x % (n : Int) < n := Int.emod_lt_of_pos _ (by omega)
 have key : (evF prog (OTF l m A s n tk qs (isP1 A n tk qs) (isP2 A n tk qs)) [(9, lcst (stTF A x n tk qs 0) (.exit 0) (stTF A x n tk qs n))] polTF f9 [.w l, .w m, .i .i64 fr, .i .i64 x] [] qo).run = some (.ret (.bl true) []) \/
   (evF prog (OTF l m A s n tk qs (isP1 A n tk qs) (isP2 A n tk qs)) [(9, lcst (stTF A x n tk qs 0) (.exit 0) (stTF A x n tk qs n))] polTF f9 [.w l, .w m, .i .i64 fr, .i .i64 x] [] qo).run = some (.ret (.b true) []) := by
  rw [eTF, hs, k5 (decP_iff.2 ⟨rfl, trivial⟩), k5 (decP_iff.2 ⟨rfl, trivial⟩), k5 (by rw [kI]; omega), k5 (decP_iff.2 ⟨rfl, trivial⟩), k5 (by rw [kI]; omega), k5 (decP_iff.2 ⟨rfl, trivial⟩), k5 (by rw [kI]; omega),
   k6 (by rw [kG rfl]; rfl), k5 (decP_iff.2 (show isP1 A n tk qs _ _ _ from ⟨rfl, rfl, rfl⟩)), k5 isLS_t, k5 (by simp only [kE, kF]; omega)]
  generalize x % (n : Int) = i at *
  unfold trTF
  by_cases hz : i = 0
  ·rw [k5 (kG hz)]
   exact .inl rfl
  ·obtain ⟨k, rfl⟩ : ∃ k : Nat, i = ((k + 1 : Nat) : Int) := ⟨(i - 1).toNat, by omega⟩
   have e1 : (((k + 1 : Nat) : Int) - 1).toNat = k := by omega
   have b0 := bd k
   have b1 := bd (k + 1)
   have e := st k
   rw [e1, Int.toNat_natCast, k6 (kH hz), k5 (by simp only [kE, kF]; omega), k5 (by simp only [ovf, kE, kF]; omega), k5 (by simp only [kE, kF]; omega), k5 (by simp only [ovf, kE, kF]; omega)]
   by_cases h1t : tk (k + 1) = tk k + 1
   ·rw [k5 (kG h1t)]
    exact .inl rfl
   ·have g1 := ge1 k
    have hp2 : isP2 A n tk qs (qk A) [kyPV 129 (tk k) (qs k), kyPV 129 (tk (k + 1) - 1) (qs (k + 1))] := ⟨rfl, k, by omega, by omega, rfl⟩
    rw [k6 (kH h1t), k5 (by simp only [ovf, kE, kF]; omega), k5 (by simp only [kE, kF]; omega), k5 (by simp only [kE, kF]; omega), k5 (by simp only [ovf, kE, kF]; omega), k5 (by simp only [kE, kF]; omega), k5 (decP_iff.2 hp2)]
    exact .inr rfl
 have oc2 : OrcOK prog G (OTF l m A s n tk qs (isP1 A n tk qs) (isP2 A n tk qs)) := .cons (cst_t p13) (.cons (cst_t p21) (.cons (cst_t (pcTd hG hT)) (.cons (cst_t p48) (.cons (ok24 hG) (.cons v50 .nil)))))
 have lo : LpsOK prog G polTF f9.ntmps 0 [(9, lcst (stTF A x n tk qs 0) (.exit 0) (stTF A x n tk qs n))] (qd f9) := lps1 (b := bTF) (live := [3, 8, 9, 10, 11, 46, 47, 48]) (by kernel_rfl) (by kernel_rfl) (by kernel_rfl) (lcst_ok g)
 rcases key with h | h
 ·exact qp hG oc2 mix enTF (hs := []) (pol := polTF) lo h
 ·exact (qp hG oc2 mix enTF (hs := []) (pol := polTF) lo h).le (rle_b rfl) (.refl _)
end
section
open Go
theorem calls_of_does {P : Program} {g : Nat} {fn : Func} {c : Code} (hg : Enters P g fn c) {vs : Array Value} {w : World} {R : Value -> World -> Prop} (h : Does P g vs w R) : Calls P g vs w fun e w' => ∃ v, e = .returned v /\ R v w' := by
 have h1 := h { dst := some 0, op := .move (.const undef), type := 0, pos := "", after := #[], guard := none } ⟨#[undef], []⟩ (fun a w' => ∃ v, a.tmps[0]? = some v /\ R v w') (fun _ _ _ => False) (fun v w' hv => ⟨v, by simp [Act.put], hv⟩)
 have : (callFunc g vs).run P w = .ok (.enter g vs) w := by
  have hname : fn.name ≠ "runtime.NumGoroutine" := by simpa using hg.name
  simp [callFunc, hg.at_, hname, hg.body]
 rw [this, Oper.upon_enter] at h1
 refine h1.mono fun e w' he => ?_
 cases e with
 | returned v =>
  obtain ⟨v', hv, hr⟩ := he
  simp [Act.put] at hv
  subst hv
  exact ⟨v, rfl, hr⟩
 | panicked chain => exact absurd he (by simp)
 | outgrown => exact absurd he (by simp [LetsOut])
theorem HRel.none (w : World) : HRel w (fun _ => False) qF (hget (([] : List Blk).map some)) :=
 ⟨fun b k h => by simp [hget] at h, fun b k a z h => by simp [hget] at h, fun b b' k k' a z z' h => by simp [hget] at h, fun a h => h.elim⟩
theorem keptBut_of_old {w w' : World} (h1 : w'.os = w.os) (h2 : w'.output = w.output) (h3 : ∀ n, n < w.heap.size -> w'.heap[n]? = w.heap[n]?) (may : MemPlace -> Prop) : w.keptBut w' may := by
 refine ⟨h1, h2, fun i hi => ?_⟩
 rw [h3 i hi]
 split
 ·rename_i e1 e2
  rw [e1] at e2
  cases e2
  exact ⟨rfl, rfl, rfl, fun _ _ => rfl⟩
 ·rename_i e1 e2
  rw [e1] at e2
  cases e2
  exact .inr ⟨rfl, rfl⟩
 ·rfl
end
section
open Go Go.ChangeShapes Go.WideShapes
set_option maxRecDepth 100000
def blkOf : Value -> Nat -> Prop
 | .slice (some a) _ _, b => b = a.block
 | _, _ => False
section
variable {H : Type} {enc : TypeId × Value -> H} {P : Program} {w : World} {t e : TypeId} {base : Nat} {v : Value} {d : DataW H} {p : List MemPlace}
theorem arg_ints (ht : P.underlying t = some (.slice e)) (he : P.underlying e = some (.int .i64)) (hc : P.cellsOf e = 1)
  (hval : Value.okWide P w .any base t v) (h : DataW.Trod enc P w 0 (fun _ => true) true t v d p) :
  ∃ u : PV, okW u = true /\ (∀ n ∈ intsW u, -9223372036854775808 <= n /\ n <= 9223372036854775807) /\ (∀ b, blkOf v b -> b < w.heap.size) /\ (∀ S : Nat -> Prop, (∀ b, blkOf v b -> S b) -> RepV w S qF (.w u) v) /\
   (∀ w' : World, (∀ n, n < w.heap.size -> w'.heap[n]? = w.heap[n]?) -> ∃ p', DataW.Trod enc P w' 0 (fun b => decide (b < w.heap.size)) true t v d p') /\
   ((intsW u = [] /\ d = .nil) \/ ∃ sp, d = .slice (lits .i64 (intsW u)) sp) := by
 have hval' := hval
 obtain ⟨a0, len, cap, rfl⟩ := okWide_slice ht hval
 obtain ⟨fuel, hf⟩ := h
 rcases open_ints ht he hc hf with ⟨hcs, hx⟩ | ⟨a, len', cap', zs, hcs, _, hl, hm, hz, hx, hcell, hwz⟩
 ·simp [Value.cells] at hcs
  obtain ⟨rfl, rfl, rfl⟩ := hcs
  simp only [Prod.mk.injEq] at hx
  obtain ⟨rfl, rfl⟩ := hx
  refine ⟨.nil, rfl, fun n hn => (nomatch hn), fun b hb => hb.elim, fun S _ => .cell _ _ _ rfl (.w _ _ _ (.nil _)), fun w' _ => ⟨[], RowKit.shut_slice_nil ht⟩, .inl ⟨rfl, rfl⟩⟩
 ·simp [Value.cells] at hcs
  obtain ⟨rfl, rfl, rfl⟩ := hcs
  simp only [Prod.mk.injEq] at hx
  obtain ⟨rfl, rfl⟩ := hx
  simp only [if_true] at hz
  unfold Value.okWide at hval'
  rw [ht] at hval'
  simp only [Cell.okWide, Cell.ok, ht] at hval'
  obtain ⟨_, _, _, hsp, row, cells, hsh, _⟩ := hval'
  obtain ⟨b, off, spot⟩ := a
  simp only at hsp
  subst hsp
  have hb : b < w.heap.size := by
   unfold World.shape? at hsh
   split at hsh
   ·rename_i hh; exact (Array.getElem?_eq_some_iff.1 hh).1
   ·cases hsh
  have hcell' : ∀ j, j < zs.length -> w.cell? ⟨b, off + j, none⟩ = some (.int .i64 (zs.getD j 0)) := fun j hj => by rw [<- add_plain]; exact hcell j hj
  have hlen : (zs.take len).length = len := by rw [List.length_take]; omega
  refine ⟨.lst 1 (.ints .i64 (zs.take len)), rfl, fun n hn => bounds_i64 (hwz n (List.mem_of_mem_take hn)), fun c hc => (by rw [show c = b from hc]; exact hb), fun S hS => ?_, fun w' hw' => ?_, .inr ⟨_, rfl⟩⟩
  ·refine .cell _ _ _ rfl (.w _ _ _ ?_)
   have := RepC.lst (w := w) (S := S) qF 1 (.ints .i64 (zs.take len)) b off cap (fun j => [.int .i64 ((zs.take len).getD j 0)]) (by show (zs.take len).length <= cap; omega) (hS b rfl)
    (fun i hi => .i _ _ _) (fun _ _ => rfl) (fun i j hi hj => by
     have hi' : i < len := by rw [<- hlen]; exact hi
     obtain rfl : j = 0 := by omega
     show w.cell? ⟨b, off + (i * 1 + 0), none⟩ = _
     rw [Nat.mul_one, Nat.add_zero, hcell' i (by omega)]
     simp [List.getD_eq_getElem?_getD, hi'])
   rw [show (Cont.ints .i64 (zs.take len)).len = len from hlen] at this
   exact this
  ·have hd : decide (b < w.heap.size) = true := kG hb
   exact ⟨_, 2, shut_ints' (enc := enc) (w := w') (base := 0) (spare := fun b => decide (b < w.heap.size)) (held := true) (len := len) (cap := cap) (zs := zs) 0 ht he hc
    (Nat.zero_le b) hl hm (by simp only [hd, if_true]; exact hz) (fun i hi => by rw [cell_block (hw' b hb)]; exact hcell' i hi) hwz⟩
end
end
section
open Go
set_option maxRecDepth 100000
theorem calls_trueG {P : Program} {G : World -> (Nat -> Prop) -> Prop} {g : Nat} {fn : Func} {c : Code} (hg : Enters P g fn c) {args : List PV} (h : PC P G g args [] (.bl true) []) {w : World} {S : Nat -> Prop} {vs : List Value} (hw : G w S) (hS : ∀ a, S a -> a < w.heap.size)
  (hv : RepVL w S qF args vs) (may : MemPlace -> Prop) :
  Calls P g vs.toArray w fun e w' => e = .returned (.bool true) /\ w.keptBut w' may /\ ∀ n, n < w.heap.size -> w'.heap[n]? = w.heap[n]? := by
 refine (calls_of_does hg (h w S qF vs hw hv ⟨fun b k h => by simp [hget] at h, fun b k a z h => by simp [hget] at h, fun b b' k k' a z z' h => by simp [hget] at h, hS⟩ (fun _ _ => rfl))).mono fun e w' he => ?_
 obtain ⟨v, rfl, S', μ', c⟩ := he
 have hr := c.rep
 have : v = .bool true := by
  cases hr with
  | cell _ _ _ _ h => cases h; rfl
  | agg _ _ _ hv h => simp [isAgg, unfr, unfrA, unfr1] at hv
 subst this
 have old : ∀ n, n < w.heap.size -> w'.heap[n]? = w.heap[n]? := fun n hn => c.old n hn (fun b z hb => by simp at hb)
 exact ⟨rfl, keptBut_of_old c.os c.output old may, old⟩
def TG (w : World) (S : Nat -> Prop) : Prop := S 1 /\ Go.Proofs.TabAt 1 Go.Lib.deBruijn64tab w
theorem tg_ok : GOk TG := fun _ _ _ _ m h => ⟨m.sub 1 h.1, fun j hj => (m.cell 1 h.1 j).trans (h.2 j hj)⟩
theorem tg_tab : TabG TG := fun _ _ h => h.2
theorem tab_block {w : World} (h : Go.Proofs.TabAt 1 Go.Lib.deBruijn64tab w) : 1 < w.heap.size := by
 have h0 := h 0 (by decide)
 rcases Nat.lt_or_ge 1 w.heap.size with h1 | h1
 ·exact h1
 ·unfold World.cell? at h0
  rw [show w.heap[(⟨1, 0, none⟩ : Addr).block]? = none from Array.getElem?_eq_none h1] at h0
  cases h0
theorem tab_of_laid {laid : List (String × DataW Unit)} {W : World} (hl : laid = [("math/bits.deBruijn64tab", Go.Lib.tabData .u8 (Go.Lib.deBruijn64tab.map fun n : Nat => (n : Int)))]) (h : laidMetH Tryd.prog laid W) : Go.Proofs.TabAt 1 Go.Lib.deBruijn64tab W := by
 subst hl
 have h1 : laidMet Tryd.prog [("math/bits.deBruijn64tab", Go.Lib.tabData .u8 (Go.Lib.deBruijn64tab.map fun n : Nat => (n : Int)))] W := h
 have h2 := Go.Lib.tabIs_of_head (g := 1) (t := 199) (e := 5) (n := 64) (by kernel_rfl) (by kernel_rfl) (by kernel_rfl) (by kernel_rfl) (by kernel_rfl) (by kernel_rfl) h1
 intro j hj
 have h3 := h2.cell (g := 1) (by kernel_rfl) j (by rw [List.length_map]; exact hj)
 rw [h3, List.getD_eq_getElem?_getD, List.getD_eq_getElem?_getD, List.getElem?_map, List.getElem?_eq_getElem hj]
 rfl
end
end Go.Proofs.YtnenjkgffapplaaDoor.PE
