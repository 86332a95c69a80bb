/-
  Part 5 of the proof: contracts of the program's functions. Conditions: those of the theorems below.
-/
import Derived.Test.YtnenjkgffapplaaDoorSh4
import Derived.Test.YtnenjkgffapplaaDoorSh2
import Derived.RowKit3
import GoSem.ClaimChange
import Derived.ChangeSlices
import Derived.WideShapes
import Derived.OpenShut
import Derived.Test.YtnenjkgffapplaaDoorSh3
import Derived.Lib.LaidTab
set_option linter.all false
noncomputable section
namespace Go.Proofs.YtnenjkgffapplaaDoor.PE
section
open Go Tryd
set_option maxRecDepth 100000
variable {G : World -> (Nat -> Prop) -> Prop} (hG : GOk G)
def b106a : Code := (qg (qe f103)).getD 0 .skip
def b106b : Code := (qg (qe f103)).getD 1 .skip
def pol106 : Pol := { live := [(3, [1, 4, 5, 12, 13, 14]), (8, [1, 4, 5, 26, 27, 28])] }
theorem enter106 : Enters prog 103 f103 (qe f103) := ⟨func103, by kernel_rfl, rfl⟩
def st106a (x : Rat) (w : Nat) (bl : List UInt8) (i : Nat) : LS := ⟨[.ptr 0 3 0 0 [], .i .i64 (bv (bl.take i) : Nat), .i .i64 0, .lst 1 (.ints .u8 (bl.map fun c => (c.toNat : Int))), .i .i64 (bl.length : Nat), .i .i64 (i : Nat)], [some ⟨3, .vals [.q x w]⟩]⟩
def st106b (x : Rat) (w : Nat) (a : Int) (bl : List UInt8) (i : Nat) : LS := ⟨[.ptr 0 3 0 0 [], .i .i64 a, .i .i64 (bv (bl.take i) : Nat), .lst 1 (.ints .u8 (bl.map fun c => (c.toNat : Int))), .i .i64 (bl.length : Nat), .i .i64 (i : Nat)], [some ⟨3, .vals [.q x w]⟩]⟩
theorem r106a (x : Rat) (w : Nat) (a b n i : Int) (l : List Int) : qd prog [] [] pol106 f103.ntmps 0 [1, 4, 5, 12, 13, 14] b106a ⟨[.ptr 0 3 0 0 [], .i .i64 a, .i .i64 b, .lst 1 (.ints .u8 l), .i .i64 n, .i .i64 i], [some ⟨3, .vals [.q x w]⟩]⟩ =
 Tr.br (decide (i < n)) (.br (ix (i) ((l.length : Int))) (.br (ib ((256 : Int) * a)) (.br (ib ((256 : Int) * a + IntKind.i64.wrap (l.getD i.toNat (0 : Int)))) (.br (ib (i + 1)) (.ok (.out .normal (LS.mk [.ptr 0 3 0 0 [], .i .i64 ((256 : Int) * a + IntKind.i64.wrap (l.getD i.toNat (0 : Int))), .i .i64 b, .lst 1 (.ints .u8 l), .i .i64 n, .i .i64 (i + 1)] [some (.mk 3 (.vals [.q x w]))]))) (.no 7002)) (.no 6002)) (.no 6005)) (.no 5003)) (.ok (.out (.exit 0) (LS.mk [.ptr 0 3 0 0 [], .i .i64 a, .i .i64 b, .lst 1 (.ints .u8 l), .i .i64 n, .i .i64 i] [some (.mk 3 (.vals [.q x w]))]))) := by kernel_rfl
theorem r106b (x : Rat) (w : Nat) (a b n i : Int) (l : List Int) : qd prog [] [] pol106 f103.ntmps 0 [1, 4, 5, 26, 27, 28] b106b ⟨[.ptr 0 3 0 0 [], .i .i64 a, .i .i64 b, .lst 1 (.ints .u8 l), .i .i64 n, .i .i64 i], [some ⟨3, .vals [.q x w]⟩]⟩ =
 Tr.br (decide (i < n)) (.br (ix (i) ((l.length : Int))) (.br (ib ((256 : Int) * b)) (.br (ib ((256 : Int) * b + IntKind.i64.wrap (l.getD i.toNat (0 : Int)))) (.br (ib (i + 1)) (.ok (.out .normal (LS.mk [.ptr 0 3 0 0 [], .i .i64 a, .i .i64 ((256 : Int) * b + IntKind.i64.wrap (l.getD i.toNat (0 : Int))), .lst 1 (.ints .u8 l), .i .i64 n, .i .i64 (i + 1)] [some (.mk 3 (.vals [.q x w]))]))) (.no 12002)) (.no 11002)) (.no 11005)) (.no 10003)) (.ok (.out (.exit 2) (LS.mk [.ptr 0 3 0 0 [], .i .i64 a, .i .i64 b, .lst 1 (.ints .u8 l), .i .i64 n, .i .i64 i] [some (.mk 3 (.vals [.q x w]))]))) := by kernel_rfl
def bI (l : List Int) : Int := (bv (l.map fun n => UInt8.ofNat n.toNat) : Nat)
theorem bI_map (bl : List UInt8) : bI (bl.map fun c => (c.toNat : Int)) = (bv bl : Nat) := by
 unfold bI
 rw [List.map_map]
 have : (List.map ((fun n : Int => UInt8.ofNat n.toNat) ∘ fun c : UInt8 => (c.toNat : Int)) bl) = bl := by
  rw [List.map_congr_left (g := id) (fun c _ => by simp), List.map_id]
 rw [this]
def F106 (l : List Int) (n i : Int) : Prop := ∃ bl : List UInt8, l = (bl.map fun c => (c.toNat : Int)) /\ n = (bl.length : Nat) /\ i = 0 /\ bl.length <= 2
def l106a : qw := fun ls K => match ls with
 | ⟨[.ptr 0 3 0 0 [], .i .i64 a, .i .i64 b, .lst 1 (.ints .u8 l), .i .i64 n, .i .i64 i], [some ⟨3, .vals [.q x w]⟩]⟩ => .br (qi (F106 l n i /\ a = 0 /\ b = 0)) (K (.exit 0) ⟨[.ptr 0 3 0 0 [], .i .i64 (bI l), .i .i64 b, .lst 1 (.ints .u8 l), .i .i64 n, .i .i64 n], [some ⟨3, .vals [.q x w]⟩]⟩) (.no 1)
 | _ => .no 1
def l106b : qw := fun ls K => match ls with
 | ⟨[.ptr 0 3 0 0 [], .i .i64 a, .i .i64 b, .lst 1 (.ints .u8 l), .i .i64 n, .i .i64 i], [some ⟨3, .vals [.q x w]⟩]⟩ => .br (qi (F106 l n i /\ b = 0)) (K (.exit 2) ⟨[.ptr 0 3 0 0 [], .i .i64 a, .i .i64 (bI l), .lst 1 (.ints .u8 l), .i .i64 n, .i .i64 n], [some ⟨3, .vals [.q x w]⟩]⟩) (.no 1)
 | _ => .no 1
theorem bv2_lt (bl : List UInt8) (i : Nat) (h : bl.length <= 2) : bv (bl.take i) < 65536 := by
 have h1 := bv_lt (bl.take i)
 have h2 : 256 ^ (bl.take i).length <= 256 ^ 2 := Nat.pow_le_pow_right (by omega) (by rw [List.length_take]; omega)
 omega
theorem bv_take_succ (bl : List UInt8) (i : Nat) (h : i < bl.length) : bv (bl.take (i + 1)) = bv (bl.take i) * 256 + (bl.getD i 0).toNat := by
 rw [List.take_add_one, List.getElem?_eq_getElem h, List.getD_eq_getElem?_getD, List.getElem?_eq_getElem h]
 exact bv_snoc _ _
theorem byte_get (bl : List UInt8) (i : Nat) (h : i < bl.length) : IntKind.i64.wrap ((bl.map fun c => (c.toNat : Int)).getD i 0) = ((bl.getD i 0).toNat : Int) := by
 rw [List.getD_eq_getElem?_getD, List.getD_eq_getElem?_getD, List.getElem?_map, List.getElem?_eq_getElem h]
 have := UInt8.toNat_lt (bl[i])
 show IntKind.i64.wrap ((bl[i].toNat : Nat) : Int) = ((bl[i].toNat : Nat) : Int)
 exact wi64 (by omega) (by omega)
include hG in
theorem loop106a : qu prog G f103.ntmps 0 [1, 4, 5, 12, 13, 14] b106a l106a := by
 intro ls K y hm h
 unfold l106a at h
 split at h
 case h_2 => cases h
 rename_i a b l n i x w
 obtain ⟨hc, hr⟩ := k8 h
 obtain ⟨⟨bl, rfl, rfl, rfl, hl⟩, rfl, rfl⟩ := decP_iff.1 hc
 have hg := Goes.count (R := Rnd prog G f103.ntmps 0 [1, 4, 5, 12, 13, 14] b106a) (fun i => st106a x w bl i) (e := .exit 0) (ls' := st106a x w bl bl.length) (by simp) bl.length 0
  (fun i _ hi => qb hG .nil mix (L := []) (pol := pol106) (O := []) (kA (by kernel_rfl)) (Nat.zero_le _) (by
   have hi' : i < bl.length := by omega
   have b1 := bv2_lt bl i hl
   have b2 := bv2_lt bl (i + 1) hl
   have b3 := bv_take_succ bl i hi'
   have b4 := byte_get bl i hi'
   unfold st106a
   rw [r106a, Int.toNat_natCast, b4, k5 (kF (by omega)), k5 (by simp only [kD, kE, List.length_map]; omega), k5 (by simp only [kD, kE]; omega), k5 (by simp only [kD, kE]; omega), k5 (by simp only [kD, kE]; omega), k7]
   have e1 : 256 * ((bv (bl.take i) : Nat) : Int) + ((bl.getD i 0).toNat : Int) = ((bv (bl.take (i + 1)) : Nat) : Int) := by omega
   rw [e1]
   rfl))
  (by
   refine qb hG .nil mix (L := []) (pol := pol106) (O := []) (kA (by kernel_rfl)) (Nat.zero_le _) ?_
   unfold st106a
   rw [Nat.zero_add, r106a, k6 (kG (by omega)), k7])
 refine ⟨_, _, qm hg, ?_⟩
 unfold st106a
 rw [List.take_length, <- bI_map]
 exact hr
include hG in
theorem loop106b : qu prog G f103.ntmps 0 [1, 4, 5, 26, 27, 28] b106b l106b := by
 intro ls K y hm h
 unfold l106b at h
 split at h
 case h_2 => cases h
 rename_i a b l n i x w
 obtain ⟨hc, hr⟩ := k8 h
 obtain ⟨⟨bl, rfl, rfl, rfl, hl⟩, rfl⟩ := decP_iff.1 hc
 have hg := Goes.count (R := Rnd prog G f103.ntmps 0 [1, 4, 5, 26, 27, 28] b106b) (fun i => st106b x w a bl i) (e := .exit 2) (ls' := st106b x w a bl bl.length) (by simp) bl.length 0
  (fun i _ hi => qb hG .nil mix (L := []) (pol := pol106) (O := []) (kA (by kernel_rfl)) (Nat.zero_le _) (by
   have hi' : i < bl.length := by omega
   have b1 := bv2_lt bl i hl
   have b2 := bv2_lt bl (i + 1) hl
   have b3 := bv_take_succ bl i hi'
   have b4 := byte_get bl i hi'
   unfold st106b
   rw [r106b, Int.toNat_natCast, b4, k5 (kF (by omega)), k5 (by simp only [kD, kE, List.length_map]; omega), k5 (by simp only [kD, kE]; omega), k5 (by simp only [kD, kE]; omega), k5 (by simp only [kD, kE]; omega), k7]
   have e1 : 256 * ((bv (bl.take i) : Nat) : Int) + ((bl.getD i 0).toNat : Int) = ((bv (bl.take (i + 1)) : Nat) : Int) := by omega
   rw [e1]
   rfl))
  (by
   refine qb hG .nil mix (L := []) (pol := pol106) (O := []) (kA (by kernel_rfl)) (Nat.zero_le _) ?_
   unfold st106b
   rw [Nat.zero_add, r106b, k6 (kG (by omega)), k7])
 refine ⟨_, _, qm hg, ?_⟩
 unfold st106b
 rw [List.take_length, <- bI_map]
 exact hr
theorem e106 (x : Rat) (w : Nat) : evF prog [] [(3, l106a), (8, l106b)] pol106 f103 [.q x w] [] qp =
 Tr.br (qi (F106 (List.map (fun (c : UInt8) => (c.toNat : Int)) (qa x.num.natAbs x.num.natAbs []).toArray.toList) (↑(List.map (fun (c : UInt8) => (c.toNat : Int)) (qa x.num.natAbs x.num.natAbs []).toArray.toList).length : Int) (0 : Int) /\ (0 : Int) = 0 /\ (0 : Int) = 0)) (.br (qi (F106 (List.map (fun (c : UInt8) => (c.toNat : Int)) (qa x.den x.den []).toArray.toList) (↑(List.map (fun (c : UInt8) => (c.toNat : Int)) (qa x.den x.den []).toArray.toList).length : Int) (0 : Int) /\ (0 : Int) = 0)) (.br (qk x) (.br (ib ((0 : Int) - bI (List.map (fun (c : UInt8) => (c.toNat : Int)) (qa x.num.natAbs x.num.natAbs []).toArray.toList))) (.ok (.ret (.tup [.i .i64 ((0 : Int) - bI (List.map (fun (c : UInt8) => (c.toNat : Int)) (qa x.num.natAbs x.num.natAbs []).toArray.toList)), .i .i64 (if (1 : Int) > bI (List.map (fun (c : UInt8) => (c.toNat : Int)) (qa x.den x.den []).toArray.toList) then (1 : Int) else bI (List.map (fun (c : UInt8) => (c.toNat : Int)) (qa x.den x.den []).toArray.toList))]) [])) (.no 14002)) (.ok (.ret (.tup [.i .i64 (bI (List.map (fun (c : UInt8) => (c.toNat : Int)) (qa x.num.natAbs x.num.natAbs []).toArray.toList)), .i .i64 (if (1 : Int) > bI (List.map (fun (c : UInt8) => (c.toNat : Int)) (qa x.den x.den []).toArray.toList) then (1 : Int) else bI (List.map (fun (c : UInt8) => (c.toNat : Int)) (qa x.den x.den []).toArray.toList))]) []))) (.no 1)) (.no 1) := by kernel_rfl
def smX (x : Rat) : Bool := decide (x.num.natAbs < 1000) && decide (x.den < 1000)
def s106 : Spec := fun args hs K => match args, hs with
 | [.q x _], [] => .br (smX x) (K (.tup [.i .i64 x.num, .i .i64 x.den]) []) (.no 1)
 | _, _ => .no 1


theorem bI_nbl (n : Nat) : bI (List.map (fun (c : UInt8) => (c.toNat : Int)) (qa n n []).toArray.toList) = (n : Int) := by
 rw [show (qa n n []).toArray.toList = nbl n from rfl, bI_map, bv_nbl]
theorem F106_nbl {n : Nat} (h : n < 65536) : F106 (List.map (fun (c : UInt8) => (c.toNat : Int)) (qa n n []).toArray.toList) ((List.map (fun (c : UInt8) => (c.toNat : Int)) (qa n n []).toArray.toList).length : Nat) 0 := by
 rw [show (qa n n []).toArray.toList = nbl n from rfl]
 exact ⟨nbl n, rfl, by rw [List.length_map], rfl, nbl_length_le (k := 2) (by omega)⟩
include hG in
theorem ok106 : qc prog G 103 s106 := by
 refine ql hG .nil mix enter106 (L := [(3, l106a), (8, l106b)]) (pol := pol106) fun args hs K x h => ?_
 unfold s106 at h
 split at h
 case h_2 => cases h
 rename_i x w
 obtain ⟨hc, hr⟩ := k8 h
 simp only [smX, kD, kE] at hc
 refine ⟨lps2 (b1 := b106a) (live1 := [1, 4, 5, 12, 13, 14]) (sp1 := l106a) (b2 := b106b) (live2 := [1, 4, 5, 26, 27, 28]) (sp2 := l106b) (m := 0) (by kernel_rfl) (by kernel_rfl) (by kernel_rfl) (by kernel_rfl) (by kernel_rfl) (loop106a hG) (loop106b hG), ?_⟩
 have hd := x.den_pos
 rw [e106, bI_nbl, bI_nbl, k5 (decP_iff.2 ⟨F106_nbl (by omega), rfl, rfl⟩), k5 (decP_iff.2 ⟨F106_nbl (by omega), rfl⟩)]
 have e2 : (if (1 : Int) > (x.den : Int) then (1 : Int) else (x.den : Int)) = (x.den : Int) := if_neg (by omega)
 rw [e2]
 cases hn : qk x with
 | true =>
  have hneg : x.num < 0 := of_decide_eq_true hn
  rw [k5 rfl, k5 (by simp only [kD, kE]; omega), k7, show (0 : Int) - (x.num.natAbs : Int) = x.num by omega]
  exact ⟨_, _, _, rfl, .refl _, hr⟩
 | false =>
  have hneg : ¬ x.num < 0 := of_decide_eq_false hn
  rw [k6 rfl, k7, show (x.num.natAbs : Int) = x.num by omega]
  exact ⟨_, _, _, rfl, .refl _, hr⟩
def b69 : Code := (qg (qe f61)).getD 0 .skip
def pol69 : Pol := { live := [(3, [1, 5, 14, 15, 16])], wr := [(60, [0])] }
theorem enter69 : Enters prog 61 f61 (qe f61) := ⟨func61, by kernel_rfl, rfl⟩
def O69 : Orc := [(60, s45), (75, s81), (103, s106)]
def n69 (v : PV) (n : Nat) (lk : Nat -> Lk) (i : Int) : LS := ⟨[.ptr 0 1 0 0 [], .nil, .lst 16 (.fn n (fun j => lkPV (lk j))), .i .i64 n, .i .i64 i], [some ⟨1, .vals [.agg [.w v]]⟩]⟩
def x69 (v : PV) (n : Nat) (lk : Nat -> Lk) (xs : List Rat) (i : Int) : LS := ⟨[.ptr 0 1 0 0 [], .sl 1 3 0 xs.length, .lst 16 (.fn n (fun j => lkPV (lk j))), .i .i64 n, .i .i64 i], [some ⟨1, .vals [.agg [.w v]]⟩, some ⟨3, .rats 64 xs⟩]⟩
theorem r69n (v : PV) (n : Nat) (lk : Nat -> Lk) (i : Int) : qd prog O69 [] pol69 f61.ntmps 1 [1, 5, 14, 15, 16] b69 (n69 v n lk i) =
 Tr.br (decide (i < (n : Int))) (.br (ix (i) ((n : Int))) (.br (smX (lk i.toNat).low) (.br (smX (lk i.toNat).high) (.br (okW v && decide ((0 : Int) < 9) && decide ((9 : Int) <= 4294967296)) (.br (ib ((8 : Int) * (lk i.toNat).low.num)) (.br (ib ((8 : Int) * (lk i.toNat).low.num * (↑(lk i.toNat).high.den : Int))) (.br (ib ((lk i.toNat).high.num * (↑(lk i.toNat).low.den : Int))) (.br (ib ((lk i.toNat).low.num * (↑(lk i.toNat).high.den : Int))) (.br (ib ((lk i.toNat).high.num * (↑(lk i.toNat).low.den : Int) - (lk i.toNat).low.num * (↑(lk i.toNat).high.den : Int))) (.br (ib (((lk i.toNat).high.num * (↑(lk i.toNat).low.den : Int) - (lk i.toNat).low.num * (↑(lk i.toNat).high.den : Int)) * nx v (9 : Int))) (.br (ib ((8 : Int) * (lk i.toNat).low.num * (↑(lk i.toNat).high.den : Int) + ((lk i.toNat).high.num * (↑(lk i.toNat).low.den : Int) - (lk i.toNat).low.num * (↑(lk i.toNat).high.den : Int)) * nx v (9 : Int))) (.br (ib ((8 : Int) * (↑(lk i.toNat).low.den : Int))) (.br (ib ((8 : Int) * (↑(lk i.toNat).low.den : Int) * (↑(lk i.toNat).high.den : Int))) (.br (decide ((0 : Int) < 8 * (↑(lk i.toNat).low.den : Int) * (↑(lk i.toNat).high.den : Int)) && decide ((8 : Int) * (↑(lk i.toNat).low.den : Int) * (↑(lk i.toNat).high.den : Int) < 4611686018427387904) && decide ((-4611686018427387904 : Int) < 8 * (lk i.toNat).low.num * (↑(lk i.toNat).high.den : Int) + ((lk i.toNat).high.num * (↑(lk i.toNat).low.den : Int) - (lk i.toNat).low.num * (↑(lk i.toNat).high.den : Int)) * nx v (9 : Int)) && decide ((8 : Int) * (lk i.toNat).low.num * (↑(lk i.toNat).high.den : Int) + ((lk i.toNat).high.num * (↑(lk i.toNat).low.den : Int) - (lk i.toNat).low.num * (↑(lk i.toNat).high.den : Int)) * nx v (9 : Int) < 4611686018427387904)) (.br (Nat.blt (0 : Nat) [mkRat ((8 : Int) * (lk i.toNat).low.num * (↑(lk i.toNat).high.den : Int) + ((lk i.toNat).high.num * (↑(lk i.toNat).low.den : Int) - (lk i.toNat).low.num * (↑(lk i.toNat).high.den : Int)) * nx v (9 : Int)) ((8 : Int) * (↑(lk i.toNat).low.den : Int) * (↑(lk i.toNat).high.den : Int)).toNat].length && [mkRat ((8 : Int) * (lk i.toNat).low.num * (↑(lk i.toNat).high.den : Int) + ((lk i.toNat).high.num * (↑(lk i.toNat).low.den : Int) - (lk i.toNat).low.num * (↑(lk i.toNat).high.den : Int)) * nx v (9 : Int)) ((8 : Int) * (↑(lk i.toNat).low.den : Int) * (↑(lk i.toNat).high.den : Int)).toNat].length.ble 4294967296) (.br (ib (i + 1)) (.ok (.out .normal { t := [.ptr 0 1 0 0 [], .sl 1 3 0 1, .lst 16 (.fn n fun (j : Nat) => .agg [.q (lk j).len 64, .q (lk j).low 64, .q (lk j).high 64, .q (lk j).spd 64, .q (lk j).brk 64, .lst 6 (.fn (lk j).np fun (a : Nat) => .agg [.q ((lk j).px a) 64, .q ((lk j).py a) 64])]), .i .i64 (n : Int), .i .i64 (i + 1)], h := [some { e := 1, c := Cont.vals [.agg [(rs v).w]] }, some { e := 3, c := Cont.rats 64 [mkRat ((8 : Int) * (lk i.toNat).low.num * (↑(lk i.toNat).high.den : Int) + ((lk i.toNat).high.num * (↑(lk i.toNat).low.den : Int) - (lk i.toNat).low.num * (↑(lk i.toNat).high.den : Int)) * nx v (9 : Int)) ((8 : Int) * (↑(lk i.toNat).low.den : Int) * (↑(lk i.toNat).high.den : Int)).toNat] }] })) (.no 10002)) (.no 9002)) (.no 1)) (.no 9005)) (.no 9007)) (.no 9009)) (.no 9010)) (.no 9012)) (.no 9013)) (.no 9016)) (.no 9019)) (.no 9021)) (.no 1)) (.no 1)) (.no 1)) (.no 5004)) (.ok (.out (.exit 0) { t := [.ptr 0 1 0 0 [], .nil, .lst 16 (.fn n fun (j : Nat) => .agg [.q (lk j).len 64, .q (lk j).low 64, .q (lk j).high 64, .q (lk j).spd 64, .q (lk j).brk 64, .lst 6 (.fn (lk j).np fun (a : Nat) => .agg [.q ((lk j).px a) 64, .q ((lk j).py a) 64])]), .i .i64 (n : Int), .i .i64 i], h := [some { e := 1, c := Cont.vals [.agg [v.w]] }] })) := by kernel_rfl
theorem r69 (v : PV) (n : Nat) (lk : Nat -> Lk) (xs : List Rat) (i : Int) : qd prog O69 [] pol69 f61.ntmps 1 [1, 5, 14, 15, 16] b69 (x69 v n lk xs i) =
 Tr.br (decide (i < (n : Int))) (.br (ix (i) ((n : Int))) (.br (smX (lk i.toNat).low) (.br (smX (lk i.toNat).high) (.br (okW v && decide ((0 : Int) < 9) && decide ((9 : Int) <= 4294967296)) (.br (ib ((8 : Int) * (lk i.toNat).low.num)) (.br (ib ((8 : Int) * (lk i.toNat).low.num * (↑(lk i.toNat).high.den : Int))) (.br (ib ((lk i.toNat).high.num * (↑(lk i.toNat).low.den : Int))) (.br (ib ((lk i.toNat).low.num * (↑(lk i.toNat).high.den : Int))) (.br (ib ((lk i.toNat).high.num * (↑(lk i.toNat).low.den : Int) - (lk i.toNat).low.num * (↑(lk i.toNat).high.den : Int))) (.br (ib (((lk i.toNat).high.num * (↑(lk i.toNat).low.den : Int) - (lk i.toNat).low.num * (↑(lk i.toNat).high.den : Int)) * nx v (9 : Int))) (.br (ib ((8 : Int) * (lk i.toNat).low.num * (↑(lk i.toNat).high.den : Int) + ((lk i.toNat).high.num * (↑(lk i.toNat).low.den : Int) - (lk i.toNat).low.num * (↑(lk i.toNat).high.den : Int)) * nx v (9 : Int))) (.br (ib ((8 : Int) * (↑(lk i.toNat).low.den : Int))) (.br (ib ((8 : Int) * (↑(lk i.toNat).low.den : Int) * (↑(lk i.toNat).high.den : Int))) (.br (decide ((0 : Int) < 8 * (↑(lk i.toNat).low.den : Int) * (↑(lk i.toNat).high.den : Int)) && decide ((8 : Int) * (↑(lk i.toNat).low.den : Int) * (↑(lk i.toNat).high.den : Int) < 4611686018427387904) && decide ((-4611686018427387904 : Int) < 8 * (lk i.toNat).low.num * (↑(lk i.toNat).high.den : Int) + ((lk i.toNat).high.num * (↑(lk i.toNat).low.den : Int) - (lk i.toNat).low.num * (↑(lk i.toNat).high.den : Int)) * nx v (9 : Int)) && decide ((8 : Int) * (lk i.toNat).low.num * (↑(lk i.toNat).high.den : Int) + ((lk i.toNat).high.num * (↑(lk i.toNat).low.den : Int) - (lk i.toNat).low.num * (↑(lk i.toNat).high.den : Int)) * nx v (9 : Int) < 4611686018427387904)) (.br (xs.length.ble xs.length && (xs.length + [mkRat ((8 : Int) * (lk i.toNat).low.num * (↑(lk i.toNat).high.den : Int) + ((lk i.toNat).high.num * (↑(lk i.toNat).low.den : Int) - (lk i.toNat).low.num * (↑(lk i.toNat).high.den : Int)) * nx v (9 : Int)) ((8 : Int) * (↑(lk i.toNat).low.den : Int) * (↑(lk i.toNat).high.den : Int)).toNat].length).ble 4294967296) (.br (ib (i + 1)) (.ok (.out .normal { t := [.ptr 0 1 0 0 [], .sl 1 3 0 (xs.length + [mkRat ((8 : Int) * (lk i.toNat).low.num * (↑(lk i.toNat).high.den : Int) + ((lk i.toNat).high.num * (↑(lk i.toNat).low.den : Int) - (lk i.toNat).low.num * (↑(lk i.toNat).high.den : Int)) * nx v (9 : Int)) ((8 : Int) * (↑(lk i.toNat).low.den : Int) * (↑(lk i.toNat).high.den : Int)).toNat].length), .lst 16 (.fn n fun (j : Nat) => .agg [.q (lk j).len 64, .q (lk j).low 64, .q (lk j).high 64, .q (lk j).spd 64, .q (lk j).brk 64, .lst 6 (.fn (lk j).np fun (a : Nat) => .agg [.q ((lk j).px a) 64, .q ((lk j).py a) 64])]), .i .i64 (n : Int), .i .i64 (i + 1)], h := [some { e := 1, c := Cont.vals [.agg [(rs v).w]] }, some { e := 3, c := Cont.rats 64 (List.take xs.length (List.drop (0 : Nat) xs) ++ [mkRat ((8 : Int) * (lk i.toNat).low.num * (↑(lk i.toNat).high.den : Int) + ((lk i.toNat).high.num * (↑(lk i.toNat).low.den : Int) - (lk i.toNat).low.num * (↑(lk i.toNat).high.den : Int)) * nx v (9 : Int)) ((8 : Int) * (↑(lk i.toNat).low.den : Int) * (↑(lk i.toNat).high.den : Int)).toNat]) }] })) (.no 10002)) (.no 9002)) (.no 1)) (.no 9005)) (.no 9007)) (.no 9009)) (.no 9010)) (.no 9012)) (.no 9013)) (.no 9016)) (.no 9019)) (.no 9021)) (.no 1)) (.no 1)) (.no 1)) (.no 5004)) (.ok (.out (.exit 0) { t := [.ptr 0 1 0 0 [], .sl 1 3 0 xs.length, .lst 16 (.fn n fun (j : Nat) => .agg [.q (lk j).len 64, .q (lk j).low 64, .q (lk j).high 64, .q (lk j).spd 64, .q (lk j).brk 64, .lst 6 (.fn (lk j).np fun (a : Nat) => .agg [.q ((lk j).px a) 64, .q ((lk j).py a) 64])]), .i .i64 (n : Int), .i .i64 i], h := [some { e := 1, c := Cont.vals [.agg [v.w]] }, some { e := 3, c := Cont.rats 64 xs }] })) := by kernel_rfl

def itRs : Nat -> PV -> PV
 | 0, v => v
 | k + 1, v => rs (itRs k v)
theorem okW_itRs {v : PV} (h : okW v = true) : ∀ k, okW (itRs k v) = true
 | 0 => h
 | k + 1 => okW_rs (okW_itRs h k)
def cf0 (l h : Rat) (k : Int) : Rat := mkRat ((8 : Int) * l.num * (h.den : Int) + (h.num * (l.den : Int) - l.num * (h.den : Int)) * k) ((8 : Int) * (l.den : Int) * (h.den : Int)).toNat
def cf1 (lk : Nat -> Lk) (v : PV) (j : Nat) : Rat := cf0 (lk j).low (lk j).high (nx (itRs j v) 9)
def cfL (lk : Nat -> Lk) (v : PV) (n : Nat) : List Rat := (List.range n).map (cf1 lk v)
theorem cfL_succ (lk : Nat -> Lk) (v : PV) (n : Nat) : cfL lk v (n + 1) = cfL lk v n ++ [cf1 lk v n] := by simp [cfL, List.range_succ]
theorem cfL_len (lk : Nat -> Lk) (v : PV) (n : Nat) : (cfL lk v n).length = n := by simp [cfL]
theorem nabs_mul {a b : Int} {A B : Nat} (ha : a.natAbs <= A) (hb : b.natAbs <= B) : (a * b).natAbs <= A * B := by
 rw [Int.natAbs_mul]; exact Nat.mul_le_mul ha hb
theorem smX_iff {x : Rat} : smX x = true ↔ x.num.natAbs < 1000 /\ x.den < 1000 := by simp [smX]
def st69 (v : PV) (n : Nat) (lk : Nat -> Lk) (xs : List Rat) (i : Int) : LS := match xs with
 | [] => n69 v n lk i
 | xs => x69 v n lk xs i
theorem st69_x {v : PV} {n : Nat} {lk : Nat -> Lk} {xs : List Rat} {i : Int} (h : xs ≠ []) : st69 v n lk xs i = x69 v n lk xs i := by
 cases xs with
 | nil => exact absurd rfl h
 | cons x xs => rfl
include hG in
theorem orc69 : OrcOK prog G O69 := .cons (ok45 hG) (.cons (ok81 hG) (.cons (ok106 hG) .nil))
theorem step69 (v : PV) (hw : okW v = true) (n : Nat) (lk : Nat -> Lk) (xs : List Rat) (j : Nat) (hn : n <= 3) (hj : j < n) (hx : xs.length <= 1000) (h1 : smX (lk j).low = true) (h2 : smX (lk j).high = true) :
  (qd prog O69 [] pol69 f61.ntmps 1 [1, 5, 14, 15, 16] b69 (st69 v n lk xs ((j : Nat) : Int))).run = some (.out .normal (st69 (rs v) n lk (xs ++ [cf0 (lk j).low (lk j).high (nx v 9)]) ((j + 1 : Nat) : Int))) := by
 obtain ⟨a1, a2⟩ := smX_iff.1 h1
 obtain ⟨a3, a4⟩ := smX_iff.1 h2
 have d1 := (lk j).low.den_pos
 have d2 := (lk j).high.den_pos
 have g := qA v (show (0 : Int) < 9 by omega)
 have b1 : ((8 : Int) * (lk j).low.num * ((lk j).high.den : Int)).natAbs <= 8 * 1000 * 1000 := nabs_mul (nabs_mul (by omega) (by omega)) (by omega)
 have b2 : ((lk j).high.num * ((lk j).low.den : Int)).natAbs <= 1000 * 1000 := nabs_mul (by omega) (by omega)
 have b3 : ((lk j).low.num * ((lk j).high.den : Int)).natAbs <= 1000 * 1000 := nabs_mul (by omega) (by omega)
 have b4 : (((lk j).high.num * ((lk j).low.den : Int) - (lk j).low.num * ((lk j).high.den : Int)) * nx v 9).natAbs <= 2000000 * 9 := nabs_mul (by omega) (by omega)
 have b5 : ((8 : Int) * ((lk j).low.den : Int) * ((lk j).high.den : Int)).natAbs <= 8 * 1000 * 1000 := nabs_mul (nabs_mul (by omega) (by omega)) (by omega)
 have b6 : 0 < (8 : Int) * ((lk j).low.den : Int) * ((lk j).high.den : Int) := Int.mul_pos (by omega) (by omega)
 rw [st69_x (xs := xs ++ [cf0 (lk j).low (lk j).high (nx v 9)]) (by simp)]
 cases xs with
 | nil =>
  show (qd prog O69 [] pol69 f61.ntmps 1 [1, 5, 14, 15, 16] b69 (n69 v n lk ((j : Nat) : Int))).run = _
  rw [r69n, Int.toNat_natCast, k5 (kF (by omega)), k5 (by simp only [kD, kE]; omega), k5 h1, k5 h2, k5 (by rw [hw]; decide)]
  repeat rw [k5 (by simp only [kD, kE, Nat.blt_eq, kH, kI, kJ]; omega)]
  rw [k7]
  rfl
 | cons y ys =>
  show (qd prog O69 [] pol69 f61.ntmps 1 [1, 5, 14, 15, 16] b69 (x69 v n lk (y :: ys) ((j : Nat) : Int))).run = _
  rw [r69, Int.toNat_natCast, k5 (kF (by omega)), k5 (by simp only [kD, kE]; omega), k5 h1, k5 h2, k5 (by rw [hw]; decide)]
  simp only [kI] at hx
  repeat rw [k5 (by simp only [kD, kE, Nat.blt_eq, kH, kI, kJ]; omega)]
  rw [k7, List.drop_zero, List.take_length]
  have hlen : ((y :: ys) ++ [cf0 (lk j).low (lk j).high (nx v 9)]).length = (y :: ys).length + 1 := by simp
  unfold x69
  rw [hlen]
  rfl
def Pl69 (v : PV) (n : Nat) (f : Nat -> PV) (m i : Int) : Prop := ∃ lk : Nat -> Lk, f = (fun j => lkPV (lk j)) /\ m = n /\ i = 0 /\ 1 <= n /\ n <= 3 /\ okW v = true /\ ∀ j, j < n -> smX (lk j).low = true /\ smX (lk j).high = true
def cfF (f : Nat -> PV) (v : PV) (n : Nat) : List Rat := cfL (fun j => dLk (f j)) v n
def l69 : qw := fun ls K => match ls with
 | ⟨[.ptr 0 1 0 0 [], .nil, .lst 16 (.fn n f), .i .i64 m, .i .i64 i], [some ⟨1, .vals [.agg [.w v]]⟩]⟩ => .br (qi (Pl69 v n f m i)) (K (.exit 0) ⟨[.ptr 0 1 0 0 [], .sl 1 3 0 (cfF f v n).length, .lst 16 (.fn n f), .i .i64 m, .i .i64 m], [some ⟨1, .vals [.agg [.w (itRs n v)]]⟩, some ⟨3, .rats 64 (cfF f v n)⟩]⟩) (.no 1)
 | _ => .no 1
include hG in
theorem loop69 : qu prog G f61.ntmps 1 [1, 5, 14, 15, 16] b69 l69 := by
 intro ls K y hm h
 unfold l69 at h
 split at h
 case h_2 => cases h
 rename_i n f m i v
 obtain ⟨hc, hr⟩ := k8 h
 obtain ⟨lk, rfl, rfl, rfl, hn1, hn, hw, hp⟩ := decP_iff.1 hc
 have hg := Goes.count (R := Rnd prog G f61.ntmps 1 [1, 5, 14, 15, 16] b69) (fun i => st69 (itRs i v) n lk (cfL lk v i) ((i : Nat) : Int)) (e := .exit 0) (ls' := st69 (itRs n v) n lk (cfL lk v n) n) (by simp) n 0
  (fun i _ hi => qb hG (orc69 hG) mix (L := []) (pol := pol69) (O := O69) (kA (by kernel_rfl)) (by cases cfL lk v i <;> simp [st69, n69, x69]) (by
   rw [cfL_succ]
   exact step69 (itRs i v) (okW_itRs hw i) n lk _ i hn (by omega) (by rw [cfL_len]; omega) (hp i (by omega)).1 (hp i (by omega)).2))
  (by
   refine qb hG (orc69 hG) mix (L := []) (pol := pol69) (O := O69) (kA (by kernel_rfl)) (by cases cfL lk v (0 + n) <;> simp [st69, n69, x69]) ?_
   rw [Nat.zero_add]
   cases hc : cfL lk v n with
   | nil =>
    show (qd prog O69 [] pol69 f61.ntmps 1 [1, 5, 14, 15, 16] b69 (n69 (itRs n v) n lk ((n : Nat) : Int))).run = _
    rw [r69n, k6 (kG (by omega)), k7]; rfl
   | cons y ys =>
    show (qd prog O69 [] pol69 f61.ntmps 1 [1, 5, 14, 15, 16] b69 (x69 (itRs n v) n lk (y :: ys) ((n : Nat) : Int))).run = _
    rw [r69, k6 (kG (by omega)), k7]; rfl)
 refine ⟨_, _, qm hg, ?_⟩
 rw [st69_x (by intro h0; have := cfL_len lk v n; rw [h0] at this; simp at this; omega)]
 exact hr
theorem e69 (A : Am) (v : PV) : evF prog O69 [(3, l69)] pol69 f61 [qq A, .ptr 0 1 0 0 []] [⟨1, .vals [.agg [.w v]]⟩] qp =
 Tr.br (qi (Pl69 v A.n (fun (j : Nat) => lkPV (A.lk j)) (A.n : Int) (0 : Int))) (.br ((cfF (fun (j : Nat) => lkPV (A.lk j)) v A.n).length.ble (cfF (fun (j : Nat) => lkPV (A.lk j)) v A.n).length) (.ok (.ret (.fr 3 (.rats 64 (List.take (cfF (fun (j : Nat) => lkPV (A.lk j)) v A.n).length (List.drop (0 : Nat) (cfF (fun (j : Nat) => lkPV (A.lk j)) v A.n))))) [{ e := 1, c := Cont.vals [.agg [(itRs A.n v).w]] }])) (.no 15)) (.no 1) := by kernel_rfl
def limX (A : Am) : Bool := (List.range A.n).all fun j => smX (A.lk j).low && smX (A.lk j).high
def P69 (arm v : PV) : Prop := okA arm /\ limX (dArm arm) = true /\ okW v = true
def s69 : Spec := fun args hs K => match args, hs with
 | [.agg [.s nm, .agg [.agg [.q bx w1, .q by_ w2], .agg [hf, .q t w3]], .lst 16 c], .ptr 0 1 0 0 []], [⟨1, .vals [.agg [.w v]]⟩] =>
  .br (qi (P69 (.agg [.s nm, .agg [.agg [.q bx w1, .q by_ w2], .agg [hf, .q t w3]], .lst 16 c]) v)) (K (.fr 3 (.rats 64 (cfF c.get v c.len))) [⟨1, .vals [.agg [.w (itRs c.len v)]]⟩]) (.no 1)
 | _, _ => .no 1
include hG in
theorem ok69 : qc prog G 61 s69 := by
 intro args hs K x h
 unfold s69 at h
 split at h
 case h_2 => cases h
 rename_i nm bx w1 by_ w2 hf t w3 c v
 obtain ⟨hc, hr⟩ := k8 h
 obtain ⟨⟨hv, hA⟩, hx, hw⟩ := decP_iff.1 hc
 generalize hA' : dArm (.agg [.s nm, .agg [.agg [.q bx w1, .q by_ w2], .agg [hf, .q t w3]], .lst 16 c]) = A at *
 have ek : cfF c.get v c.len = cfF (fun j => lkPV (A.lk j)) v A.n := by rw [<- hA']; rfl
 have en : c.len = A.n := by rw [<- hA']; rfl
 obtain ⟨h1, h2, h3, h4, h5, h6, h7⟩ := armB_c hA
 have hlim : ∀ j, j < A.n -> smX (A.lk j).low = true /\ smX (A.lk j).high = true := by
  intro j hj
  have := List.all_eq_true.1 hx j (List.mem_range.2 hj)
  rwa [kD] at this
 rw [ek, en] at hr
 refine ⟨_, _, PC.args (.cons hv (.refl _)) (qt hG (orc69 hG) mix enter69 (L := [(3, l69)]) (pol := pol69) (O := O69) (lps1 (b := b69) (live := [1, 5, 14, 15, 16]) (sp := l69) (m := 1) (by kernel_rfl) (by kernel_rfl) (by kernel_rfl) (loop69 hG)) ?_), hr⟩
 rw [e69, k5 (decP_iff.2 ⟨A.lk, rfl, rfl, rfl, h5, h6, hw, hlim⟩), k5 (by rw [kH]; omega), k7, List.drop_zero, List.take_length]
def pol33 : Pol := { wr := [(61, [1])], own := [9] }
theorem enter33 : Enters prog 30 f30 (qe f30) := ⟨func30, by kernel_rfl, rfl⟩
def s33 : Spec := fun args hs K => match args, hs with
 | [.agg [.s nm, .agg [.agg [.q bx w1, .q by_ w2], .agg [.bl hf, .q t w3]], .lst 16 c], .w v], [] =>
  .br (qi (P69 (.agg [.s nm, .agg [.agg [.q bx w1, .q by_ w2], .agg [.bl hf, .q t w3]], .lst 16 c]) v)) (K (.fr 3 (.rats 64 (cfF c.get v c.len))) []) (.no 1)
 | _, _ => .no 1
theorem e33 (nm : ByteArray) (bx by_ t : Rat) (w1 w2 w3 : Nat) (hf : Bool) (c : Cont) (v : PV) : evF prog [(61, s69)] [] pol33 f30 [.agg [.s nm, .agg [.agg [.q bx w1, .q by_ w2], .agg [.bl hf, .q t w3]], .lst 16 c], .w v] [] qp =
 Tr.br (qi (P69 (.agg [.s nm, .agg [.agg [.q bx w1, .q by_ w2], .agg [.bl hf, .q t w3]], .lst 16 c]) v)) (.br ((cfF c.get v (match c with | Cont.ints k xs => xs.length | Cont.rats n xs => xs.length | Cont.vals vs => vs.length | Cont.fn n f => n)).length.ble (cfF c.get v (match c with | Cont.ints k xs => xs.length | Cont.rats n xs => xs.length | Cont.vals vs => vs.length | Cont.fn n f => n)).length) (.ok (.ret (.fr 3 (.rats 64 (List.take (Cont.rats (64 : Nat) (cfF c.get v c.len)).len (List.drop (0 : Nat) (cfF c.get v c.len))))) [])) (.no 15)) (.no 1) := by kernel_rfl
include hG in
theorem ok33 : qc prog G 30 s33 := by
 refine ql hG (.cons (ok69 hG) .nil) mix enter33 (L := []) (pol := pol33) fun args hs K x h => ?_
 unfold s33 at h
 split at h
 case h_2 => cases h
 rename_i nm bx w1 by_ w2 hf t w3 c v
 obtain ⟨hc, hr⟩ := k8 h
 refine ⟨kA (by kernel_rfl), _, _, _, ?_, .refl _, hr⟩
 rw [e33, k5 hc, k5 (by rw [kH]; exact Nat.le_refl _), k7, List.drop_zero]
 show some (Res.ret (.fr 3 (.rats 64 (List.take (cfF c.get v c.len).length (cfF c.get v c.len)))) []) = _
 rw [List.take_length]
theorem enter84 : Enters prog 33 f33 (qe f33) := ⟨func33, by kernel_rfl, rfl⟩
def s84 : Spec := evF prog [(28, s23)] [] {} f33
include hG in
theorem ok84 : qc prog G 33 s84 := spec_ev hG (.cons (ok23 hG) .nil) mix enter84 (fun _ => kA (by kernel_rfl))
def b32 : Code := (qg (qe f27)).getD 0 .skip
def pol32 : Pol := { live := [(3, [2, 3, 11, 12, 13])] }
def O32 : Orc := [(28, s23), (33, s84)]
theorem enter32 : Enters prog 27 f27 (qe f27) := ⟨func27, by kernel_rfl, rfl⟩
def l32 : qw := unr prog O32 [] pol32 f27.ntmps 0 [2, 3, 11, 12, 13] b32 3
def smC (L : Int) : Cont := .vals [.agg [.q (mkRat 0 1) 64, .q (mkRat (-1) 1) 64], .agg [.q (mkRat L 1) 64, .q (mkRat (-1) 1) 64], .agg [.q (mkRat L 1) 64, .q (mkRat 1 1) 64], .agg [.q (mkRat 0 1) 64, .q (mkRat 1 1) 64]]
def smV (L : Int) : PV := lkC (mkRat L 1) (mkRat (-2) 1) (mkRat 2 1) (mkRat 1 4) (mkRat 1 10) (smC L)
def smL (L : Int) : Lk := ⟨mkRat L 1, mkRat (-2) 1, mkRat 2 1, mkRat 1 4, mkRat 1 10, 4, fun i => dq (fldV ((smC L).get i) 0), fun i => dq (fldV ((smC L).get i) 1)⟩
theorem smV_le (L : Int) : VLe (smV L) (lkPV (smL L)) := by
 refine VLe.agg (VLeL.cons (.refl _) (VLeL.cons (.refl _) (VLeL.cons (.refl _) (VLeL.cons (.refl _) (VLeL.cons (.refl _) (VLeL.cons ?_ .nil))))))
 refine VLe.lst rfl fun i hi => ?_
 have hi' : i < 4 := hi
 match i, hi' with
 | 0, _ => exact .refl _
 | 1, _ => exact .refl _
 | 2, _ => exact .refl _
 | 3, _ => exact .refl _
 | i + 4, h => omega
end
section
open Go
set_option maxRecDepth 100000
variable {G : World -> (Nat -> Prop) -> Prop} (hG : GOk G)
def OV : Orc := [(19, g21), (36, g27), (56, g29), (65, g43), (152, g133), (153, g134)]
def g41 : Spec := evF Tryd.prog OV [] {} Tryd.f38
def g42 : Spec := evF Tryd.prog OV [] {} Tryd.f39
end
section
open Go
set_option maxRecDepth 100000
variable {G : World -> (Nat -> Prop) -> Prop} (hG : GOk G)
structure Fr where
 x : Rat
 y : Rat
 h : Bool
 t : Rat
def qf (qs : List Rat) (i : Nat) : Rat := qs.getD i 0
section
variable (qs : List Rat) (n : Nat) (lk : Nat -> Lk) (b : Fr)
end
theorem frs_le0 (e n : Nat) (f : Nat -> PV) (vs : List PV) (hl : vs.length = n) (h : ∀ (i : Nat) (v : PV), vs[i]? = some v -> noRef 8 v = true /\ VLe v (f i)) :
  RLe (.tup [.fr e (.vals vs), .i .i64 0]) (.tup [.fr e (.fn n f), .i .i64 0]) := by
 subst hl
 exact ⟨fun m => .refl _, fun m => KsLe.one (KLe.fn rfl h)⟩
section
variable (qs : List Rat) (n : Nat) (lk : Nat -> Lk) (b : Fr)
end
end
section
open Go
set_option maxRecDepth 100000
variable {G : World -> (Nat -> Prop) -> Prop} (hG : GOk G)
theorem getD_map_range (f : Nat -> Rat) {n j : Nat} (h : j < n) : ((List.range n).map f).getD j 0 = f j := by
 rw [List.getD_eq_getElem?_getD, List.getElem?_map, List.getElem?_range h]; rfl
theorem limX_V (v : PV) : limX (armD v) = true := by
 refine List.all_eq_true.2 fun j _ => ?_
 rw [kD]
 have small : ∀ (n : Int), n.natAbs < 1000 -> smX (mkRat n (Int.toNat 3)) = true := fun n hn => smX_iff.2 ⟨Nat.lt_of_le_of_lt (mkRat_num_le n (by decide)) hn, Nat.lt_of_le_of_lt (mkRat_den_le n (by decide)) (by decide)⟩
 have g1 := qA (rs (itR6 j (rs (rs (rs v))))) (show (0 : Int) < 6 by omega)
 have g2 := qA (rs (rs (itR6 j (rs (rs (rs v)))))) (show (0 : Int) < 6 by omega)
 exact ⟨small _ (by omega), small _ (by omega)⟩
def R6 : Orc := [(36, g27), (38, g41), (39, g42), (65, g43)]
theorem cst_t {P : Program} {G : World -> (Nat -> Prop) -> Prop} {g : Nat} {as' : List PV} {r : PV} (h : PC P G g as' [] r []) : qc P G g (cst as' True r) := cst_ok fun _ => h
end
section
open Go
end
section
open Go Tryd
set_option maxRecDepth 100000
variable {G : World -> (Nat -> Prop) -> Prop} (hG : GOk G)
theorem ArgsLe.ofL : ∀ {us vs : List PV}, VLeL us vs -> ArgsLe us vs
 | [], [], _ => .nil
 | [], v :: vs, h => by have := h.1; simp at this
 | u :: us, [], h => by have := h.1; simp at this
 | u :: us, v :: vs, h => .cons (h.2 0 u v rfl rfl) (ArgsLe.ofL ⟨by have := h.1; simpa using this, fun j a b e1 e2 => h.2 (j + 1) a b e1 e2⟩)
theorem VLe.tup {us vs : List PV} (h : VLeL us vs) : VLe (.tup us) (.tup vs) := by
 refine ⟨rfl, fun w S μ => ⟨fun cs hc => (by cases hc), fun x hx => ?_⟩⟩
 cases hx with
 | cell _ _ _ _ hc => cases hc
 | agg _ _ _ hv _ => cases hv
 | tup _ _ xs hl => exact .tup _ _ _ (ArgsLe.ofL h w S μ xs hl)
def mxR (x y : Rat) : Rat := if y <= x then x else y
def mnR (x y : Rat) : Rat := if x <= y then x else y

theorem k86 (x y : Rat) (n m : Nat) : evF prog [(36, g27), (67, g74)] [] {} f78 [.q x n, .q y m] [] qp =
 Tr.br ((n + m).ble 800000) (.br (decide ((0 : Int) <= rcmp x y)) (.br (n.ble 800000) (.ok (.ret (.q x n) [])) (.no 1)) (.br (m.ble 800000) (.ok (.ret (.q y m) [])) (.no 1))) (.no 1) := by kernel_rfl
theorem k80m (x y : Rat) (n m : Nat) : evF prog [(36, g27), (67, g74)] [] {} f77 [.q x n, .q y m] [] qp =
 Tr.br ((n + m).ble 800000) (.br (decide (rcmp x y <= 0)) (.br (n.ble 800000) (.ok (.ret (.q x n) [])) (.no 1)) (.br (m.ble 800000) (.ok (.ret (.q y m) [])) (.no 1))) (.no 1) := by kernel_rfl
def g86 : Spec := fun args hs K => match args, hs with
 | [.q x n, .q y m], [] => .br (Nat.ble (n + m) 400000) (K (.q (mxR x y) (Nat.max n m)) []) (.no 1)
 | _, _ => .no 1
def g80 : Spec := fun args hs K => match args, hs with
 | [.q x n, .q y m], [] => .br (Nat.ble (n + m) 400000) (K (.q (mnR x y) (Nat.max n m)) []) (.no 1)
 | _, _ => .no 1
include hG in
theorem gk86 (hT : TabG G) : qc prog G 78 g86 := by
 refine ql hG (orcg80 hG hT) mix enter86 (L := []) (pol := {}) fun args hs K x h => ?_
 unfold g86 at h
 split at h
 case h_2 => cases h
 rename_i x n y m
 obtain ⟨hc, hr⟩ := k8 h
 rw [kH] at hc
 by_cases g : y <= x
 ·refine ⟨kA (by kernel_rfl), _, _, _, ?_, q_rle (x := x) (n := n) (by rw [mxR, if_pos g]) (Nat.le_max_left n m), hr⟩
  rw [k86, k5 (by rw [kH]; omega), k5 (kF (rcmp_ge.2 g)), k5 (by rw [kH]; omega), k7]
 ·refine ⟨kA (by kernel_rfl), _, _, _, ?_, q_rle (x := y) (n := m) (by rw [mxR, if_neg g]) (Nat.le_max_right n m), hr⟩
  rw [k86, k5 (by rw [kH]; omega), k6 (kG fun h => g (rcmp_ge.1 h)), k5 (by rw [kH]; omega), k7]
include hG in
theorem gk80 (hT : TabG G) : qc prog G 77 g80 := by
 refine ql hG (orcg80 hG hT) mix enter80 (L := []) (pol := {}) fun args hs K x h => ?_
 unfold g80 at h
 split at h
 case h_2 => cases h
 rename_i x n y m
 obtain ⟨hc, hr⟩ := k8 h
 rw [kH] at hc
 by_cases g : x <= y
 ·refine ⟨kA (by kernel_rfl), _, _, _, ?_, q_rle (x := x) (n := n) (by rw [mnR, if_pos g]) (Nat.le_max_left n m), hr⟩
  rw [k80m, k5 (by rw [kH]; omega), k5 (kF (rcmp_le.2 g)), k5 (by rw [kH]; omega), k7]
 ·refine ⟨kA (by kernel_rfl), _, _, _, ?_, q_rle (x := y) (n := m) (by rw [mnR, if_neg g]) (Nat.le_max_right n m), hr⟩
  rw [k80m, k5 (by rw [kH]; omega), k6 (kG fun h => g (rcmp_le.1 h)), k5 (by rw [kH]; omega), k7]
end
section
open Go
set_option maxRecDepth 100000
structure Sp where
 lo : Rat
 hi : Rat
 ok : lo <= hi
def Sp.has (s : Sp) (x : Rat) : Prop := s.lo <= x /\ x <= s.hi
def subS (A B : Sp) : Sp := ⟨A.lo - B.hi, A.hi - B.lo, by have := A.ok; have := B.ok; grind⟩
structure Lz where
 X : Sp
 Y : Sp
 C : Sp
 S : Sp
end
section
open Go
set_option maxRecDepth 100000
variable {G : World -> (Nat -> Prop) -> Prop} (hG : GOk G)
structure Pg where
 n : Nat
 u : Nat -> Rat
 v : Nat -> Rat
theorem rats_le (e : Nat) {n m : Nat} (xs : List Rat) (h : n <= m) : VLe (.lst e (.rats n xs)) (.lst e (.rats m xs)) := VLe.lst rfl fun i _ => (q_rle (x := xs.getD i 0) rfl h).v 0
def c71 : Spec := fun args hs K => match args, hs with
 | [.i .i64 n], [] => .br (decide (-1000000000 < n) && decide (n < 1000000000)) (K (.q (n : Rat) 64) []) (.no 1)
 | _, _ => .no 1
include hG in
theorem ck71 : qc Tryd.prog G 63 c71 := by
 intro args hs K x h
 unfold c71 at h
 split at h
 case h_2 => cases h
 rename_i n
 obtain ⟨hc, hr⟩ := k8 h
 simp only [kD, kE] at hc
 refine ⟨_, _, (pc_spec (gk71 hG) (args := [.i .i64 n]) (r := .q (n : Rat) (Nat.log2 n.natAbs + 1)) (hs' := []) ?_).le (q_rle rfl ?_) (.refl _), hr⟩
 ·show (Tr.br _ _ _).run = _
  rw [k5 (by simp only [kD, kE]; omega)]
  rfl
 ·have h1 : n.natAbs < 2 ^ 63 := by omega
  by_cases h0 : n.natAbs = 0
  ·rw [h0]; decide
  ·have := (Nat.log2_lt h0).2 h1
   omega
def n70 (w : Nat) (xs : List Rat) (n i : Int) : LS := ⟨[.nil, .lst 3 (.rats w xs), .i .i64 n, .i .i64 i], []⟩
def x70 (w W : Nat) (xs ys : List Rat) (n i : Int) : LS := ⟨[.sl 0 3 0 ys.length, .lst 3 (.rats w xs), .i .i64 n, .i .i64 i], [some ⟨3, .rats W ys⟩]⟩
def fin70 (w : Nat) (xs : List Rat) : LS := x70 w (w + 64 + 1) xs xs (xs.length : Nat) (xs.length : Nat)
theorem mx0 (a : Nat) : Nat.max a (Nat.max a 0) = a := by
 show max a (max a 0) = a
 omega
theorem add00 (x : Rat) : x + ((0 : Int) : Rat) = x := Rat.add_zero x
theorem getD_range_map (xs : List Rat) : (List.range xs.length).map (fun j => xs.getD j 0) = xs := by
 apply List.ext_getElem
 ·simp
 ·intro j h1 h2
  simp [List.getElem?_eq_getElem h2]
def c70 : Spec := fun args hs K => match args, hs with
 | [.lst 3 (.rats w xs)], [] => .br (Nat.ble 1 xs.length && Nat.ble xs.length 1000 && Nat.ble w 10000) (K (.fr 3 (.rats (w + 65) xs)) []) (.no 1)
 | _, _ => .no 1
def nz72 (y : Rat) : Prop := ¬ y = 0
def c72 : Spec := fun args hs K => match args, hs with
 | [.q x n, .q y m], [] => .br (qi (nz72 y)) (.br (Nat.ble (n + m) 800000) (K (.tup [.q (x / y) (n + m), .i .i64 0]) []) (.no 1)) (.no 1)
 | _, _ => .no 1
include hG in
theorem ck72 (hT : TabG G) : qc Tryd.prog G 64 c72 := by
 intro args hs K x h
 unfold c72 at h
 split at h
 case h_2 => cases h
 rename_i x n y m
 obtain ⟨hc, hr⟩ := k8 h
 obtain ⟨hb, hr⟩ := k8 hr
 exact ⟨_, _, pc_spec (gk72 hG hT) ((k5 hb).trans ((k6 (kG (decP_iff.1 hc))).trans rfl)), hr⟩
def Asam (l : List Int) : Am := ⟨⟨#[111, 110, 101]⟩, mkRat 0 1, mkRat 0 1, mkRat 0 1, l.length, fun j => smL (l.getD j 0)⟩
include hG in
theorem sam_ok (l : List Int) (h : (evF Tryd.prog O32 [(3, l32)] pol32 Tryd.f27 [.lst 1 (.ints .i64 l)] [] qp).run = some (.ret (frA ⟨#[111, 110, 101]⟩ (mkRat 0 1) (mkRat 0 1) (mkRat 0 1) (.fr 16 (.vals (l.map smV)))) [])) : PC Tryd.prog G 27 [.lst 1 (.ints .i64 l)] [] (armFr (Asam l)) [] := by
 refine (qt hG (.cons (ok23 hG) (.cons (ok84 hG) .nil)) mix enter32 (O := O32) (L := [(3, l32)]) (pol := pol32) (lps1 (b := b32) (live := [2, 3, 11, 12, 13]) (sp := l32) (m := 0) (by kernel_rfl) (by kernel_rfl) (by kernel_rfl) (unr_ok hG (.cons (ok23 hG) (.cons (ok84 hG) .nil)) mix (kA (by kernel_rfl)) 3)) h).le ?_ (.refl _)
 refine rle_arm _ _ _ _ _ _ _ (by rw [List.length_map]; rfl) fun i u hu => ?_
 rw [List.getElem?_map] at hu
 cases hx : l[i]? with
 | none => rw [hx] at hu; cases hu
 | some x =>
  rw [hx] at hu
  obtain rfl := Option.some.inj hu
  refine ⟨rfl, ?_⟩
  show VLe _ (lkPV (smL (l.getD i 0)))
  rw [List.getD_eq_getElem?_getD, hx]
  exact smV_le x
include hG in
theorem sam3 : PC Tryd.prog G 27 [.lst 1 (.ints .i64 [3])] [] (armFr (Asam [3])) [] := sam_ok hG [3] (by kernel_rfl)
theorem armB_3 : armB (Asam [3]) = true := by kernel_rfl
end
section
open Go Tryd
set_option maxRecDepth 100000
variable {G : World -> (Nat -> Prop) -> Prop} (hG : GOk G)
theorem enMk : Enters prog 74 f74 (qe f74) := ⟨func74, by kernel_rfl, rfl⟩
def hf : Rat := ((1 : Int) : Rat) / ((2 : Int) : Rat)
theorem eMk : (evF prog [(63, g71), (64, c72)] [] {} f74 [.i .i64 1, .i .i64 2] [] qp).run = (Tr.br (qi (nz72 ((2 : Int) : Rat))) (.ok (.ret (.tup [.q hf 3, .i .i64 0]) [])) (.no 1)).run := by kernel_rfl
include hG in
theorem pcMk (hT : TabG G) : PC prog G 74 [.i .i64 1, .i .i64 2] [] (.tup [.q hf 3, .i .i64 0]) [] := by
 refine qt hG (.cons (gk71 hG) (.cons (ck72 hG hT) .nil)) mix enMk (hs := []) (L := []) (pol := {}) (kA (by kernel_rfl)) (eMk.trans ?_)
 rw [k5 (decP_iff.2 (show nz72 ((2 : Int) : Rat) from (by decide : ¬ ((2 : Int) : Rat) = 0))), k7]
end
section
open Go
set_option maxRecDepth 100000
variable {G : World -> (Nat -> Prop) -> Prop} (hG : GOk G)
end
section
open Go
set_option maxRecDepth 100000
theorem nn_of_mul {x s : Rat} (hs : 0 < s) (h : 0 <= x * s) : 0 <= x := by
 by_cases h1 : x < 0
 ·have := Rat.mul_pos (show 0 < -x by grind) hs
  grind
 ·exact Rat.not_lt.1 h1
end
section
open Go
set_option maxRecDepth 100000
variable {G : World -> (Nat -> Prop) -> Prop} (hG : GOk G)
structure TrC (m n : Nat) (tk : Nat -> Int) (qs : Nat -> List Rat) : Prop where
 n1 : 1 <= n
 n60 : n <= 60
 m1 : 1 <= m
 m3 : m <= 3
 len : ∀ j, j < n -> (qs j).length = m
 rng : ∀ j, j < n -> -50000 <= tk j /\ tk j <= 50000
 inc : ∀ j, j + 1 < n -> tk j < tk (j + 1)
theorem TrC.mono {m n : Nat} {tk : Nat -> Int} {qs : Nat -> List Rat} (h : TrC m n tk qs) : ∀ d j, j + d < n -> tk j <= tk (j + d)
 | 0, j, _ => Int.le_refl _
 | d + 1, j, hj => by
  have := TrC.mono h d j (by omega)
  have := h.inc (j + d) (by omega)
  rw [show j + (d + 1) = j + d + 1 by omega]
  omega
include hG in
theorem pc91 (A : Am) (hA : armB A = true) : PC Tryd.prog G 91 [qq A] [] (.i .i64 0) [] := by
 obtain ⟨r, hs', p, e⟩ := ok52 hG [qq A] [] (fun r hs' => .ok (.ret r hs')) (.ret (.i .i64 0) []) (by
  show (Tr.br _ _ _).run = _
  rw [k5 (decP_iff.2 ⟨_, A, rfl, .refl _, hA⟩)]; rfl)
 cases e
 exact p
theorem hf2 : hf + hf = 1 := by kernel_rfl
end
section
open Go Tryd
set_option maxRecDepth 100000
variable {G : World -> (Nat -> Prop) -> Prop} (hG : GOk G)
def b16 : Code := (qg (qe f14)).getD 0 .skip
def pol16 : Pol := { live := [(5, [2, 5, 6, 7, 16, 17])], wr := [(60, [0]), (61, [1])] }
def W69 (A : Am) (a v : PV) : Prop := a = qq A /\ okW v = true
def w69 (A : Am) (CF : PV -> List Rat) (IT : PV -> PV) : Spec := fun args hs K => match args, hs with
 | [a, .ptr 0 1 0 0 []], [⟨1, .vals [.agg [.w v]]⟩] => .br (qi (W69 A a v)) (K (.fr 3 (.rats 64 (CF v))) [⟨1, .vals [.agg [.w (IT v)]]⟩]) (.no 1)
 | _, _ => .no 1
def O16 (A : Am) (CF : PV -> List Rat) (IT : PV -> PV) : Orc := [(60, s45), (61, w69 A CF IT)]
def l16 (A : Am) (CF : PV -> List Rat) (IT : PV -> PV) : qw := unr prog (O16 A CF IT) [] pol16 f14.ntmps 0 [2, 5, 6, 7, 16, 17] b16 5
theorem e16 (A : Am) (CF : PV -> List Rat) (IT : PV -> PV) (m : PV) : (evF prog (O16 A CF IT) [(5, l16 A CF IT)] pol16 f14 [qq A, .w m] [] qp).run =
 (Tr.br (okW m && decide ((0 : Int) < 10) && decide ((10 : Int) <= 4294967296)) (.br (okW (rs m) && decide ((0 : Int) < 4) && decide ((4 : Int) <= 4294967296)) (.br (ib ((1 : Int) + nx (rs m) (4 : Int))) (.br (decide ((0 : Int) < 1 + nx (rs m) (4 : Int))) (.br (qi (W69 A (qq A) (rs (rs m)))) (.br (((0 : Nat) + (CF (rs (rs m))).length).ble (CF (rs (rs m))).length) (.br (Nat.blt (0 : Nat) [PV.agg [PV.i .i64 (nx m (10 : Int)), PV.lst 3 (.rats 64 (List.take (CF (rs (rs m))).length (List.drop (0 : Nat) (CF (rs (rs m))))))]].length && [PV.agg [PV.i .i64 (nx m (10 : Int)), PV.lst 3 (.rats 64 (List.take (CF (rs (rs m))).length (List.drop (0 : Nat) (CF (rs (rs m))))))]].length.ble 4294967296) (.br (decide ((1 : Int) < 1 + nx (rs m) (4 : Int))) (.br (okW (IT (rs (rs m))) && decide ((0 : Int) < 20) && decide ((20 : Int) <= 4294967296)) (.br (ib ((48 : Int) + nx (IT (rs (rs m))) (20 : Int))) (.br (ib (nx m (10 : Int) + ((48 : Int) + nx (IT (rs (rs m))) (20 : Int)))) (.br (qi (W69 A (qq A) (rs (IT (rs (rs m)))))) (.br (((0 : Nat) + (CF (rs (IT (rs (rs m))))).length).ble (CF (rs (IT (rs (rs m))))).length) (.br (([PV.agg [PV.i .i64 (nx m (10 : Int)), PV.lst 3 (.rats 64 (List.take (CF (rs (rs m))).length (List.drop (0 : Nat) (CF (rs (rs m))))))]].length + [PV.agg [PV.i .i64 (nx m (10 : Int) + ((48 : Int) + nx (IT (rs (rs m))) (20 : Int))), PV.lst 3 (.rats 64 (List.take (CF (rs (IT (rs (rs m))))).length (List.drop (0 : Nat) (CF (rs (IT (rs (rs m))))))))]].length).ble 4294967296) (.br (decide ((2 : Int) < 1 + nx (rs m) (4 : Int))) (.br (okW (IT (rs (IT (rs (rs m))))) && decide ((0 : Int) < 20) && decide ((20 : Int) <= 4294967296)) (.br (ib ((48 : Int) + nx (IT (rs (IT (rs (rs m))))) (20 : Int))) (.br (ib (nx m (10 : Int) + ((48 : Int) + nx (IT (rs (rs m))) (20 : Int)) + ((48 : Int) + nx (IT (rs (IT (rs (rs m))))) (20 : Int)))) (.br (qi (W69 A (qq A) (rs (IT (rs (IT (rs (rs m)))))))) (.br (((0 : Nat) + (CF (rs (IT (rs (IT (rs (rs m))))))).length).ble (CF (rs (IT (rs (IT (rs (rs m))))))).length) (.br (([PV.agg [PV.i .i64 (nx m (10 : Int)), PV.lst 3 (.rats 64 (List.take (CF (rs (rs m))).length (List.drop (0 : Nat) (CF (rs (rs m))))))]].length + [PV.agg [PV.i .i64 (nx m (10 : Int) + ((48 : Int) + nx (IT (rs (rs m))) (20 : Int))), PV.lst 3 (.rats 64 (List.take (CF (rs (IT (rs (rs m))))).length (List.drop (0 : Nat) (CF (rs (IT (rs (rs m))))))))]].length + [PV.agg [PV.i .i64 (nx m (10 : Int) + ((48 : Int) + nx (IT (rs (rs m))) (20 : Int)) + ((48 : Int) + nx (IT (rs (IT (rs (rs m))))) (20 : Int))), PV.lst 3 (.rats 64 (List.take (CF (rs (IT (rs (IT (rs (rs m))))))).length (List.drop (0 : Nat) (CF (rs (IT (rs (IT (rs (rs m))))))))))]].length).ble 4294967296) (.br (decide ((3 : Int) < 1 + nx (rs m) (4 : Int))) (.br (okW (IT (rs (IT (rs (IT (rs (rs m))))))) && decide ((0 : Int) < 20) && decide ((20 : Int) <= 4294967296)) (.br (ib ((48 : Int) + nx (IT (rs (IT (rs (IT (rs (rs m))))))) (20 : Int))) (.br (ib (nx m (10 : Int) + ((48 : Int) + nx (IT (rs (rs m))) (20 : Int)) + ((48 : Int) + nx (IT (rs (IT (rs (rs m))))) (20 : Int)) + ((48 : Int) + nx (IT (rs (IT (rs (IT (rs (rs m))))))) (20 : Int)))) (.br (qi (W69 A (qq A) (rs (IT (rs (IT (rs (IT (rs (rs m)))))))))) (.br (((0 : Nat) + (CF (rs (IT (rs (IT (rs (IT (rs (rs m))))))))).length).ble (CF (rs (IT (rs (IT (rs (IT (rs (rs m))))))))).length) (.br (([PV.agg [PV.i .i64 (nx m (10 : Int)), PV.lst 3 (.rats 64 (List.take (CF (rs (rs m))).length (List.drop (0 : Nat) (CF (rs (rs m))))))]].length + [PV.agg [PV.i .i64 (nx m (10 : Int) + ((48 : Int) + nx (IT (rs (rs m))) (20 : Int))), PV.lst 3 (.rats 64 (List.take (CF (rs (IT (rs (rs m))))).length (List.drop (0 : Nat) (CF (rs (IT (rs (rs m))))))))]].length + [PV.agg [PV.i .i64 (nx m (10 : Int) + ((48 : Int) + nx (IT (rs (rs m))) (20 : Int)) + ((48 : Int) + nx (IT (rs (IT (rs (rs m))))) (20 : Int))), PV.lst 3 (.rats 64 (List.take (CF (rs (IT (rs (IT (rs (rs m))))))).length (List.drop (0 : Nat) (CF (rs (IT (rs (IT (rs (rs m))))))))))]].length + [PV.agg [PV.i .i64 (nx m (10 : Int) + ((48 : Int) + nx (IT (rs (rs m))) (20 : Int)) + ((48 : Int) + nx (IT (rs (IT (rs (rs m))))) (20 : Int)) + ((48 : Int) + nx (IT (rs (IT (rs (IT (rs (rs m))))))) (20 : Int))), PV.lst 3 (.rats 64 (List.take (CF (rs (IT (rs (IT (rs (IT (rs (rs m))))))))).length (List.drop (0 : Nat) (CF (rs (IT (rs (IT (rs (IT (rs (rs m))))))))))))]].length).ble 4294967296) (.br (decide ((4 : Int) < 1 + nx (rs m) (4 : Int))) (.br (okW (IT (rs (IT (rs (IT (rs (IT (rs (rs m))))))))) && decide ((0 : Int) < 20) && decide ((20 : Int) <= 4294967296)) (.br (ib ((48 : Int) + nx (IT (rs (IT (rs (IT (rs (IT (rs (rs m))))))))) (20 : Int))) (.br (ib (nx m (10 : Int) + ((48 : Int) + nx (IT (rs (rs m))) (20 : Int)) + ((48 : Int) + nx (IT (rs (IT (rs (rs m))))) (20 : Int)) + ((48 : Int) + nx (IT (rs (IT (rs (IT (rs (rs m))))))) (20 : Int)) + ((48 : Int) + nx (IT (rs (IT (rs (IT (rs (IT (rs (rs m))))))))) (20 : Int)))) (.br (qi (W69 A (qq A) (rs (IT (rs (IT (rs (IT (rs (IT (rs (rs m)))))))))))) (.br (((0 : Nat) + (CF (rs (IT (rs (IT (rs (IT (rs (IT (rs (rs m))))))))))).length).ble (CF (rs (IT (rs (IT (rs (IT (rs (IT (rs (rs m))))))))))).length) (.br (([PV.agg [PV.i .i64 (nx m (10 : Int)), PV.lst 3 (.rats 64 (List.take (CF (rs (rs m))).length (List.drop (0 : Nat) (CF (rs (rs m))))))]].length + [PV.agg [PV.i .i64 (nx m (10 : Int) + ((48 : Int) + nx (IT (rs (rs m))) (20 : Int))), PV.lst 3 (.rats 64 (List.take (CF (rs (IT (rs (rs m))))).length (List.drop (0 : Nat) (CF (rs (IT (rs (rs m))))))))]].length + [PV.agg [PV.i .i64 (nx m (10 : Int) + ((48 : Int) + nx (IT (rs (rs m))) (20 : Int)) + ((48 : Int) + nx (IT (rs (IT (rs (rs m))))) (20 : Int))), PV.lst 3 (.rats 64 (List.take (CF (rs (IT (rs (IT (rs (rs m))))))).length (List.drop (0 : Nat) (CF (rs (IT (rs (IT (rs (rs m))))))))))]].length + [PV.agg [PV.i .i64 (nx m (10 : Int) + ((48 : Int) + nx (IT (rs (rs m))) (20 : Int)) + ((48 : Int) + nx (IT (rs (IT (rs (rs m))))) (20 : Int)) + ((48 : Int) + nx (IT (rs (IT (rs (IT (rs (rs m))))))) (20 : Int))), PV.lst 3 (.rats 64 (List.take (CF (rs (IT (rs (IT (rs (IT (rs (rs m))))))))).length (List.drop (0 : Nat) (CF (rs (IT (rs (IT (rs (IT (rs (rs m))))))))))))]].length + [PV.agg [PV.i .i64 (nx m (10 : Int) + ((48 : Int) + nx (IT (rs (rs m))) (20 : Int)) + ((48 : Int) + nx (IT (rs (IT (rs (rs m))))) (20 : Int)) + ((48 : Int) + nx (IT (rs (IT (rs (IT (rs (rs m))))))) (20 : Int)) + ((48 : Int) + nx (IT (rs (IT (rs (IT (rs (IT (rs (rs m))))))))) (20 : Int))), PV.lst 3 (.rats 64 (List.take (CF (rs (IT (rs (IT (rs (IT (rs (IT (rs (rs m))))))))))).length (List.drop (0 : Nat) (CF (rs (IT (rs (IT (rs (IT (rs (IT (rs (rs m))))))))))))))]].length).ble 4294967296) (.no 16) (.no 10002)) (.no 10005)) (.no 1)) (.no 9002)) (.no 9003)) (.no 1)) (.ok (.ret (PV.fr 2 (.vals [PV.agg [PV.i .i64 (nx m (10 : Int)), PV.lst 3 (.rats 64 (List.take (CF (rs (rs m))).length (List.drop (0 : Nat) (CF (rs (rs m))))))], PV.agg [PV.i .i64 (nx m (10 : Int) + ((48 : Int) + nx (IT (rs (rs m))) (20 : Int))), PV.lst 3 (.rats 64 (List.take (CF (rs (IT (rs (rs m))))).length (List.drop (0 : Nat) (CF (rs (IT (rs (rs m))))))))], PV.agg [PV.i .i64 (nx m (10 : Int) + ((48 : Int) + nx (IT (rs (rs m))) (20 : Int)) + ((48 : Int) + nx (IT (rs (IT (rs (rs m))))) (20 : Int))), PV.lst 3 (.rats 64 (List.take (CF (rs (IT (rs (IT (rs (rs m))))))).length (List.drop (0 : Nat) (CF (rs (IT (rs (IT (rs (rs m))))))))))], PV.agg [PV.i .i64 (nx m (10 : Int) + ((48 : Int) + nx (IT (rs (rs m))) (20 : Int)) + ((48 : Int) + nx (IT (rs (IT (rs (rs m))))) (20 : Int)) + ((48 : Int) + nx (IT (rs (IT (rs (IT (rs (rs m))))))) (20 : Int))), PV.lst 3 (.rats 64 (List.take (CF (rs (IT (rs (IT (rs (IT (rs (rs m))))))))).length (List.drop (0 : Nat) (CF (rs (IT (rs (IT (rs (IT (rs (rs m))))))))))))]])) []))) (.no 10002)) (.no 10005)) (.no 1)) (.no 9002)) (.no 9003)) (.no 1)) (.ok (.ret (PV.fr 2 (.vals [PV.agg [PV.i .i64 (nx m (10 : Int)), PV.lst 3 (.rats 64 (List.take (CF (rs (rs m))).length (List.drop (0 : Nat) (CF (rs (rs m))))))], PV.agg [PV.i .i64 (nx m (10 : Int) + ((48 : Int) + nx (IT (rs (rs m))) (20 : Int))), PV.lst 3 (.rats 64 (List.take (CF (rs (IT (rs (rs m))))).length (List.drop (0 : Nat) (CF (rs (IT (rs (rs m))))))))], PV.agg [PV.i .i64 (nx m (10 : Int) + ((48 : Int) + nx (IT (rs (rs m))) (20 : Int)) + ((48 : Int) + nx (IT (rs (IT (rs (rs m))))) (20 : Int))), PV.lst 3 (.rats 64 (List.take (CF (rs (IT (rs (IT (rs (rs m))))))).length (List.drop (0 : Nat) (CF (rs (IT (rs (IT (rs (rs m))))))))))]])) []))) (.no 10002)) (.no 10005)) (.no 1)) (.no 9002)) (.no 9003)) (.no 1)) (.ok (.ret (PV.fr 2 (.vals [PV.agg [PV.i .i64 (nx m (10 : Int)), PV.lst 3 (.rats 64 (List.take (CF (rs (rs m))).length (List.drop (0 : Nat) (CF (rs (rs m))))))], PV.agg [PV.i .i64 (nx m (10 : Int) + ((48 : Int) + nx (IT (rs (rs m))) (20 : Int))), PV.lst 3 (.rats 64 (List.take (CF (rs (IT (rs (rs m))))).length (List.drop (0 : Nat) (CF (rs (IT (rs (rs m))))))))]])) []))) (.no 10002)) (.no 10005)) (.no 1)) (.no 9002)) (.no 9003)) (.no 1)) (.ok (.ret (PV.fr 2 (.vals [PV.agg [PV.i .i64 (nx m (10 : Int)), PV.lst 3 (.rats 64 (List.take (CF (rs (rs m))).length (List.drop (0 : Nat) (CF (rs (rs m))))))]])) []))) (.no 10002)) (.no 10005)) (.no 1)) (.ok (.ret PV.nil []))) (.no 5002)) (.no 1)) (.no 1)).run := by kernel_rfl
theorem fr_fn (e n : Nat) (f : Nat -> PV) (vs : List PV) (hl : vs.length = n) (h : ∀ (i : Nat) (v : PV), vs[i]? = some v -> noRef 8 v = true /\ VLe v (f i)) : RLe (.fr e (.vals vs)) (.fr e (.fn n f)) := by
 subst hl
 exact ⟨fun m => .refl _, fun m => KsLe.one (KLe.fn rfl h)⟩
end
section
open Go
set_option maxRecDepth 100000
theorem list_ext0 {p q : List Rat} {m : Nat} (hp : p.length = m) (hq : q.length = m) (h : ∀ i, i < m -> p.getD i 0 = q.getD i 0) : p = q := by
 apply List.ext_getElem (by omega)
 intro i h1 h2
 have := h i (by omega)
 rwa [List.getD_eq_getElem?_getD, List.getD_eq_getElem?_getD, List.getElem?_eq_getElem h1, List.getElem?_eq_getElem h2] at this
section
variable {m n : Nat} {tk : Nat -> Int} {qs : Nat -> List Rat} (h : TrC m n tk qs)
include h
end
end
section
open Go
set_option maxRecDepth 100000
variable {G : World -> (Nat -> Prop) -> Prop} (hG : GOk G)
end
section
open Go
set_option maxRecDepth 100000
section
variable {A : Am} {n : Nat} {tk : Nat -> Int} {qs : Nat -> List Rat} (h : TrC A.n n tk qs)
include h
end
end
section
open Go Tryd
set_option maxRecDepth 100000
variable {G : World -> (Nat -> Prop) -> Prop} (hG : GOk G)
def b19w : Code := (qg (qe f17)).getD 0 .skip
def st19w (w v : Nat) (xs ys : List Rat) (n i : Int) : LS := ⟨[.lst 3 (.rats w xs), .lst 3 (.rats v ys), .bl false, .i .i64 n, .i .i64 i], []⟩
theorem r19w (w v : Nat) (xs ys : List Rat) (n i : Int) : (qd prog [] [] pol19 f17.ntmps 0 [0, 1, 4, 12, 13] b19w (st19w w v xs ys n i)).run =
 (Tr.br (decide (i < n)) (.br (ix (i) ((xs.length : Int))) (.br (ix (i) ((ys.length : Int))) (.br (!decide (xs.getD i.toNat 0 = ys.getD i.toNat 0)) (.ok (.out .ret (LS.mk [.lst 3 (.rats w xs), .lst 3 (.rats v ys), .bl false, .i .i64 n, .i .i64 i] []))) (.br (ib (i + 1)) (.ok (.out .normal (LS.mk [.lst 3 (.rats w xs), .lst 3 (.rats v ys), .bl false, .i .i64 n, .i .i64 (i + 1)] []))) (.no 9002))) (.no 7003)) (.no 7007)) (.ok (.out (.exit 0) (LS.mk [.lst 3 (.rats w xs), .lst 3 (.rats v ys), .bl false, .i .i64 n, .i .i64 i] [])))).run := by kernel_rfl
theorem e19w (w v : Nat) (xs ys : List Rat) (x : Exit) (i : Int) : (evF prog [] [(4, lcst (st19w w v xs ys xs.length 0) (.exit 0) (st19w w v xs ys xs.length i))] pol19 f17 [.lst 3 (.rats w xs), .lst 3 (.rats v ys)] [] qp).run =
 (Tr.br (!decide ((xs.length : Int) = (ys.length : Int))) (.ok (.ret (.bl false) [])) (.br (qi (isLS (LS.mk [.lst 3 (.rats w xs), .lst 3 (.rats v ys), .bl false, .i .i64 (xs.length : Int), .i .i64 0] []) (LS.mk [.lst 3 (.rats w xs), .lst 3 (.rats v ys), .bl false, .i .i64 (xs.length : Int), .i .i64 0] []))) (.ok (.ret (.bl true) [])) (.no 1))).run := by kernel_rfl
theorem e19b (w v : Nat) (xs ys : List Rat) (x : Exit) (i : Int) : (evF prog [] [(4, lcst (st19w w v xs ys xs.length 0) .ret (st19w w v xs ys xs.length i))] pol19 f17 [.lst 3 (.rats w xs), .lst 3 (.rats v ys)] [] qp).run =
 (Tr.br (!decide ((xs.length : Int) = (ys.length : Int))) (.ok (.ret (.bl false) [])) (.br (qi (isLS (LS.mk [.lst 3 (.rats w xs), .lst 3 (.rats v ys), .bl false, .i .i64 (xs.length : Int), .i .i64 0] []) (LS.mk [.lst 3 (.rats w xs), .lst 3 (.rats v ys), .bl false, .i .i64 (xs.length : Int), .i .i64 0] []))) (.ok (.ret (.bl false) [])) (.no 1))).run := by kernel_rfl
def eqJ (xs ys : List Rat) (j : Nat) : Bool := decide (xs.getD j 0 = ys.getD j 0)
def c19 : Spec := fun args hs K => match args, hs with
 | [.lst 3 (.rats w xs), .lst 3 (.rats v ys)], [] => .br (Nat.ble xs.length ys.length && Nat.ble ys.length xs.length && Nat.ble xs.length 1000) (.br (decide (xs = ys)) (K (.bl true) []) (K (.bl false) [])) (.no 1)
 | _, _ => .no 1
include hG in
theorem ck19 : qc prog G 17 c19 := by
 intro args hs K x h
 unfold c19 at h
 split at h
 case h_2 => cases h
 rename_i w xs v ys
 obtain ⟨hc, hr⟩ := k8 h
 simp only [kD, kH] at hc
 obtain ⟨⟨a1, a2⟩, a3⟩ := hc
 have hl : ys.length = xs.length := by omega
 obtain ⟨g1, g2⟩ := Goes.search (R := Rnd prog G f17.ntmps 0 [0, 1, 4, 12, 13] b19w) (fun j => st19w w v xs ys xs.length ((j : Nat) : Int)) (fun j => st19w w v xs ys xs.length ((j : Nat) : Int)) (eqJ xs ys) xs.length
  (e0 := .exit 0) (e1 := .ret) (fin := st19w w v xs ys xs.length ((xs.length : Nat) : Int)) (by simp) (by simp)
  (fun j hj hf => by
   refine qb hG .nil mix (L := []) (pol := pol19) (O := []) (kA (by kernel_rfl)) (Nat.zero_le _) ?_
   have hb : (!decide (xs.getD j 0 = ys.getD j 0)) = false := by rw [show decide (xs.getD j 0 = ys.getD j 0) = true from hf]; rfl
   rw [r19w, Int.toNat_natCast]
   repeat first | rw [k5 (by first | (simp only [kD, Bool.or_eq_true, kE, kH, Nat.blt_eq, kI, kJ, kK, kM]; omega) | exact hb | exact decP_iff.2 ⟨rfl, trivial⟩ | exact decP_iff.2 rfl | exact kF rfl | decide)] | rw [k6 (by first | (simp only [Bool.and_eq_false_iff, Bool.not_eq_false', kE, kM]; omega) | exact hb | exact congrArg (!·) (kF rfl) | decide)]
   rw [k7]
   rfl)
  (fun j hj hf => by
   refine qb hG .nil mix (L := []) (pol := pol19) (O := []) (kA (by kernel_rfl)) (Nat.zero_le _) ?_
   have hb : (!decide (xs.getD j 0 = ys.getD j 0)) = true := by rw [show decide (xs.getD j 0 = ys.getD j 0) = false from hf]; rfl
   rw [r19w, Int.toNat_natCast]
   repeat first | rw [k5 (by first | (simp only [kD, Bool.or_eq_true, kE, kH, Nat.blt_eq, kI, kJ, kK, kM]; omega) | exact hb | exact decP_iff.2 ⟨rfl, trivial⟩ | exact decP_iff.2 rfl | exact kF rfl | decide)] | rw [k6 (by first | (simp only [Bool.and_eq_false_iff, Bool.not_eq_false', kE, kM]; omega) | exact hb | exact congrArg (!·) (kF rfl) | decide)]
   rw [k7]
   rfl)
  (by
   refine qb hG .nil mix (L := []) (pol := pol19) (O := []) (kA (by kernel_rfl)) (Nat.zero_le _) ?_
   rw [r19w, k6 (kG (by omega)), k7]
   rfl) xs.length 0 (by omega)
 by_cases he : xs = ys
 ·rw [k5 (kF he)] at hr
  refine ⟨_, _, qt hG .nil mix enter19 (O := []) (L := [(4, lcst (st19w w v xs ys xs.length 0) (.exit 0) (st19w w v xs ys xs.length xs.length))]) (pol := pol19) (lps1 (b := b19w) (live := [0, 1, 4, 12, 13]) (m := 0) (by kernel_rfl) (by kernel_rfl) (by kernel_rfl) (lcst_ok (g1 fun j _ _ => by rw [he]; exact kF rfl))) ?_, hr⟩
  refine (e19w w v xs ys .ret _).trans ?_
  repeat first | rw [k5 (by first | (simp only [kD, Bool.or_eq_true, kE, kH, Nat.blt_eq, kI, kJ, kK, kM]; omega) | exact decP_iff.2 ⟨rfl, trivial⟩ | exact decP_iff.2 rfl | exact kF rfl | decide)] | rw [k6 (by first | (simp only [Bool.and_eq_false_iff, Bool.not_eq_false', kE, kM]; omega) | exact congrArg (!·) (kF rfl) | decide)]
  rw [k7]
 ·rw [k6 (kG he)] at hr
  have hn : ¬ ∀ j, 0 <= j -> j < xs.length -> eqJ xs ys j = true := fun hh => he (list_ext0 rfl hl fun i hi => of_decide_eq_true (hh i (Nat.zero_le _) hi))
  refine ⟨_, _, qt hG .nil mix enter19 (O := []) (L := [(4, lcst (st19w w v xs ys xs.length 0) .ret (st19w w v xs ys xs.length (fbad (eqJ xs ys) xs.length 0 : Nat)))]) (pol := pol19) (lps1 (b := b19w) (live := [0, 1, 4, 12, 13]) (m := 0) (by kernel_rfl) (by kernel_rfl) (by kernel_rfl) (lcst_ok (g2 hn))) ?_, hr⟩
  refine (e19b w v xs ys .ret _).trans ?_
  repeat first | rw [k5 (by first | (simp only [kD, Bool.or_eq_true, kE, kH, Nat.blt_eq, kI, kJ, kK, kM]; omega) | exact decP_iff.2 ⟨rfl, trivial⟩ | exact decP_iff.2 rfl | exact kF rfl | decide)] | rw [k6 (by first | (simp only [Bool.and_eq_false_iff, Bool.not_eq_false', kE, kM]; omega) | exact congrArg (!·) (kF rfl) | decide)]
  rw [k7]
def wyE (w : Nat) (q : List Rat) : PV := .lst 3 (.rats w q)
def wyP (w n : Nat) (qs : Nat -> List Rat) : PV := .lst 1 (.fn n (fun j => wyE w (qs j)))
theorem enSc : Enters prog 71 f71 (qe f71) := ⟨func71, by kernel_rfl, rfl⟩
def bSc : Code := (qg (qe f71)).getD 0 .skip
def polSc : Pol := { live := [(9, [2, 4, 20, 21, 22])] }
def RSc (A : Am) (n : Int) : Orc := [(116, cst [qq A, .i .i64 n] True (.i .i64 0))]
def stSc (A : Am) (w n : Nat) (qs : Nat -> List Rat) (i : Int) : LS := ⟨[.ptr 0 12 0 0 [], .i .i64 0, wyP w n qs, .i .i64 n, .i .i64 i], [some ⟨12, .vals [qq A]⟩]⟩
theorem tSc (A : Am) (w n : Nat) (qs : Nat -> List Rat) (i m : Int) : (qd prog (RSc A m) [] polSc f71.ntmps 0 [2, 4, 20, 21, 22] bSc (stSc A w n qs i)).run =
 (Tr.br (decide (i < (n : Int))) (.br (ix (i) ((n : Int))) (.br (qi (isA [qq A, .i .i64 m] True [qq A, .i .i64 (↑(qs i.toNat).length : Int)])) (.br (ib (i + 1)) (.ok (.out .normal (LS.mk [.ptr 0 12 0 0 [], .i .i64 0, .lst 1 (.fn n fun (j : Nat) => .lst 3 (.rats w (qs j))), .i .i64 (n : Int), .i .i64 (i + 1)] [some (.mk 12 (.vals [qq A]))]))) (.no 15002)) (.no 1)) (.no 11003)) (.ok (.out (.exit 0) (LS.mk [.ptr 0 12 0 0 [], .i .i64 0, .lst 1 (.fn n fun (j : Nat) => .lst 3 (.rats w (qs j))), .i .i64 (n : Int), .i .i64 i] [some (.mk 12 (.vals [qq A]))])))).run := by kernel_rfl
def OSc (A : Am) : Orc := [(91, cst [qq A] True (.i .i64 0)), (116, cst [qq A, .i .i64 A.n] True (.i .i64 0))]
theorem eSc (A : Am) (w n : Nat) (qs : Nat -> List Rat) : (evF prog (OSc A) [(9, lcst (stSc A w n qs 0) (.exit 0) (stSc A w n qs n))] polSc f71 [qq A, wyP w n qs] [] qp).run =
 (Tr.br (qi (isA [qq A] True [qq A])) (.br (decide ((n : Int) = 0)) (.ok (.ret (.i .i64 14) [])) (.br (decide ((60 : Int) < (n : Int))) (.ok (.ret (.i .i64 2) [])) (.br (qi (isLS (LS.mk [.ptr 0 12 0 0 [], .i .i64 0, .lst 1 (.fn n fun (j : Nat) => .lst 3 (.rats w (qs j))), .i .i64 (n : Int), .i .i64 0] [some (.mk 12 (.vals [qq A]))]) (LS.mk [.ptr 0 12 0 0 [], .i .i64 0, .lst 1 (.fn n fun (j : Nat) => .lst 3 (.rats w (qs j))), .i .i64 (n : Int), .i .i64 0] [some (.mk 12 (.vals [qq A]))]))) (.ok (.ret (.i .i64 0) [])) (.no 1)))) (.no 1)).run := by kernel_rfl
theorem enGd : Enters prog 72 f72 (qe f72) := ⟨func72, by kernel_rfl, rfl⟩
def bGd : Code := (qg (qe f72)).getD 0 .skip
def polGd : Pol := { live := [(3, [3, 6, 7, 8])] }
def OGd : Orc := [(19, g21), (63, c71)]
theorem tGdN (w : Nat) (xs : List Rat) (n i : Int) : (qd prog OGd [] polGd f72.ntmps 0 [3, 6, 7, 8] bGd (n70 w xs n i)).run =
 (Tr.br (decide (i < n)) (.br (ix (i) ((xs.length : Int))) (.br ((w + 64 + 1).ble 800000) (.br (Nat.blt (0 : Nat) [xs.getD i.toNat 0 + (↑(0 : Int) : Rat)].length && [xs.getD i.toNat 0 + (↑(0 : Int) : Rat)].length.ble 4294967296) (.br (ib (i + 1)) (.ok (.out .normal (LS.mk [.sl 0 3 0 1, .lst 3 (.rats w xs), .i .i64 n, .i .i64 (i + 1)] [some (.mk 3 (.rats ((w + 64 + 1).max (0 : Nat)) [xs.getD i.toNat 0 + (↑(0 : Int) : Rat)]))]))) (.no 7002)) (.no 6002)) (.no 1)) (.no 5004)) (.ok (.out (.exit 0) (LS.mk [.nil, .lst 3 (.rats w xs), .i .i64 n, .i .i64 i] [])))).run := by kernel_rfl
theorem tGdX (w W : Nat) (xs ys : List Rat) (n i : Int) : (qd prog OGd [] polGd f72.ntmps 0 [3, 6, 7, 8] bGd (x70 w W xs ys n i)).run =
 (Tr.br (decide (i < n)) (.br (ix (i) ((xs.length : Int))) (.br ((w + 64 + 1).ble 800000) (.br (ys.length.ble ys.length && (ys.length + [xs.getD i.toNat 0 + (↑(0 : Int) : Rat)].length).ble 4294967296) (.br (ib (i + 1)) (.ok (.out .normal (LS.mk [.sl 0 3 0 (ys.length + [xs.getD i.toNat 0 + (↑(0 : Int) : Rat)].length), .lst 3 (.rats w xs), .i .i64 n, .i .i64 (i + 1)] [some (.mk 3 (.rats (W.max ((w + 64 + 1).max (0 : Nat))) (List.take ys.length (List.drop (0 : Nat) ys) ++ [xs.getD i.toNat 0 + (↑(0 : Int) : Rat)])))]))) (.no 7002)) (.no 6002)) (.no 1)) (.no 5004)) (.ok (.out (.exit 0) (LS.mk [.sl 0 3 0 ys.length, .lst 3 (.rats w xs), .i .i64 n, .i .i64 i] [some (.mk 3 (.rats W ys))])))).run := by kernel_rfl
theorem eGd (w : Nat) (xs : List Rat) : (evF prog OGd [(3, lcst (n70 w xs (xs.length : Nat) 0) (.exit 0) (fin70 w xs))] polGd f72 [.lst 3 (.rats w xs)] [] qp).run =
 (Tr.br (qi (isLS (LS.mk [.nil, .lst 3 (.rats w xs), .i .i64 (xs.length : Int), .i .i64 0] []) (LS.mk [.nil, .lst 3 (.rats w xs), .i .i64 (xs.length : Int), .i .i64 0] []))) (.br (xs.length.ble xs.length) (.ok (.ret (.fr 3 (.rats (w + 64 + 1) (List.take xs.length (List.drop (0 : Nat) xs)))) [])) (.no 15)) (.no 1)).run := by kernel_rfl
theorem enBw : Enters prog 73 f73 (qe f73) := ⟨func73, by kernel_rfl, rfl⟩
def bBw : Code := (qg (qe f73)).getD 0 .skip
def bBi : Code := (qg (qe f73)).getD 1 .skip
def polBw : Pol := { live := [(2, [0, 1, 2, 6, 12, 13]), (5, [0, 1, 2, 6, 7, 12, 13, 17, 18])] }
def OBw : Orc := [(36, g27), (56, g29), (65, g43), (77, g80), (78, g86)]
def stBi (w v u : Nat) (p q r : List Rat) (n i k : Int) : LS := ⟨[wyE w p, wyE v q, wyE u r, .bl false, .i .i64 i, .i .i64 n, .i .i64 i, .i .i64 n, .i .i64 k], []⟩
def stBw (w v u : Nat) (p q r : List Rat) (n i : Int) : LS := ⟨[wyE w p, wyE v q, wyE u r, .bl false, .i .i64 n, .i .i64 i], []⟩
theorem tBi (w v u : Nat) (p q r : List Rat) (i k : Int) : (qd prog OBw [] polBw f73.ntmps 0 [0, 1, 2, 6, 7, 12, 13, 17, 18] bBi (stBi w v u p q r p.length i k)).run =
 (Tr.br (decide (k < (p.length : Int))) (.br (ix (i) ((q.length : Int))) (.br (ix (i) ((p.length : Int))) (.br ((v + w + 1).ble 800000) (.br (ix (k) ((r.length : Int))) (.br (ix (k) ((p.length : Int))) (.br ((u + w + 1).ble 800000) (.br ((v + w + 1 + (u + w + 1)).ble 800000) (.br (ix (k) ((q.length : Int))) (.br (ix (k) ((p.length : Int))) (.br ((v + w + 1).ble 800000) (.br (ix (i) ((r.length : Int))) (.br (ix (i) ((p.length : Int))) (.br ((u + w + 1).ble 800000) (.br ((v + w + 1 + (u + w + 1)).ble 800000) (.br ((v + w + 1 + (u + w + 1) + (v + w + 1 + (u + w + 1))).ble 800000) (.br (!decide (rcmp ((q.getD i.toNat 0 - p.getD i.toNat 0) * (r.getD k.toNat 0 - p.getD k.toNat 0)) ((q.getD k.toNat 0 - p.getD k.toNat 0) * (r.getD i.toNat 0 - p.getD i.toNat 0)) = 0)) (.ok (.out .ret (LS.mk [.lst 3 (.rats w p), .lst 3 (.rats v q), .lst 3 (.rats u r), .bl false, .i .i64 i, .i .i64 (p.length : Int), .i .i64 i, .i .i64 (p.length : Int), .i .i64 k] []))) (.br (ib (k + 1)) (.ok (.out .normal (LS.mk [.lst 3 (.rats w p), .lst 3 (.rats v q), .lst 3 (.rats u r), .bl false, .i .i64 i, .i .i64 (p.length : Int), .i .i64 i, .i .i64 (p.length : Int), .i .i64 (k + 1)] []))) (.no 12002))) (.no 1)) (.no 1)) (.no 1)) (.no 9006)) (.no 9010)) (.no 1)) (.no 9015)) (.no 9019)) (.no 1)) (.no 1)) (.no 8006)) (.no 8010)) (.no 1)) (.no 8015)) (.no 8019)) (.ok (.out (.exit 2) (LS.mk [.lst 3 (.rats w p), .lst 3 (.rats v q), .lst 3 (.rats u r), .bl false, .i .i64 i, .i .i64 (p.length : Int), .i .i64 i, .i .i64 (p.length : Int), .i .i64 k] [])))).run := by kernel_rfl
def lbr (st : LS) (c : Bool) (e1 : Exit) (f1 : LS) (e2 : Exit) (f2 : LS) : qw := fun ls K => .br (qi (isLS st ls)) (.br c (K e1 f1) (K e2 f2)) (.no 1)
def lBi (w v u : Nat) (p q r : List Rat) (i : Int) (c : Bool) (k : Int) : qw := lbr (stBi w v u p q r p.length i 0) c (.exit 2) (stBi w v u p q r p.length i p.length) .ret (stBi w v u p q r p.length i k)
theorem tBw (w v u : Nat) (p q r : List Rat) (i : Int) (c : Bool) (k : Int) : (qd prog OBw [(5, lBi w v u p q r i c k)] polBw f73.ntmps 0 [0, 1, 2, 6, 12, 13] bBw (stBw w v u p q r p.length i)).run =
 (Tr.br (decide (i < (p.length : Int))) (.br (qi (isLS (LS.mk [.lst 3 (.rats w p), .lst 3 (.rats v q), .lst 3 (.rats u r), .bl false, .i .i64 i, .i .i64 (p.length : Int), .i .i64 i, .i .i64 (p.length : Int), .i .i64 0] []) (LS.mk [.lst 3 (.rats w p), .lst 3 (.rats v q), .lst 3 (.rats u r), .bl false, .i .i64 i, .i .i64 (p.length : Int), .i .i64 i, .i .i64 (p.length : Int), .i .i64 0] []))) (.br c (.br (ix (i) ((q.length : Int))) (.br (ix (i) ((p.length : Int))) (.br (ix (i) ((r.length : Int))) (.br ((w + u).ble 400000) (.br ((v + w.max u).ble 800000) (.br (decide (rcmp (q.getD i.toNat 0) (mnR (p.getD i.toNat 0) (r.getD i.toNat 0)) < 0)) (.ok (.out .ret (LS.mk [.lst 3 (.rats w p), .lst 3 (.rats v q), .lst 3 (.rats u r), .bl false, .i .i64 (p.length : Int), .i .i64 i] []))) (.br (ix (i) ((q.length : Int))) (.br (ix (i) ((p.length : Int))) (.br (ix (i) ((r.length : Int))) (.br ((w + u).ble 400000) (.br ((v + w.max u).ble 800000) (.br (decide ((0 : Int) < rcmp (q.getD i.toNat 0) (mxR (p.getD i.toNat 0) (r.getD i.toNat 0)))) (.ok (.out .ret (LS.mk [.lst 3 (.rats w p), .lst 3 (.rats v q), .lst 3 (.rats u r), .bl false, .i .i64 (p.length : Int), .i .i64 i] []))) (.br (ib (i + 1)) (.ok (.out .normal (LS.mk [.lst 3 (.rats w p), .lst 3 (.rats v q), .lst 3 (.rats u r), .bl false, .i .i64 (p.length : Int), .i .i64 (i + 1)] []))) (.no 15002))) (.no 1)) (.no 1)) (.no 13006)) (.no 13010)) (.no 13014))) (.no 1)) (.no 1)) (.no 13022)) (.no 13026)) (.no 13030)) (.ok (.out .ret (LS.mk [.lst 3 (.rats w p), .lst 3 (.rats v q), .lst 3 (.rats u r), .bl false, .i .i64 (p.length : Int), .i .i64 i] [])))) (.no 1)) (.ok (.out (.exit 0) (LS.mk [.lst 3 (.rats w p), .lst 3 (.rats v q), .lst 3 (.rats u r), .bl false, .i .i64 (p.length : Int), .i .i64 i] [])))).run := by kernel_rfl
def lBw (w v u : Nat) (p q r : List Rat) (c : Bool) (k : Int) : qw := lbr (stBw w v u p q r p.length 0) c (.exit 0) (stBw w v u p q r p.length p.length) .ret (stBw w v u p q r p.length k)
theorem eBw (w v u : Nat) (p q r : List Rat) (c : Bool) (k : Int) : (evF prog OBw [(2, lBw w v u p q r c k)] polBw f73 [wyE w p, wyE v q, wyE u r] [] qp).run =
 (Tr.br (qi (isLS (LS.mk [.lst 3 (.rats w p), .lst 3 (.rats v q), .lst 3 (.rats u r), .bl false, .i .i64 (p.length : Int), .i .i64 0] []) (LS.mk [.lst 3 (.rats w p), .lst 3 (.rats v q), .lst 3 (.rats u r), .bl false, .i .i64 (p.length : Int), .i .i64 0] []))) (.br c (.ok (.ret (.bl true) [])) (.ok (.ret (.bl false) []))) (.no 1)).run := by kernel_rfl

include hG in
theorem pcSc (A : Am) (hA : armB A = true) (w n : Nat) (h1 : 1 <= n) (h60 : n <= 60) (qs : Nat -> List Rat) (hl : ∀ j, j < n -> (qs j).length = A.n) : PC prog G 71 [qq A, wyP w n qs] [] (.i .i64 0) [] := by
 have p116 : PC prog G 116 [qq A, .i .i64 A.n] [] (.i .i64 0) [] := by
  obtain ⟨r, hs', p, e⟩ := ok85 hG [qq A, .i .i64 A.n] [] (fun r hs' => .ok (.ret r hs')) (.ret (.i .i64 0) []) (by
   show (Tr.br _ _ _).run = _
   rw [k5 (decP_iff.2 ⟨_, A, rfl, .refl _, hA⟩)]; rfl)
  cases e
  exact p
 have g := Goes.count (R := Rnd prog G f71.ntmps 0 [2, 4, 20, 21, 22] bSc) (fun i => stSc A w n qs ((i : Nat) : Int)) (e := .exit 0) (ls' := stSc A w n qs n) (by simp) n 0
  (fun i _ hi => by
   refine qb hG (.cons (cst_t p116) .nil) mix (L := []) (pol := polSc) (O := RSc A A.n) (kA (by kernel_rfl)) (by simp [stSc]) ?_
   have hp : qi (isA [qq A, .i .i64 A.n] True [qq A, .i .i64 (qs i).length]) = true := decP_iff.2 ⟨by rw [hl i (by omega)], trivial⟩
   rw [tSc, Int.toNat_natCast]
   repeat first | rw [k5 (by first | (simp only [kD, Bool.or_eq_true, kE, kH, Nat.blt_eq, kI, kJ, kK, kM]; omega) | exact hp | exact decP_iff.2 ⟨rfl, trivial⟩ | exact decP_iff.2 rfl | exact kF rfl | decide)] | rw [k6 (by first | (simp only [Bool.and_eq_false_iff, Bool.not_eq_false', kE, kM]; omega) | exact hp | exact congrArg (!·) (kF rfl) | decide)]
   rw [k7]
   rfl)
  (by
   refine qb hG (.cons (cst_t p116) .nil) mix (L := []) (pol := polSc) (O := RSc A A.n) (kA (by kernel_rfl)) (by simp [stSc]) ?_
   rw [tSc, Nat.zero_add, k6 (kG (by omega)), k7]
   rfl)
 refine qt hG (.cons (cst_t (pc91 hG A hA)) (.cons (cst_t p116) .nil)) mix enSc (pol := polSc) (L := [(9, lcst (stSc A w n qs 0) (.exit 0) (stSc A w n qs n))]) (lps1 (b := bSc) (live := [2, 4, 20, 21, 22]) (m := 0) (by kernel_rfl) (by kernel_rfl) (by kernel_rfl) (lcst_ok g)) ?_
 refine (eSc A w n qs).trans ?_
 repeat first | rw [k5 (by first | (simp only [kD, Bool.or_eq_true, kE, kH, Nat.blt_eq, kI, kJ, kK, kM]; omega) | exact decP_iff.2 ⟨rfl, trivial⟩ | exact decP_iff.2 rfl | exact kF rfl | decide)] | rw [k6 (by first | (simp only [Bool.and_eq_false_iff, Bool.not_eq_false', kE, kM]; omega) | exact congrArg (!·) (kF rfl) | decide)]
 rw [k7]
include hG in
theorem orcGd (hT : TabG G) : OrcOK prog G OGd := .cons (gk21 hG hT) (.cons (ck71 hG) .nil)
include hG in
theorem pcGd (hT : TabG G) (w : Nat) (hw : w <= 10000) (xs : List Rat) (h1 : 1 <= xs.length) (h2 : xs.length <= 1000) : PC prog G 72 [.lst 3 (.rats w xs)] [] (.fr 3 (.rats (w + 65) xs)) [] := by
 have g : Goes (Rnd prog G f72.ntmps 0 [3, 6, 7, 8] bGd) (n70 w xs (xs.length : Nat) 0) (.exit 0) (fin70 w xs) := by
  refine Goes.build (xst := fun ys j => x70 w (w + 64 + 1) xs ys (xs.length : Nat) (j : Nat)) (fun j => xs.getD j 0) (by simp) xs.length h1 ?_ ?_ ?_
  ·refine qb hG (orcGd hG hT) mix (L := []) (pol := polGd) (O := OGd) (kA (by kernel_rfl)) (Nat.zero_le _) ?_
   rw [tGdN, show Int.toNat 0 = 0 from rfl, k5 (kF (by omega)), k5 (by simp only [kD, kE]; omega), k5 (by rw [kH]; omega), k5 (by rfl), k5 (by decide), k7, add00]
   rfl
  ·intro ys j hy hj1 hj
   refine qb hG (orcGd hG hT) mix (L := []) (pol := polGd) (O := OGd) (kA (by kernel_rfl)) (Nat.zero_le _) ?_
   rw [tGdX, Int.toNat_natCast, k5 (kF (by omega)), k5 (by simp only [kD, kE]; omega), k5 (by rw [kH]; omega),
    k5 (by simp only [kD, kH, kI, kJ]; omega), k5 (by simp only [kD, kE]; omega), k7, add00, List.drop_zero, List.take_length]
   unfold x70
   rw [List.length_append, mx0]
   rfl
  ·rw [getD_range_map]
   refine qb hG (orcGd hG hT) mix (L := []) (pol := polGd) (O := OGd) (kA (by kernel_rfl)) (Nat.zero_le _) ?_
   rw [tGdX, k6 (kG (by omega)), k7]
   rfl
 refine qt hG (orcGd hG hT) mix enGd (L := [(3, lcst (n70 w xs (xs.length : Nat) 0) (.exit 0) (fin70 w xs))]) (pol := polGd) (lps1 (b := bGd) (live := [3, 6, 7, 8]) (m := 0) (by kernel_rfl) (by kernel_rfl) (by kernel_rfl) (lcst_ok g)) ?_
 rw [eGd, k5 isLS_t, k5 (by rw [kH]; omega), k7, List.drop_zero, List.take_length]
include hG in
theorem ckGd (hT : TabG G) : qc prog G 72 c70 := by
 intro args hs K x h
 unfold c70 at h
 split at h
 case h_2 => cases h
 obtain ⟨hc, hr⟩ := k8 h
 simp only [kD, kH] at hc
 exact ⟨_, _, pcGd hG hT _ hc.2 _ hc.1.1 hc.1.2, hr⟩
def inB (p q r : List Rat) (i k : Nat) : Bool := decide ((q.getD i 0 - p.getD i 0) * (r.getD k 0 - p.getD k 0) = (q.getD k 0 - p.getD k 0) * (r.getD i 0 - p.getD i 0))
def mmB (p q r : List Rat) (i : Nat) : Bool := decide (mnR (p.getD i 0) (r.getD i 0) <= q.getD i 0) && decide (q.getD i 0 <= mxR (p.getD i 0) (r.getD i 0))
def rowB (p q r : List Rat) (i : Nat) : Bool := (List.range p.length).all (inB p q r i)
def okI (p q r : List Rat) (i : Nat) : Bool := rowB p q r i && mmB p q r i
def btw (p q r : List Rat) : Bool := (List.range p.length).all (okI p q r)
theorem all_range {n : Nat} {f : Nat -> Bool} : (List.range n).all f = true ↔ ∀ j, 0 <= j -> j < n -> f j = true := by
 rw [List.all_eq_true]
 exact ⟨fun h j _ hj => h j (List.mem_range.2 hj), fun h j hj => h j (Nat.zero_le _) (List.mem_range.1 hj)⟩
theorem lbr_ok {P : Program} {G : World -> (Nat -> Prop) -> Prop} {n m : Nat} {live : List Nat} {b : Code} {st f1 f2 : LS} {e1 e2 : Exit} {c : Bool} (h1 : c = true -> Goes (Rnd P G n m live b) st e1 f1) (h2 : c = false -> Goes (Rnd P G n m live b) st e2 f2) : qu P G n m live b (lbr st c e1 f1 e2 f2) := by
 intro ls K x hm hh
 obtain ⟨hc, hr⟩ := k8 hh
 obtain rfl := decP_iff.1 hc
 cases c with
 | true => rw [k5 rfl] at hr; exact ⟨_, _, qm (h1 rfl), hr⟩
 | false => rw [k6 rfl] at hr; exact ⟨_, _, qm (h2 rfl), hr⟩
include hG in
theorem orcBw (hT : TabG G) : OrcOK prog G OBw := .cons (gk27 hG hT) (.cons (gk29 hG hT) (.cons (gk43 hG hT) (.cons (gk80 hG hT) (.cons (gk86 hG hT) .nil))))
theorem lps0 {P : Program} {G : World -> (Nat -> Prop) -> Prop} {pol : Pol} {n m : Nat} {L : Lps} {c b : Code} (hc : qg c = [b]) (e : Lps.look (qo b) L = none) : LpsOK P G pol n m L c :=
 LpsOK.of hc fun a ha live' sp' _ g2 => by
  simp at ha
  subst ha
  rw [e] at g2
  cases g2
theorem tBwE (w v u : Nat) (p q r : List Rat) (i : Int) : (qd prog OBw [] polBw f73.ntmps 0 [0, 1, 2, 6, 12, 13] bBw (stBw w v u p q r p.length i)).run =
  (Tr.br (decide (i < (p.length : Int))) (.no 1) (.ok (.out (.exit 0) (stBw w v u p q r p.length i)))).run := by kernel_rfl
include hG in
theorem loopBi (hT : TabG G) (w v u : Nat) (hw : w <= 1000) (hv : v <= 1000) (hu : u <= 1000) (p q r : List Rat) (hq : q.length = p.length) (hr : r.length = p.length) (h9 : p.length <= 1000) (i : Nat) (hi : i < p.length) :
  qu prog G f73.ntmps 0 [0, 1, 2, 6, 7, 12, 13, 17, 18] bBi (lBi w v u p q r i (rowB p q r i) (fbad (inB p q r i) p.length 0 : Nat)) := by
 obtain ⟨g1, g2⟩ := Goes.search (R := Rnd prog G f73.ntmps 0 [0, 1, 2, 6, 7, 12, 13, 17, 18] bBi) (fun j => stBi w v u p q r p.length i ((j : Nat) : Int)) (fun j => stBi w v u p q r p.length i ((j : Nat) : Int)) (inB p q r i) p.length
  (e0 := .exit 2) (e1 := .ret) (fin := stBi w v u p q r p.length i p.length) (by simp) (by simp)
  (fun j hj hf => by
   refine qb hG (orcBw hG hT) mix (L := []) (pol := polBw) (O := OBw) (kA (by kernel_rfl)) (Nat.zero_le _) ?_
   have hb := congrArg (!·) (kF (rcmp_eq.2 (of_decide_eq_true hf)))
   rw [tBi, Int.toNat_natCast, Int.toNat_natCast]
   repeat first | rw [k5 (by first | (simp only [kD, Bool.or_eq_true, kE, kH, Nat.blt_eq, kI, kJ, kK, kM]; omega) | exact hb | exact decP_iff.2 ⟨rfl, trivial⟩ | exact decP_iff.2 rfl | exact kF rfl | decide)] | rw [k6 (by first | (simp only [Bool.and_eq_false_iff, Bool.not_eq_false', kE, kM]; omega) | exact hb | exact congrArg (!·) (kF rfl) | decide)]
   rw [k7]
   rfl)
  (fun j hj hf => by
   refine qb hG (orcBw hG hT) mix (L := []) (pol := polBw) (O := OBw) (kA (by kernel_rfl)) (Nat.zero_le _) ?_
   have hb := congrArg (!·) (kG fun h => of_decide_eq_false hf (rcmp_eq.1 h))
   rw [tBi, Int.toNat_natCast, Int.toNat_natCast]
   repeat first | rw [k5 (by first | (simp only [kD, Bool.or_eq_true, kE, kH, Nat.blt_eq, kI, kJ, kK, kM]; omega) | exact hb | exact decP_iff.2 ⟨rfl, trivial⟩ | exact decP_iff.2 rfl | exact kF rfl | decide)] | rw [k6 (by first | (simp only [Bool.and_eq_false_iff, Bool.not_eq_false', kE, kM]; omega) | exact hb | exact congrArg (!·) (kF rfl) | decide)]
   rw [k7]
   rfl)
  (by
   refine qb hG (orcBw hG hT) mix (L := []) (pol := polBw) (O := OBw) (kA (by kernel_rfl)) (Nat.zero_le _) ?_
   rw [tBi, k6 (kG (by omega)), k7]
   rfl) p.length 0 (by omega)
 refine lbr_ok (fun h => g1 (all_range.1 h)) (fun h => g2 fun hh => ?_)
 have := all_range.2 hh
 rw [show (List.range p.length).all (inB p q r i) = false from h] at this
 cases this
include hG in
theorem pcBw (hT : TabG G) (w v u : Nat) (hw : w <= 1000) (hv : v <= 1000) (hu : u <= 1000) (p q r : List Rat) (hq : q.length = p.length) (hr : r.length = p.length) (h9 : p.length <= 1000) :
  PC prog G 73 [wyE w p, wyE v q, wyE u r] [] (.bl (btw p q r)) [] := by
 have rd : ∀ (i : Nat) (e : Exit) (ls : LS), i < p.length -> (qd prog OBw [(5, lBi w v u p q r i (rowB p q r i) (fbad (inB p q r i) p.length 0 : Nat))] polBw f73.ntmps 0 [0, 1, 2, 6, 12, 13] bBw (stBw w v u p q r p.length i)).run = some (.out e ls) -> Rnd prog G f73.ntmps 0 [0, 1, 2, 6, 12, 13] bBw (stBw w v u p q r p.length i) e ls :=
  fun i e ls hi h => qb hG (orcBw hG hT) mix (pol := polBw) (lps1 (b := bBi) (live := [0, 1, 2, 6, 7, 12, 13, 17, 18]) (by kernel_rfl) (by kernel_rfl) (by kernel_rfl) (loopBi hG hT w v u hw hv hu p q r hq hr h9 i hi)) (Nat.zero_le _) h
 have hmx : (v + w.max u).ble 800000 = true := by
  rw [kH]
  have : w.max u = max w u := rfl
  omega
 obtain ⟨g1, g2⟩ := Goes.search (R := Rnd prog G f73.ntmps 0 [0, 1, 2, 6, 12, 13] bBw) (fun j => stBw w v u p q r p.length ((j : Nat) : Int)) (fun j => stBw w v u p q r p.length ((j : Nat) : Int)) (okI p q r) p.length
  (e0 := .exit 0) (e1 := .ret) (fin := stBw w v u p q r p.length p.length) (by simp) (by simp)
  (fun j hj hf => by
   simp only [okI, mmB, kD, kE] at hf
   obtain ⟨f1, f2, f3⟩ := hf
   refine rd j _ _ hj ?_
   have b1 := kG (Int.not_lt.2 (rcmp_ge.2 f2))
   have b2 := kG (Int.not_lt.2 (rcmp_le.2 f3))
   rw [tBw, Int.toNat_natCast]
   repeat first | rw [k5 (by first | (simp only [kD, Bool.or_eq_true, kE, kH, Nat.blt_eq, kI, kJ, kK, kM]; omega) | exact hmx | exact f1 | exact b1 | exact b2 | exact decP_iff.2 ⟨rfl, trivial⟩ | exact decP_iff.2 rfl | exact kF rfl | decide)] | rw [k6 (by first | (simp only [Bool.and_eq_false_iff, Bool.not_eq_false', kE, kM]; omega) | exact hmx | exact f1 | exact b1 | exact b2 | exact congrArg (!·) (kF rfl) | decide)]
   rw [k7]
   rfl)
  (fun j hj hf => by
   refine rd j _ _ hj ?_
   rw [tBw, Int.toNat_natCast]
   cases f1 : rowB p q r j with
   | false =>
    repeat first | rw [k5 (by first | (simp only [kD, Bool.or_eq_true, kE, kH, Nat.blt_eq, kI, kJ, kK, kM]; omega) | exact decP_iff.2 ⟨rfl, trivial⟩ | exact decP_iff.2 rfl | exact kF rfl | decide)] | rw [k6 (by first | (simp only [Bool.and_eq_false_iff, Bool.not_eq_false', kE, kM]; omega) | exact congrArg (!·) (kF rfl) | decide)]
    rw [k7]
    rfl
   | true =>
    by_cases f2 : mnR (p.getD j 0) (r.getD j 0) <= q.getD j 0
    ·have b1 := kG (Int.not_lt.2 (rcmp_ge.2 f2))
     have f3 : ¬ q.getD j 0 <= mxR (p.getD j 0) (r.getD j 0) := fun f3 => by
      have : okI p q r j = true := by simp only [okI, mmB, kD, kE]; exact ⟨f1, f2, f3⟩
      rw [hf] at this; cases this
     have b2 := kF (rcmp_gt.2 (Rat.not_le.1 f3))
     repeat first | rw [k5 (by first | (simp only [kD, Bool.or_eq_true, kE, kH, Nat.blt_eq, kI, kJ, kK, kM]; omega) | exact hmx | exact b1 | exact b2 | exact decP_iff.2 ⟨rfl, trivial⟩ | exact decP_iff.2 rfl | exact kF rfl | decide)] | rw [k6 (by first | (simp only [Bool.and_eq_false_iff, Bool.not_eq_false', kE, kM]; omega) | exact hmx | exact b1 | exact b2 | exact congrArg (!·) (kF rfl) | decide)]
     rw [k7]
     rfl
    ·have b1 := kF (rcmp_lt.2 (Rat.not_le.1 f2))
     repeat first | rw [k5 (by first | (simp only [kD, Bool.or_eq_true, kE, kH, Nat.blt_eq, kI, kJ, kK, kM]; omega) | exact hmx | exact b1 | exact decP_iff.2 ⟨rfl, trivial⟩ | exact decP_iff.2 rfl | exact kF rfl | decide)] | rw [k6 (by first | (simp only [Bool.and_eq_false_iff, Bool.not_eq_false', kE, kM]; omega) | exact hmx | exact b1 | exact congrArg (!·) (kF rfl) | decide)]
     rw [k7]
     rfl)
  (by
   refine qb hG (orcBw hG hT) mix (pol := polBw) (L := []) (lps0 (b := bBi) (by kernel_rfl) (by kernel_rfl)) (Nat.zero_le _) ((tBwE w v u p q r _).trans ?_)
   rw [k6 (kG (by omega)), k7]
   ) p.length 0 (by omega)
 refine qt hG (orcBw hG hT) mix enBw (hs := []) (pol := polBw) (L := [(2, lBw w v u p q r (btw p q r) (fbad (okI p q r) p.length 0 : Nat))]) (lps1n (b := bBw) (b' := bBi) (live := [0, 1, 2, 6, 12, 13]) (by kernel_rfl) (by kernel_rfl) (by kernel_rfl) (by kernel_rfl) (lbr_ok (fun h => g1 (all_range.1 h)) (fun h => g2 fun hh => ?_))) ((eBw w v u p q r _ _).trans ?_)
 ·have := all_range.2 hh
  rw [show (List.range p.length).all (okI p q r) = false from h] at this
  cases this
 ·rw [k5 isLS_t]
  cases btw p q r <;> rfl
theorem enPn : Enters prog 22 f22 (qe f22) := ⟨func22, by kernel_rfl, rfl⟩
def bPn : Code := (qg (qe f22)).getD 0 .skip
def polPn : Pol := { live := [(6, [1, 7, 8])], own := [19] }
def isBw (w v u : Nat) (p q r : List Rat) : Prop := w <= 1000 /\ v <= 1000 /\ u <= 1000 /\ q.length = p.length /\ r.length = p.length /\ p.length <= 1000
def vBw : Spec := fun args hs K => match args, hs with
 | [.lst 3 (.rats w p), .lst 3 (.rats v q), .lst 3 (.rats u r)], [] => .br (qi (isBw w v u p q r)) (.br (btw p q r) (K (.bl true) []) (K (.bl false) [])) (.no 1)
 | _, _ => .no 1
include hG in
theorem vkBw (hT : TabG G) : qc prog G 73 vBw := by
 intro args hs K x h
 unfold vBw at h
 split at h
 case h_2 => cases h
 rename_i w p v q u r
 obtain ⟨hc, hr⟩ := k8 h
 obtain ⟨h1, h2, h3, h4, h5, h6⟩ := decP_iff.1 hc
 refine ⟨_, _, pcBw hG hT w v u h1 h2 h3 p q r h4 h5 h6, ?_⟩
 cases hb : btw p q r with
 | true => rwa [k5 hb] at hr
 | false => rwa [k6 hb] at hr
def RPn : Orc := [(72, c70), (73, vBw)]
def stPn (w n : Nat) (qs : Nat -> List Rat) (L : List (List Rat)) (i : Int) : LS := ⟨[wyP w n qs, .sl 0 1 0 L.length, .i .i64 i], [some ⟨1, .vals (L.map (wyE (w + 65)))⟩]⟩
def gdC (w : Nat) (q : List Rat) : Bool := Nat.ble 1 q.length && Nat.ble q.length 1000 && Nat.ble w 10000
def apT (w n : Nat) (q : List Rat) (c : Nat) (i : Int) (st : LS) : Tr :=
 .br (decide ((0 : Int) <= i) && decide (i < (n : Int))) (.br (gdC w q) (.br (Nat.ble (0 + q.length) q.length) (.br (Nat.ble (c + 1) 4294967296) (.br (ovf (i + 1)) (.ok (.out .normal st)) (.no 1)) (.no 1)) (.no 1)) (.no 1)) (.no 1)
def trPn (w n : Nat) (qs : Nat -> List Rat) (c : Nat) (l : List Rat) (i : Int) (ap sk ex : LS) : Tr :=
 .br (decide (i < (n : Int))) (.br (ovf ((n : Int) - 1)) (.br (decide (i = (n : Int) - 1)) (apT w n (qs i.toNat) c i ap)
  (.br (ovf ((c : Int) - 1)) (.br (decide ((0 : Int) <= (c : Int) - 1) && decide ((c : Int) - 1 < (c : Int))) (.br (decide ((0 : Int) <= i) && decide (i < (n : Int))) (.br (ovf (i + 1)) (.br (decide ((0 : Int) <= i + 1) && decide (i + 1 < (n : Int)))
   (.br (qi (isBw (w + 65) w w l (qs i.toNat) (qs (i + 1).toNat))) (.br (btw l (qs i.toNat) (qs (i + 1).toNat)) (.br (ovf (i + 1)) (.ok (.out .normal sk)) (.no 1)) (apT w n (qs i.toNat) c i ap)) (.no 1)) (.no 1)) (.no 1)) (.no 1)) (.no 1)) (.no 1))) (.no 1))
 (.ok (.out (.exit 0) ex))
theorem tPn (w n : Nat) (qs : Nat -> List Rat) (i : Int) : ∀ L : List (List Rat), 1 <= L.length -> L.length <= 9 -> (qd prog RPn [] polPn f22.ntmps 0 [1, 7, 8] bPn (stPn w n qs L i)).run =
  (trPn w n qs L.length (L.getLastD []) i (stPn w n qs (L ++ [List.take (qs i.toNat).length (List.drop 0 (qs i.toNat))]) (i + 1)) (stPn w n qs L (i + 1)) (stPn w n qs L i)).run
 | [], h, _ => absurd h (by decide)
 | [a], _, _ => by kernel_rfl
 | [a, b], _, _ => by kernel_rfl
 | [a, b, c], _, _ => by kernel_rfl
 | [a, b, c, d], _, _ => by kernel_rfl
 | [a, b, c, d, e], _, _ => by kernel_rfl
 | [a, b, c, d, e, f], _, _ => by kernel_rfl
 | [a, b, c, d, e, f, g], _, _ => by kernel_rfl
 | [a, b, c, d, e, f, g, h], _, _ => by kernel_rfl
 | [a, b, c, d, e, f, g, h, k], _, _ => by kernel_rfl
 | _ :: _ :: _ :: _ :: _ :: _ :: _ :: _ :: _ :: _ :: _, _, h => by simp only [kI] at h; omega
def OPn (A : Am) (w n : Nat) (qs : Nat -> List Rat) : Orc := [(71, cst [qq A, wyP w n qs] True (.i .i64 0)), (72, c70), (73, vBw)]
theorem ePn (A : Am) (w n : Nat) (qs : Nat -> List Rat) : ∀ L : List (List Rat), 1 <= L.length -> L.length <= 9 -> (evF prog (OPn A w n qs) [(6, lcst (stPn w n qs [List.take (qs 0).length (List.drop 0 (qs 0))] 1) (.exit 0) (stPn w n qs L n))] polPn f22 [qq A, wyP w n qs] [] qp).run =
  (Tr.br (qi (isA [qq A, wyP w n qs] True [qq A, wyP w n qs])) (.br (decide ((0 : Int) <= 0) && decide ((0 : Int) < (n : Int))) (.br (gdC w (qs 0)) (.br (Nat.ble (0 + (qs 0).length) (qs 0).length) (.br (qi (isLS (stPn w n qs [List.take (qs 0).length (List.drop 0 (qs 0))] 1) (stPn w n qs [List.take (qs 0).length (List.drop 0 (qs 0))] 1)))
   (.ok (.ret (.tup [.fr 1 (.vals (L.map (wyE (w + 65)))), .i .i64 0]) [])) (.no 1)) (.no 1)) (.no 1)) (.no 1)) (.no 1)).run
 | [], h, _ => absurd h (by decide)
 | [a], _, _ => by kernel_rfl
 | [a, b], _, _ => by kernel_rfl
 | [a, b, c], _, _ => by kernel_rfl
 | [a, b, c, d], _, _ => by kernel_rfl
 | [a, b, c, d, e], _, _ => by kernel_rfl
 | [a, b, c, d, e, f], _, _ => by kernel_rfl
 | [a, b, c, d, e, f, g], _, _ => by kernel_rfl
 | [a, b, c, d, e, f, g, h], _, _ => by kernel_rfl
 | [a, b, c, d, e, f, g, h, k], _, _ => by kernel_rfl
 | _ :: _ :: _ :: _ :: _ :: _ :: _ :: _ :: _ :: _ :: _, _, h => by simp only [kI] at h; omega
def plN (qs : Nat -> List Rat) (n : Nat) : Nat -> List (List Rat)
 | 0 => [qs 0]
 | i + 1 => if i + 1 = n - 1 \/ btw ((plN qs n i).getLastD []) (qs (i + 1)) (qs (i + 2)) = false then plN qs n i ++ [qs (i + 1)] else plN qs n i
theorem plN_len (qs : Nat -> List Rat) (n : Nat) : ∀ i, 1 <= (plN qs n i).length /\ (plN qs n i).length <= i + 1
 | 0 => ⟨Nat.le_refl _, Nat.le_refl _⟩
 | i + 1 => by
  have ih := plN_len qs n i
  rw [plN]
  split
  ·rw [List.length_append]; simp only [kI, kJ]; omega
  ·omega
theorem plN_mem (qs : Nat -> List Rat) (n m : Nat) : ∀ i, (∀ j, j <= i -> (qs j).length = m) -> ∀ x ∈ plN qs n i, x.length = m
 | 0, h, x, hx => by simp only [plN, List.mem_singleton] at hx; subst hx; exact h 0 (Nat.le_refl _)
 | i + 1, h, x, hx => by
  have ih := plN_mem qs n m i (fun j hj => h j (by omega))
  rw [plN] at hx
  split at hx
  ·rcases List.mem_append.1 hx with h1 | h1
   ·exact ih x h1
   ·simp only [List.mem_singleton] at h1; subst h1; exact h _ (Nat.le_refl _)
  ·exact ih x hx
theorem getLastD_mem {α : Type} : ∀ {L : List α} {d : α}, 1 <= L.length -> L.getLastD d ∈ L
 | [], _, h => absurd h (Nat.not_succ_le_zero 0)
 | [a], _, _ => List.mem_singleton.2 rfl
 | a :: b :: l, d, _ => List.mem_cons_of_mem _ (getLastD_mem (L := b :: l) (d := a) (by simp))
include hG in
theorem pcPn (hT : TabG G) (A : Am) (hA : armB A = true) (w n : Nat) (hw : w <= 900) (h1 : 1 <= n) (h9 : n <= 9) (qs : Nat -> List Rat) (hl : ∀ j, j < n -> (qs j).length = A.n) :
  PC prog G 22 [qq A, wyP w n qs] [] (.tup [.fr 1 (.vals ((plN qs n (n - 1)).map (wyE (w + 65)))), .i .i64 0]) [] := by
 obtain ⟨a1, a2, a3, a4, k1, k3, a7⟩ := armB_c hA
 have oc : OrcOK prog G RPn := .cons (ckGd hG hT) (.cons (vkBw hG hT) .nil)
 have gd : ∀ j, j < n -> gdC w (qs j) = true := fun j hj => by
  have := hl j hj
  simp only [gdC, kD, kH]
  omega
 have run : ∀ (j c : Nat) (st : LS), j < n -> c <= 9 -> (apT w n (qs j) c (j : Nat) st).run = some (.out .normal st) := fun j c st hj hc => by
  unfold apT
  rw [k5 (by simp only [kD, kE]; omega), k5 (gd j hj), k5 (by rw [kH]; omega), k5 (by rw [kH]; omega), k5 (by simp only [ovf, kD, kE]; omega), k7]
 have g := Goes.count (R := Rnd prog G f22.ntmps 0 [1, 7, 8] bPn) (fun i => stPn w n qs (plN qs n i) ((i + 1 : Nat) : Int)) (e := .exit 0) (ls' := stPn w n qs (plN qs n (n - 1)) n) (by simp) (n - 1) 0
  (fun i _ hi => by
   obtain ⟨l1, l2⟩ := plN_len qs n i
   have hm := plN_mem qs n A.n i (fun j hj => hl j (by omega)) _ (getLastD_mem (d := []) l1)
   refine qb hG oc mix (L := []) (pol := polPn) (O := RPn) (kA (by kernel_rfl)) (by simp [stPn]) ((tPn w n qs _ _ l1 (by omega)).trans ?_)
   unfold trPn
   have e2 : (((i + 1 : Nat) : Int) + 1).toNat = i + 2 := by omega
   rw [Int.toNat_natCast, e2, List.drop_zero, List.take_length, k5 (kF (by omega)), k5 (by simp only [ovf, kD, kE]; omega)]
   by_cases he : i + 1 = n - 1
   ·rw [k5 (kF (by omega)), run (i + 1) _ _ (by omega) (by omega), plN, if_pos (.inl he)]
    rfl
   ·have hb : qi (isBw (w + 65) w w ((plN qs n i).getLastD []) (qs (i + 1)) (qs (i + 2))) = true := decP_iff.2 ⟨by omega, by omega, by omega, by rw [hl _ (by omega), hm], by rw [hl _ (by omega), hm], by omega⟩
    rw [k6 (kG (by omega)), k5 (by simp only [ovf, kD, kE]; omega), k5 (by simp only [kD, kE]; omega), k5 (by simp only [kD, kE]; omega),
     k5 (by simp only [ovf, kD, kE]; omega), k5 (by simp only [kD, kE]; omega), k5 hb]
    cases hc : btw ((plN qs n i).getLastD []) (qs (i + 1)) (qs (i + 2)) with
    | true =>
     rw [k5 rfl, k5 (by simp only [ovf, kD, kE]; omega), k7, plN, if_neg (fun h => h.elim he (fun h => by rw [hc] at h; cases h))]
     rfl
    | false =>
     rw [k6 rfl, run (i + 1) _ _ (by omega) (by omega), plN, if_pos (.inr hc)]
     rfl)
  (by
   obtain ⟨l1, l2⟩ := plN_len qs n (n - 1)
   rw [Nat.zero_add, show n - 1 + 1 = n by omega]
   refine qb hG oc mix (L := []) (pol := polPn) (O := RPn) (kA (by kernel_rfl)) (by simp [stPn]) ((tPn w n qs _ _ l1 (by omega)).trans ?_)
   unfold trPn
   rw [k6 (kG (by omega)), k7])
 obtain ⟨l1, l2⟩ := plN_len qs n (n - 1)
 have g0 : Goes (Rnd prog G f22.ntmps 0 [1, 7, 8] bPn) (stPn w n qs [List.take (qs 0).length (List.drop 0 (qs 0))] 1) (.exit 0) (stPn w n qs (plN qs n (n - 1)) n) := by
  rw [List.drop_zero, List.take_length]
  exact g
 refine qt hG (.cons (cst_t (pcSc hG A hA w n h1 (by omega) qs hl)) (.cons (ckGd hG hT) (.cons (vkBw hG hT) .nil))) mix enPn (pol := polPn) (O := OPn A w n qs)
  (L := [(6, lcst (stPn w n qs [List.take (qs 0).length (List.drop 0 (qs 0))] 1) (.exit 0) (stPn w n qs (plN qs n (n - 1)) n))]) (lps1 (b := bPn) (live := [1, 7, 8]) (m := 0) (by kernel_rfl) (by kernel_rfl) (by kernel_rfl) (lcst_ok g0)) ((ePn A w n qs _ l1 (by omega)).trans ?_)
 rw [k5 (decP_iff.2 ⟨rfl, trivial⟩), k5 (by simp only [kD, kE]; omega), k5 (gd 0 (by omega)), k5 (by rw [kH]; omega), k5 isLS_t, k7]
theorem enMs : Enters prog 23 f23 (qe f23) := ⟨func23, by kernel_rfl, rfl⟩
def bMs : Code := (qg (qe f23)).getD 0 .skip
def bMi : Code := (qg (qe f23)).getD 1 .skip
def polMs : Pol := { live := [(6, [1, 4, 7, 8]), (9, [1, 4, 7, 8, 28, 29])] }
def RMs : Orc := [(19, g21), (55, g28), (56, g29)]
def OMs (A : Am) (w n : Nat) (qs : Nat -> List Rat) : Orc := [(63, c71), (71, cst [qq A, wyP w n qs] True (.i .i64 0))]
def rawZ : PV := .agg [.bl false, .s (ByteArray.mk #[]), .s (ByteArray.mk #[])]
def stMs (w n : Nat) (qs : Nat -> List Rat) (s : Rat) (W : Nat) (i : Int) : LS := ⟨[wyP w n qs, .ptr 0 3 0 0 [], .ptr 1 3 0 0 [], .i .i64 i], [some ⟨3, .vals [rawZ]⟩, some ⟨3, .vals [.q s W]⟩]⟩
def stMi (w n : Nat) (qs : Nat -> List Rat) (s : Rat) (W : Nat) (i m k : Int) : LS := ⟨[wyP w n qs, .ptr 0 3 0 0 [], .ptr 1 3 0 0 [], .i .i64 i, .i .i64 m, .i .i64 k], [some ⟨3, .vals [rawZ]⟩, some ⟨3, .vals [.q s W]⟩]⟩
theorem tMi (w n : Nat) (qs : Nat -> List Rat) (s : Rat) (W : Nat) (i m k : Int) : (qd prog RMs [] polMs f23.ntmps 0 [1, 4, 7, 8, 28, 29] bMi (stMi w n qs s W i m k)).run =
 (Tr.br (decide (k < m)) (.br (ix (i) ((n : Int))) (.br (ix (k) ((↑(qs i.toNat).length : Int))) (.br (ib (i - 1)) (.br (ix (i - 1) ((n : Int))) (.br (ix (k) ((↑(qs (i - 1).toNat).length : Int))) (.br ((w + w + 1).ble 800000) (.br ((w + w + 1).ble 800000) (.br ((W + (w + w + 1) + 1).ble 800000) (.br (ib (k + 1)) (.ok (.out .normal (LS.mk [.lst 1 (.fn n fun (j : Nat) => .lst 3 (.rats w (qs j))), .ptr 0 3 0 0 [], .ptr 1 3 0 0 [], .i .i64 i, .i .i64 m, .i .i64 (k + 1)] [some (.mk 3 (.vals [.agg [.bl false, .s (ByteArray.mk #[]), .s (ByteArray.mk #[])]])), some (.mk 3 (.vals [.q (s + rabs ((qs i.toNat).getD k.toNat 0 - (qs (i - 1).toNat).getD k.toNat 0)) (W + (w + w + 1) + 1)]))]))) (.no 13002)) (.no 1)) (.no 1)) (.no 1)) (.no 12006)) (.no 12009)) (.no 12010)) (.no 12014)) (.no 12017)) (.ok (.out (.exit 2) (LS.mk [.lst 1 (.fn n fun (j : Nat) => .lst 3 (.rats w (qs j))), .ptr 0 3 0 0 [], .ptr 1 3 0 0 [], .i .i64 i, .i .i64 m, .i .i64 k] [some (.mk 3 (.vals [.agg [.bl false, .s (ByteArray.mk #[]), .s (ByteArray.mk #[])]])), some (.mk 3 (.vals [.q s W]))])))).run := by kernel_rfl
theorem tMs (w n : Nat) (qs : Nat -> List Rat) (s t : Rat) (W V : Nat) (i m : Int) : (qd prog RMs [(9, lcst (stMi w n qs s W i m 0) (.exit 2) (stMi w n qs t V i m m))] polMs f23.ntmps 0 [1, 4, 7, 8] bMs (stMs w n qs s W i)).run =
 (Tr.br (decide (i < (n : Int))) (.br (ix (i) ((n : Int))) (.br (qi (isLS (LS.mk [.lst 1 (.fn n fun (j : Nat) => .lst 3 (.rats w (qs j))), .ptr 0 3 0 0 [], .ptr 1 3 0 0 [], .i .i64 i, .i .i64 m, .i .i64 0] [some (.mk 3 (.vals [.agg [.bl false, .s (ByteArray.mk #[]), .s (ByteArray.mk #[])]])), some (.mk 3 (.vals [.q s W]))]) (LS.mk [.lst 1 (.fn n fun (j : Nat) => .lst 3 (.rats w (qs j))), .ptr 0 3 0 0 [], .ptr 1 3 0 0 [], .i .i64 i, .i .i64 (↑(qs i.toNat).length : Int), .i .i64 0] [some (.mk 3 (.vals [.agg [.bl false, .s (ByteArray.mk #[]), .s (ByteArray.mk #[])]])), some (.mk 3 (.vals [.q s W]))]))) (.br (ib (i + 1)) (.ok (.out .normal (LS.mk [.lst 1 (.fn n fun (j : Nat) => .lst 3 (.rats w (qs j))), .ptr 0 3 0 0 [], .ptr 1 3 0 0 [], .i .i64 (i + 1)] [some (.mk 3 (.vals [.agg [.bl false, .s (ByteArray.mk #[]), .s (ByteArray.mk #[])]])), some (.mk 3 (.vals [.q t V]))]))) (.no 8002)) (.no 1)) (.no 9004)) (.ok (.out (.exit 0) (LS.mk [.lst 1 (.fn n fun (j : Nat) => .lst 3 (.rats w (qs j))), .ptr 0 3 0 0 [], .ptr 1 3 0 0 [], .i .i64 i] [some (.mk 3 (.vals [.agg [.bl false, .s (ByteArray.mk #[]), .s (ByteArray.mk #[])]])), some (.mk 3 (.vals [.q s W]))])))).run := by kernel_rfl
theorem eMs (A : Am) (w n : Nat) (qs : Nat -> List Rat) (s : Rat) (W : Nat) : (evF prog (OMs A w n qs) [(6, lcst (stMs w n qs ((0 : Int) : Rat) 64 1) (.exit 0) (stMs w n qs s W n))] polMs f23 [qq A, wyP w n qs] [] qp).run =
 (Tr.br (qi (isA [qq A, .lst 1 (.fn n fun (j : Nat) => .lst 3 (.rats w (qs j)))] True [qq A, .lst 1 (.fn n fun (j : Nat) => .lst 3 (.rats w (qs j)))])) (.br (qi (isLS (LS.mk [.lst 1 (.fn n fun (j : Nat) => .lst 3 (.rats w (qs j))), .ptr 0 3 0 0 [], .ptr 1 3 0 0 [], .i .i64 1] [some (.mk 3 (.vals [.agg [.bl false, .s (ByteArray.mk #[]), .s (ByteArray.mk #[])]])), some (.mk 3 (.vals [.q (↑(0 : Int) : Rat) 64]))]) (LS.mk [.lst 1 (.fn n fun (j : Nat) => .lst 3 (.rats w (qs j))), .ptr 0 3 0 0 [], .ptr 1 3 0 0 [], .i .i64 1] [some (.mk 3 (.vals [.agg [.bl false, .s (ByteArray.mk #[]), .s (ByteArray.mk #[])]])), some (.mk 3 (.vals [.q (↑(0 : Int) : Rat) 64]))]))) (.ok (.ret (.tup [.q s W, .i .i64 0]) [])) (.no 1)) (.no 1)).run := by kernel_rfl
def msI (p q : List Rat) (s : Rat) : Nat -> Rat
 | 0 => s
 | k + 1 => msI p q s k + rabs (q.getD k 0 - p.getD k 0)
def msO (qs : Nat -> List Rat) (m : Nat) : Nat -> Rat
 | 0 => ((0 : Int) : Rat)
 | i + 1 => msI (qs i) (qs (i + 1)) (msO qs m i) m
def mW (w : Nat) : Nat -> Nat
 | 0 => 64
 | t + 1 => mW w t + (w + w + 1) + 1
theorem mW_eq (w : Nat) : ∀ t, mW w t = 64 + t * (w + w + 2)
 | 0 => by rw [mW, Nat.zero_mul]
 | t + 1 => by rw [mW, mW_eq w t, Nat.succ_mul]; omega
theorem mW_le {w t : Nat} (hw : w <= 1000) (ht : t <= 30) : mW w t <= 70000 := by
 rw [mW_eq]
 have := Nat.mul_le_mul ht (show w + w + 2 <= 2002 by omega)
 omega
theorem tMsE (w n : Nat) (qs : Nat -> List Rat) (s : Rat) (W : Nat) (i : Int) : (qd prog RMs [] polMs f23.ntmps 0 [1, 4, 7, 8] bMs (stMs w n qs s W i)).run =
  (Tr.br (decide (i < (n : Int))) (.br (ix (i) ((n : Int))) (.no 1) (.no 1)) (.ok (.out (.exit 0) (stMs w n qs s W i)))).run := by kernel_rfl
include hG in
theorem pcMs (hT : TabG G) (A : Am) (hA : armB A = true) (w n : Nat) (hw : w <= 1000) (h1 : 1 <= n) (h9 : n <= 9) (qs : Nat -> List Rat) (hl : ∀ j, j < n -> (qs j).length = A.n) :
  PC prog G 23 [qq A, wyP w n qs] [] (.tup [.q (msO qs A.n (n - 1)) (mW w ((n - 1) * A.n)), .i .i64 0]) [] := by
 obtain ⟨a1, a2, a3, a4, k1, k3, a7⟩ := armB_c hA
 have oc : OrcOK prog G RMs := .cons (gk21 hG hT) (.cons (gk28 hG hT) (.cons (gk29 hG hT) .nil))
 have inner : ∀ (i : Nat) (s : Rat) (t : Nat), i + 1 < n -> t <= 24 -> Goes (Rnd prog G f23.ntmps 0 [1, 4, 7, 8, 28, 29] bMi) (stMi w n qs s (mW w t) ((i + 1 : Nat) : Int) A.n 0) (.exit 2) (stMi w n qs (msI (qs i) (qs (i + 1)) s A.n) (mW w (t + A.n)) ((i + 1 : Nat) : Int) A.n A.n) := fun i s t hi ht =>
  Goes.count (R := Rnd prog G f23.ntmps 0 [1, 4, 7, 8, 28, 29] bMi) (fun k => stMi w n qs (msI (qs i) (qs (i + 1)) s k) (mW w (t + k)) ((i + 1 : Nat) : Int) A.n ((k : Nat) : Int)) (e := .exit 2) (by simp) A.n 0
   (fun k _ hk => by
    have l1 := hl i (by omega)
    have l2 := hl (i + 1) hi
    have hb := mW_le hw (show t + k <= 30 by omega)
    refine qb hG oc mix (L := []) (pol := polMs) (O := RMs) (kA (by kernel_rfl)) (by simp [stMi]) ?_
    have e1 : (((i + 1 : Nat) : Int) - 1).toNat = i := by omega
    rw [tMi, Int.toNat_natCast, Int.toNat_natCast, e1]
    repeat first | rw [k5 (by first | (simp only [kD, Bool.or_eq_true, kE, kH, Nat.blt_eq, kI, kJ, kK, kM]; omega) | exact decP_iff.2 ⟨rfl, trivial⟩ | exact decP_iff.2 rfl | exact kF rfl | decide)] | rw [k6 (by first | (simp only [Bool.and_eq_false_iff, Bool.not_eq_false', kE, kM]; omega) | exact congrArg (!·) (kF rfl) | decide)]
    rw [k7]
    rfl)
   (by
    refine qb hG oc mix (L := []) (pol := polMs) (O := RMs) (kA (by kernel_rfl)) (by simp [stMi]) ?_
    rw [tMi, Nat.zero_add, k6 (kG (by omega)), k7]
    rfl)
 have g := Goes.count (R := Rnd prog G f23.ntmps 0 [1, 4, 7, 8] bMs) (fun i => stMs w n qs (msO qs A.n i) (mW w (i * A.n)) ((i + 1 : Nat) : Int)) (e := .exit 0) (ls' := stMs w n qs (msO qs A.n (n - 1)) (mW w ((n - 1) * A.n)) n) (by simp) (n - 1) 0
  (fun i _ hi => by
   have l2 := hl (i + 1) (by omega)
   have hm : i * A.n <= 24 := by
    have := Nat.mul_le_mul (show i <= 8 by omega) k3
    omega
   refine qb hG oc mix (L := [(9, lcst (stMi w n qs (msO qs A.n i) (mW w (i * A.n)) ((i + 1 : Nat) : Int) A.n 0) (.exit 2) (stMi w n qs (msI (qs i) (qs (i + 1)) (msO qs A.n i) A.n) (mW w (i * A.n + A.n)) ((i + 1 : Nat) : Int) A.n A.n))]) (pol := polMs) (O := RMs)
    (lps1 (b := bMi) (live := [1, 4, 7, 8, 28, 29]) (by kernel_rfl) (by kernel_rfl) (by kernel_rfl) (lcst_ok (inner i (msO qs A.n i) (i * A.n) (by omega) hm))) (by simp [stMs]) ?_
   rw [tMs, Int.toNat_natCast, l2]
   repeat first | rw [k5 (by first | (simp only [kD, Bool.or_eq_true, kE, kH, Nat.blt_eq, kI, kJ, kK, kM]; omega) | exact decP_iff.2 ⟨rfl, trivial⟩ | exact decP_iff.2 rfl | exact kF rfl | decide)] | rw [k6 (by first | (simp only [Bool.and_eq_false_iff, Bool.not_eq_false', kE, kM]; omega) | exact congrArg (!·) (kF rfl) | decide)]
   rw [k7, Nat.succ_mul]
   rfl)
  (by
   refine qb hG oc mix (L := []) (pol := polMs) (O := RMs) (lps0 (b := bMi) (by kernel_rfl) (by kernel_rfl)) (by simp [stMs]) ((tMsE w n qs _ _ _).trans ?_)
   rw [Nat.zero_add, show n - 1 + 1 = n by omega, k6 (kG (by omega)), k7])
 have g0 : Goes (Rnd prog G f23.ntmps 0 [1, 4, 7, 8] bMs) (stMs w n qs ((0 : Int) : Rat) 64 1) (.exit 0) (stMs w n qs (msO qs A.n (n - 1)) (mW w ((n - 1) * A.n)) n) := by
  have e0 : mW w (0 * A.n) = 64 := by rw [Nat.zero_mul]; rfl
  have g' := g
  rw [e0] at g'
  exact g'
 refine qt hG (.cons (ck71 hG) (.cons (cst_t (pcSc hG A hA w n h1 (by omega) qs hl)) .nil)) mix enMs (hs := []) (pol := polMs) (O := OMs A w n qs) (L := [(6, lcst (stMs w n qs ((0 : Int) : Rat) 64 1) (.exit 0) (stMs w n qs (msO qs A.n (n - 1)) (mW w ((n - 1) * A.n)) n))])
  (lps1n (m := 0) (b := bMs) (b' := bMi) (live := [1, 4, 7, 8]) (by kernel_rfl) (by kernel_rfl) (by kernel_rfl) (by kernel_rfl) (lcst_ok g0)) ((eMs A w n qs _ _).trans ?_)
 repeat first | rw [k5 (by first | (simp only [kD, Bool.or_eq_true, kE, kH, Nat.blt_eq, kI, kJ, kK, kM]; omega) | exact decP_iff.2 ⟨rfl, trivial⟩ | exact decP_iff.2 rfl | exact kF rfl | decide)] | rw [k6 (by first | (simp only [Bool.and_eq_false_iff, Bool.not_eq_false', kE, kM]; omega) | exact congrArg (!·) (kF rfl) | decide)]
 rw [k7]
theorem enWy : Enters prog 21 f21 (qe f21) := ⟨func21, by kernel_rfl, rfl⟩
def bWy : Code := (qg (qe f21)).getD 0 .skip
def polWy : Pol := { live := [(4, [2, 5, 6, 12, 13])], wr := [(60, [0])] }
def isP (a b : PV) : Prop := a = b
def vCfW (A : Am) : Spec := fun args hs K => match args, hs with
 | [a, .lst 1 (.ints .i64 ks)], [] => .br (qi (isP a (qq A))) (K (.fr 3 (.rats 64 (cfL A.lk (.lst 1 (.ints .i64 ks)) A.n))) []) (.no 1)
 | _, _ => .no 1
def RWy (A : Am) : Orc := [(30, vCfW A), (60, s45)]
def wyN (A : Am) (v : PV) (n i : Int) : LS := ⟨[.ptr 0 12 0 0 [], .nil, .ptr 1 1 0 0 [], .i .i64 n, .i .i64 i], [some ⟨12, .vals [qq A]⟩, some ⟨1, .vals [.agg [.w v]]⟩]⟩
def wyX (A : Am) (v : PV) (L : List (List Rat)) (n i : Int) : LS := ⟨[.ptr 0 12 0 0 [], .sl 1 1 0 L.length, .ptr 2 1 0 0 [], .i .i64 n, .i .i64 i], [some ⟨12, .vals [qq A]⟩, some ⟨1, .vals (L.map (wyE 64))⟩, some ⟨1, .vals [.agg [.w v]]⟩]⟩
def cfg (A : Am) (v : PV) : List Rat := cfL A.lk (.lst 1 (.ints .i64 [nx v 9, nx (rs v) 9, nx (rs (rs v)) 9])) A.n
def nx9 (v : PV) : Bool := okW v && decide ((0 : Int) < 9) && decide ((9 : Int) <= 4294967296)
def trWy (A : Am) (v : PV) (n i : Int) (c : Bool) (nxt ex : LS) : Tr :=
 .br (decide (i < n)) (.br (nx9 v) (.br (nx9 (rs v)) (.br (nx9 (rs (rs v))) (.br (qi (isP (qq A) (qq A))) (.br (Nat.ble (0 + (cfg A v).length) (cfg A v).length) (.br c (.br (ovf (i + 1)) (.ok (.out .normal nxt)) (.no 1)) (.no 1)) (.no 1)) (.no 1)) (.no 1)) (.no 1)) (.no 1)) (.ok (.out (.exit 0) ex))
theorem tWyN (A : Am) (v : PV) (n i : Int) : (qd prog (RWy A) [] polWy f21.ntmps 0 [2, 5, 6, 12, 13] bWy (wyN A v n i)).run =
  (trWy A v n i true (wyX A (rs (rs (rs v))) [List.take (cfg A v).length (List.drop 0 (cfg A v))] n (i + 1)) (wyN A v n i)).run := by kernel_rfl
theorem tWy (A : Am) (v : PV) (n i : Int) : ∀ L : List (List Rat), 1 <= L.length -> L.length <= 5 -> (qd prog (RWy A) [] polWy f21.ntmps 0 [2, 5, 6, 12, 13] bWy (wyX A v L n i)).run =
  (trWy A v n i (Nat.ble (L.length + 1) 4294967296) (wyX A (rs (rs (rs v))) (L ++ [List.take (cfg A v).length (List.drop 0 (cfg A v))]) n (i + 1)) (wyX A v L n i)).run
 | [], h, _ => absurd h (Nat.not_succ_le_zero 0)
 | [a], _, _ => by kernel_rfl
 | [a, b], _, _ => by kernel_rfl
 | [a, b, c], _, _ => by kernel_rfl
 | [a, b, c, d], _, _ => by kernel_rfl
 | [a, b, c, d, e], _, _ => by kernel_rfl
 | _ :: _ :: _ :: _ :: _ :: _ :: _, _, h => by simp only [kI] at h; omega
theorem eWy (A : Am) (m v : PV) : ∀ L : List (List Rat), 1 <= L.length -> L.length <= 5 -> (evF prog (RWy A) [(4, lcst (wyN A (rs m) (1 + nx m 5) 0) (.exit 0) (wyX A v L (1 + nx m 5) (1 + nx m 5)))] polWy f21 [qq A, .w m] [] qp).run =
  (Tr.br (okW m && decide ((0 : Int) < 5) && decide ((5 : Int) <= 4294967296)) (.br (ovf (1 + nx m 5)) (.br (qi (isLS (wyN A (rs m) (1 + nx m 5) 0) (wyN A (rs m) (1 + nx m 5) 0))) (.ok (.ret (.fr 1 (.vals (L.map (wyE 64)))) [])) (.no 1)) (.no 1)) (.no 1)).run
 | [], h, _ => absurd h (Nat.not_succ_le_zero 0)
 | [a], _, _ => by kernel_rfl
 | [a, b], _, _ => by kernel_rfl
 | [a, b, c], _, _ => by kernel_rfl
 | [a, b, c, d], _, _ => by kernel_rfl
 | [a, b, c, d, e], _, _ => by kernel_rfl
 | _ :: _ :: _ :: _ :: _ :: _ :: _, _, h => by simp only [kI] at h; omega
def wyV (v : PV) : Nat -> PV
 | 0 => v
 | j + 1 => rs (rs (rs (wyV v j)))
theorem okW_wyV {v : PV} (h : okW v = true) : ∀ j, okW (wyV v j) = true
 | 0 => h
 | j + 1 => okW_rs (okW_rs (okW_rs (okW_wyV h j)))
def wayQ (A : Am) (m : PV) (j : Nat) : List Rat := cfg A (wyV (rs m) j)
def wayN (m : PV) : Nat := (1 + nx m 5).toNat
include hG in
theorem vkCfW (A : Am) (hA : armB A = true) (hX : limX A = true) : qc prog G 30 (vCfW A) := by
 intro args hs K x h
 unfold vCfW at h
 split at h
 case h_2 => cases h
 rename_i a ks
 obtain ⟨hc, hr⟩ := k8 h
 obtain rfl : a = qq A := decP_iff.1 hc
 obtain ⟨r, hs', p, e⟩ := ok33 hG [qq A, .w (.lst 1 (.ints .i64 ks))] [] (fun r hs' => .ok (.ret r hs')) (.ret (.fr 3 (.rats 64 (cfL A.lk (.lst 1 (.ints .i64 ks)) A.n))) []) (by
  show (Tr.br _ _ _).run = _
  rw [k5 (decP_iff.2 ⟨okA_arm hA, hX, rfl⟩)]; rfl)
 cases e
 exact ⟨_, _, PC.args (.cons (.refl _) (.cons (vle_w_in rfl) .nil)) p, hr⟩
include hG in
theorem pcWy (A : Am) (hA : armB A = true) (hX : limX A = true) (m : PV) (hm : okW m = true) : PC prog G 21 [qq A, .w m] [] (.fr 1 (.vals (((List.range (wayN m)).map (wayQ A m)).map (wyE 64)))) [] := by
 obtain ⟨r0, r1⟩ := qA m (show (0 : Int) < 5 by omega)
 have oc : OrcOK prog G (RWy A) := .cons (vkCfW hG A hA hX) (.cons (ok45 hG) .nil)
 obtain ⟨n, hn⟩ : ∃ n : Nat, wayN m = n := ⟨_, rfl⟩
 have hN : 1 + nx m 5 = (n : Int) := by unfold wayN at hn; omega
 have k9 : ∀ {v : PV}, okW v = true -> nx9 v = true := fun h => by simp only [nx9, h]; rfl
 have run : ∀ (v : PV) (j : Nat) (c : Bool) (nxt ex : LS), okW v = true -> j < n -> c = true -> (trWy A v n (j : Nat) c nxt ex).run = some (.out .normal nxt) := fun v j c nxt ex hv hj hc => by
  unfold trWy
  rw [k5 (kF (by omega)), k5 (k9 hv), k5 (k9 (okW_rs hv)), k5 (k9 (okW_rs (okW_rs hv))), k5 (decP_iff.2 (show isP _ _ from rfl)), k5 (by rw [kH]; omega), k5 hc, k5 (by simp only [ovf, kD, kE]; omega), k7]
 have ho := okW_rs hm
 have g : Goes (Rnd prog G f21.ntmps 0 [2, 5, 6, 12, 13] bWy) (wyN A (rs m) n 0) (.exit 0) (wyX A (wyV (rs m) n) ((List.range n).map (wayQ A m)) n n) := by
  refine Goes.build (xst := fun L (j : Nat) => wyX A (wyV (rs m) j) L n ((j : Nat) : Int)) (wayQ A m) (by simp) n (by omega) ?_ ?_ ?_
  ·refine qb hG oc mix (L := []) (pol := polWy) (kA (by kernel_rfl)) (by simp [wyN]) ((tWyN A (rs m) n ((0 : Nat) : Int)).trans ?_)
   rw [run (rs m) 0 _ _ _ ho (by omega) rfl, List.drop_zero, List.take_length]
   rfl
  ·intro L j hL h1 hj
   refine qb hG oc mix (L := []) (pol := polWy) (kA (by kernel_rfl)) (by simp [wyX]) ((tWy A (wyV (rs m) j) n ((j : Nat) : Int) L (by omega) (by omega)).trans ?_)
   rw [run _ j _ _ _ (okW_wyV ho j) hj (by rw [kH]; omega), List.drop_zero, List.take_length]
   rfl
  ·refine qb hG oc mix (L := []) (pol := polWy) (kA (by kernel_rfl)) (by simp [wyX]) ((tWy A (wyV (rs m) n) n ((n : Nat) : Int) _ (by simp; omega) (by simp; omega)).trans ?_)
   unfold trWy
   rw [k6 (kG (by omega)), k7]
 have g1 : Goes (Rnd prog G f21.ntmps 0 [2, 5, 6, 12, 13] bWy) (wyN A (rs m) (1 + nx m 5) 0) (.exit 0) (wyX A (wyV (rs m) n) ((List.range n).map (wayQ A m)) (1 + nx m 5) (1 + nx m 5)) := by
  rw [hN]
  exact g
 rw [hn]
 refine qt hG oc mix enWy (pol := polWy) (L := [(4, lcst (wyN A (rs m) (1 + nx m 5) 0) (.exit 0) (wyX A (wyV (rs m) n) ((List.range n).map (wayQ A m)) (1 + nx m 5) (1 + nx m 5)))])
  (lps1 (b := bWy) (live := [2, 5, 6, 12, 13]) (m := 0) (by kernel_rfl) (by kernel_rfl) (by kernel_rfl) (lcst_ok g1)) ((eWy A m _ _ (by simp; omega) (by simp; omega)).trans ?_)
 rw [k5 (by rw [hm]; rfl), k5 (by simp only [ovf, kD, kE]; omega), k5 isLS_t, k7]
end
section
open Go
set_option maxRecDepth 100000
theorem mnR_le {x y z : Rat} (h : mnR x y <= z) : x <= z \/ y <= z := by
 unfold mnR at h
 split at h
 ·exact .inl h
 ·exact .inr h
theorem le_mxR {x y z : Rat} (h : z <= mxR x y) : z <= x \/ z <= y := by
 unfold mxR at h
 split at h
 ·exact .inl h
 ·exact .inr h
theorem zero_of_mul {x d : Rat} (hd : d ≠ 0) (h : x * d = 0) : x = 0 := by
 rcases Rat.mul_eq_zero.1 h with h | h
 ·exact h
 ·exact absurd h hd
theorem btw_all {p q r : List Rat} : btw p q r = true ↔ ∀ i, i < p.length -> (∀ k, k < p.length -> (q.getD i 0 - p.getD i 0) * (r.getD k 0 - p.getD k 0) = (q.getD k 0 - p.getD k 0) * (r.getD i 0 - p.getD i 0)) /\ mnR (p.getD i 0) (r.getD i 0) <= q.getD i 0 /\ q.getD i 0 <= mxR (p.getD i 0) (r.getD i 0) := by
 unfold btw
 rw [all_range]
 refine ⟨fun h i hi => ?_, fun h i _ hi => ?_⟩
 ·have := h i (Nat.zero_le _) hi
  simp only [okI, mmB, kD, kE] at this
  obtain ⟨a, b, c⟩ := this
  exact ⟨fun k hk => of_decide_eq_true (all_range.1 a k (Nat.zero_le _) hk), b, c⟩
 ·obtain ⟨a, b, c⟩ := h i hi
  simp only [okI, mmB, kD, kE]
  exact ⟨all_range.2 fun k _ hk => kF (a k hk), b, c⟩
def isPart (p q r : List Rat) (t : Rat) : Prop := 0 <= t /\ t <= 1 /\ ∀ i, i < p.length -> q.getD i 0 - p.getD i 0 = t * (r.getD i 0 - p.getD i 0)
theorem btw_part {p q r : List Rat} (h : btw p q r = true) : ∃ t, isPart p q r t := by
 have H := btw_all.1 h
 by_cases ha : ∀ i, i < p.length -> r.getD i 0 = p.getD i 0
 ·refine ⟨0, by decide, by decide, fun i hi => ?_⟩
  obtain ⟨-, b, c⟩ := H i hi
  have e := ha i hi
  rw [e] at b c
  have b' := mnR_le b
  have c' := le_mxR c
  grind
 ·obtain ⟨i, hi'⟩ := Classical.not_forall.1 ha
  obtain ⟨hi, hne⟩ := Classical.not_imp.1 hi'
  obtain ⟨a, b, c⟩ := H i hi
  have b' := mnR_le b
  have c' := le_mxR c
  have hd : r.getD i 0 - p.getD i 0 ≠ 0 := by grind
  have hu : (q.getD i 0 - p.getD i 0) / (r.getD i 0 - p.getD i 0) * (r.getD i 0 - p.getD i 0) = q.getD i 0 - p.getD i 0 := Rat.div_mul_cancel hd
  generalize (q.getD i 0 - p.getD i 0) / (r.getD i 0 - p.getD i 0) = u at hu
  refine ⟨u, ?_, ?_, fun k hk => ?_⟩
  ·by_cases g : p.getD i 0 < r.getD i 0
   ·exact nn_of_mul (s := r.getD i 0 - p.getD i 0) (by grind) (by grind)
   ·exact nn_of_mul (s := p.getD i 0 - r.getD i 0) (by grind) (by grind)
  ·have : 0 <= 1 - u := by
    by_cases g : p.getD i 0 < r.getD i 0
    ·exact nn_of_mul (s := r.getD i 0 - p.getD i 0) (by grind) (by grind)
    ·exact nn_of_mul (s := p.getD i 0 - r.getD i 0) (by grind) (by grind)
   grind
  ·have e := a k hk
   rw [<- hu] at e
   have := zero_of_mul (x := (q.getD k 0 - p.getD k 0) - u * (r.getD k 0 - p.getD k 0)) hd (by grind)
   grind
theorem part_btw {p q r : List Rat} {t : Rat} (h : isPart p q r t) : btw p q r = true := by
 obtain ⟨h0, h1, h⟩ := h
 refine btw_all.2 fun i hi => ⟨fun k hk => ?_, ?_, ?_⟩
 ·rw [h i hi, h k hk]; grind
 ·have e := h i hi
  unfold mnR
  split
  ·have := Rat.mul_nonneg h0 (show 0 <= r.getD i 0 - p.getD i 0 by grind)
   grind
  ·have := Rat.mul_nonneg (show 0 <= 1 - t by grind) (show 0 <= p.getD i 0 - r.getD i 0 by grind)
   grind
 ·have e := h i hi
  unfold mxR
  split
  ·have := Rat.mul_nonneg h0 (show 0 <= p.getD i 0 - r.getD i 0 by grind)
   grind
  ·have := Rat.mul_nonneg (show 0 <= 1 - t by grind) (show 0 <= r.getD i 0 - p.getD i 0 by grind)
   grind
def dst (p q : List Rat) (m : Nat) : Rat := msI p q 0 m
def seqL (L : List (List Rat)) (j : Nat) : List Rat := L.getD j []
theorem seq_l {L : List (List Rat)} {x : List Rat} {j : Nat} (h : j < L.length) : seqL (L ++ [x]) j = seqL L j := by
 simp only [seqL, List.getD_eq_getElem?_getD, List.getElem?_append_left h]
theorem seq_last : ∀ {L : List (List Rat)}, 1 <= L.length -> L.getLastD [] = seqL L (L.length - 1)
 | [], h => absurd h (Nat.not_succ_le_zero 0)
 | a :: l, _ => by
  rw [List.getLastD_eq_getLast?, List.getLast?_eq_getElem?]
  simp [seqL, List.getD_eq_getElem?_getD]
end
section
open Go Tryd
set_option maxRecDepth 100000
variable {G : World -> (Nat -> Prop) -> Prop} (hG : GOk G)
theorem enMz : Enters prog 20 f20 (qe f20) := ⟨func20, by kernel_rfl, rfl⟩
def mzQ : Nat -> List Rat
 | 1 => [mkRat 1 1]
 | _ => [mkRat 0 1]
def OMz (S : Am) (wa : PV) (x : Rat) (W : Nat) : Orc := [(23, cst [qq S, wa] True (.tup [.q x W, .i .i64 0])), (27, cst [.lst 1 (.ints .i64 [3])] True (armFr S)), (28, s23)]
theorem eMz (S : Am) (wa : PV) (x : Rat) (W : Nat) : (evF prog (OMz S wa x W) [] {} f20 [] [] qp).run =
  (Tr.br (qi (isA [.lst 1 (.ints .i64 [3])] True [.lst 1 (.ints .i64 [3])])) (.br (Nat.ble (0 + S.n) S.n) (.br (qi (isA [qq S, wa] True [qq S, .lst 1 (.vals [wyE 64 [mkRat 0 1], wyE 64 [mkRat 1 1], wyE 64 [mkRat 0 1]])])) (.ok (.ret (.b (decide (x = mkRat 2 1))) [])) (.no 1)) (.no 1)) (.no 1)).run := by kernel_rfl
include hG in
theorem pcMz (hT : TabG G) : PC prog G 20 [] [] (.bl true) [] := by
 have p := pcMs hG hT (Asam [3]) armB_3 64 3 (by omega) (by omega) (by omega) mzQ (fun j hj => by
  have : j = 0 \/ j = 1 \/ j = 2 := by omega
  rcases this with rfl | rfl | rfl <;> rfl)
 have p' : PC prog G 23 [qq (Asam [3]), .lst 1 (.vals [wyE 64 [mkRat 0 1], wyE 64 [mkRat 1 1], wyE 64 [mkRat 0 1]])] [] _ [] := PC.args (args' := [qq (Asam [3]), wyP 64 3 mzQ]) (.cons (.refl _) (.cons (VLe.lst (c := .vals [wyE 64 [mkRat 0 1], wyE 64 [mkRat 1 1], wyE 64 [mkRat 0 1]]) (d := .fn 3 (fun j => wyE 64 (mzQ j))) rfl fun i hi => by
  have hi' : i < 3 := hi
  have : i = 0 \/ i = 1 \/ i = 2 := by omega
  rcases this with rfl | rfl | rfl <;> exact .refl _) .nil)) p
 have hv : msO mzQ (Asam [3]).n (3 - 1) = mkRat 2 1 := by kernel_rfl
 refine (qt (r := .b true) hG (.cons (cst_t p') (.cons (cst_t (sam3 hG)) (.cons (ok23 hG) .nil))) mix enMz (hs := []) (L := []) (pol := {}) (kA (by kernel_rfl)) ((eMz (Asam [3]) _ _ _).trans ?_)).le (rle_b rfl) (.refl _)
 rw [k5 (decP_iff.2 ⟨rfl, trivial⟩), k5 (by rw [kH, Nat.zero_add]; exact Nat.le_refl _), k5 (decP_iff.2 ⟨rfl, trivial⟩), k7, kF hv]
theorem map_h (w : Nat) (L : List (List Rat)) : ∀ (i : Nat) (v : PV), (L.map (wyE w))[i]? = some v -> noRef 8 v = true /\ VLe v (wyE w (seqL L i)) := fun i v hi => by
 rw [List.getElem?_map] at hi
 cases hj : L[i]? with
 | none => rw [hj] at hi; cases hi
 | some q =>
  rw [hj] at hi
  obtain rfl := Option.some.inj hi
  refine ⟨rfl, ?_⟩
  rw [seqL, List.getD_eq_getElem?_getD, hj]
  exact .refl _
theorem seq_mem {L : List (List Rat)} {j : Nat} (hj : j < L.length) : seqL L j ∈ L := by
 rw [seqL, List.getD_eq_getElem?_getD, List.getElem?_eq_getElem hj]; exact List.getElem_mem hj
include hG in
theorem pcWyF (A : Am) (hA : armB A = true) (hX : limX A = true) (m : PV) (hm : okW m = true) : PC prog G 21 [qq A, .w m] [] (.fr 1 (.fn (wayN m) (fun j => wyE 64 (wayQ A m j)))) [] :=
 (pcWy hG A hA hX m hm).le (fr_fn 1 _ _ _ (by simp) fun i v hi => by
  have := map_h 64 _ i v hi
  refine ⟨this.1, ?_⟩
  have hlt : i < wayN m := by
   have := (List.getElem?_eq_some_iff.1 hi).1
   simpa using this
  have e : seqL ((List.range (wayN m)).map (wayQ A m)) i = wayQ A m i := by
   rw [seqL, List.getD_eq_getElem?_getD, List.getElem?_map, List.getElem?_range hlt]; rfl
  rw [e] at this
  exact this.2) (.refl _)
theorem enBtw : Enters prog 25 f25 (qe f25) := ⟨func25, by kernel_rfl, rfl⟩
def bBtw : Code := (qg (qe f25)).getD 0 .skip
def polBtw : Pol := { live := [(4, [0, 1, 9, 11, 23, 24])] }
def OBtw : Orc := [(19, g21), (56, g29), (65, g43)]
def nBtw (p q : List Rat) (n i : Int) : LS := ⟨[wyE 64 p, wyE 64 q, .ptr 0 3 0 0 [], .nil, .i .i64 n, .i .i64 i], [some ⟨3, .vals [.q hf 3]⟩]⟩
def xBtw (p q ys : List Rat) (n i : Int) : LS := ⟨[wyE 64 p, wyE 64 q, .ptr 0 3 0 0 [], .sl 1 3 0 ys.length, .i .i64 n, .i .i64 i], [some ⟨3, .vals [.q hf 3]⟩, some ⟨3, .rats 197 ys⟩]⟩
def mdX (p q : List Rat) (i : Nat) : Rat := p.getD i 0 + hf * (q.getD i 0 - p.getD i 0)
def trBtw (p q : List Rat) (n i : Int) (c : Bool) (nx ex : LS) : Tr :=
 .br (decide (i < n)) (.br (decide ((0 : Int) <= i) && decide (i < (p.length : Int))) (.br (decide ((0 : Int) <= i) && decide (i < (q.length : Int))) (.br (decide ((0 : Int) <= i) && decide (i < (p.length : Int)))
  (.br c (.br (ovf (i + 1)) (.ok (.out .normal nx)) (.no 1)) (.no 1)) (.no 1)) (.no 1)) (.no 1)) (.ok (.out (.exit 0) ex))
theorem tBtwN (p q : List Rat) (n i : Int) : (qd prog OBtw [] polBtw f25.ntmps 0 [0, 1, 9, 11, 23, 24] bBtw (nBtw p q n i)).run =
  (trBtw p q n i true (xBtw p q [mdX p q i.toNat] n (i + 1)) (nBtw p q n i)).run := by kernel_rfl
theorem tBtwX (p q ys : List Rat) (n i : Int) : (qd prog OBtw [] polBtw f25.ntmps 0 [0, 1, 9, 11, 23, 24] bBtw (xBtw p q ys n i)).run =
  (trBtw p q n i (Nat.ble ys.length ys.length && Nat.ble (ys.length + 1) 4294967296) ⟨[wyE 64 p, wyE 64 q, .ptr 0 3 0 0 [], .sl 1 3 0 (ys.length + 1), .i .i64 n, .i .i64 (i + 1)], [some ⟨3, .vals [.q hf 3]⟩, some ⟨3, .rats 197 (List.take ys.length (List.drop 0 ys) ++ [mdX p q i.toNat])⟩]⟩ (xBtw p q ys n i)).run := by kernel_rfl
theorem eBtw (p q ys : List Rat) : (evF prog [(74, cst [.i .i64 1, .i .i64 2] True (.tup [.q hf 3, .i .i64 0]))] [(4, lcst (nBtw p q p.length 0) (.exit 0) (xBtw p q ys p.length p.length))] polBtw f25 [wyE 64 p, wyE 64 q, .i .i64 1, .i .i64 2] [] qp).run =
  (Tr.br (qi (isA [.i .i64 1, .i .i64 2] True [.i .i64 1, .i .i64 2])) (.br (qi (isLS (nBtw p q p.length 0) (nBtw p q (if (q.length : Int) < (p.length : Int) then (q.length : Int) else (p.length : Int)) 0))) (.br (Nat.ble ys.length ys.length) (.ok (.ret (.fr 3 (.rats 197 (List.take ys.length (List.drop 0 ys)))) [])) (.no 1)) (.no 1)) (.no 1)).run := by kernel_rfl
def md (p q : List Rat) : List Rat := (List.range p.length).map (mdX p q)
include hG in
theorem pcBtm (hT : TabG G) (p q : List Rat) (hq : q.length = p.length) (h1 : 1 <= p.length) (h3 : p.length <= 3) : PC prog G 25 [wyE 64 p, wyE 64 q, .i .i64 1, .i .i64 2] [] (.fr 3 (.rats 197 (md p q))) [] := by
 have oc : OrcOK prog G OBtw := .cons (gk21 hG hT) (.cons (gk29 hG hT) (.cons (gk43 hG hT) .nil))
 have run : ∀ (i : Nat) (c : Bool) (nx ex : LS), i < p.length -> c = true -> (trBtw p q p.length (i : Nat) c nx ex).run = some (.out .normal nx) := fun i c nx ex hi hc => by
  unfold trBtw
  rw [k5 (kF (by omega)), k5 (by simp only [kD, kE]; omega), k5 (by simp only [kD, kE]; omega), k5 (by simp only [kD, kE]; omega), k5 hc, k5 (by simp only [ovf, kD, kE]; omega), k7]
 have g : Goes (Rnd prog G f25.ntmps 0 [0, 1, 9, 11, 23, 24] bBtw) (nBtw p q p.length 0) (.exit 0) (xBtw p q (md p q) p.length p.length) := by
  refine Goes.build (xst := fun ys (j : Nat) => xBtw p q ys p.length ((j : Nat) : Int)) (mdX p q) (by simp) p.length h1 ?_ ?_ ?_
  ·refine qb hG oc mix (L := []) (pol := polBtw) (kA (by kernel_rfl)) (by simp [nBtw]) ((tBtwN p q p.length ((0 : Nat) : Int)).trans ?_)
   rw [run 0 _ _ _ (by omega) rfl]
   rfl
  ·intro ys j hy h1 hj
   refine qb hG oc mix (L := []) (pol := polBtw) (kA (by kernel_rfl)) (by simp [xBtw]) ((tBtwX p q ys p.length ((j : Nat) : Int)).trans ?_)
   rw [run j _ _ _ hj (by simp only [kD, kH]; omega), List.drop_zero, List.take_length]
   unfold xBtw
   rw [List.length_append]
   rfl
  ·refine qb hG oc mix (L := []) (pol := polBtw) (kA (by kernel_rfl)) (by simp [xBtw]) ((tBtwX p q _ p.length _).trans ?_)
   unfold trBtw
   rw [k6 (kG (by omega)), k7]
   rfl
 refine qt hG (.cons (cst_t (pcMk hG hT)) .nil) mix enBtw (hs := []) (pol := polBtw) (L := [(4, lcst (nBtw p q p.length 0) (.exit 0) (xBtw p q (md p q) p.length p.length))]) (lps1 (b := bBtw) (live := [0, 1, 9, 11, 23, 24]) (m := 0) (by kernel_rfl) (by kernel_rfl) (by kernel_rfl) (lcst_ok g)) ((eBtw p q _).trans ?_)
 rw [k5 (decP_iff.2 ⟨rfl, trivial⟩), if_neg (by omega), k5 isLS_t, k5 (by rw [kH]; exact Nat.le_refl _), k7, List.drop_zero, List.take_length]
theorem enSH : Enters prog 5 f5 (qe f5) := ⟨func5, by kernel_rfl, rfl⟩
def bSH : Code := (qg (qe f5)).getD 0 .skip
def polSH : Pol := { live := [(7, [5, 6, 7, 8])], own := [23] }
def altP : Bool -> List (List Rat) -> List PV
 | _, [] => []
 | b, x :: xs => wyE (if b then 64 else 197) x :: altP (!b) xs
def isBm (w v : Nat) (p q : List Rat) (a b : Int) : Prop := w = 64 /\ v = 64 /\ a = 1 /\ b = 2 /\ q.length = p.length /\ 1 <= p.length /\ p.length <= 3
def vBtm : Spec := fun args hs K => match args, hs with
 | [.lst 3 (.rats w p), .lst 3 (.rats v q), .i .i64 a, .i .i64 b], [] => .br (qi (isBm w v p q a b)) (K (.fr 3 (.rats 197 (md p q))) []) (.no 1)
 | _, _ => .no 1
include hG in
theorem vkBtm (hT : TabG G) : qc prog G 25 vBtm := by
 intro args hs K x h
 unfold vBtm at h
 split at h
 case h_2 => cases h
 obtain ⟨hc, hr⟩ := k8 h
 obtain ⟨rfl, rfl, rfl, rfl, h1, h2, h3⟩ := decP_iff.1 hc
 exact ⟨_, _, pcBtm hG hT _ _ h1 h2 h3, hr⟩
def stSH (A : Am) (n : Nat) (qs : Nat -> List Rat) (L : List (List Rat)) (i : Int) : LS := ⟨[.ptr 0 12 0 0 [], wyP 64 n qs, .sl 1 1 0 L.length, .i .i64 i], [some ⟨12, .vals [qq A]⟩, some ⟨1, .vals (altP true L)⟩]⟩
def trSH (n : Nat) (p q : List Rat) (c : Nat) (i : Int) (nx ex : LS) : Tr :=
 .br (decide (i < (n : Int))) (.br (ovf (i - 1)) (.br (decide ((0 : Int) <= i - 1) && decide (i - 1 < (n : Int))) (.br (decide ((0 : Int) <= i) && decide (i < (n : Int))) (.br (qi (isBm 64 64 p q 1 2)) (.br (Nat.ble (0 + (md p q).length) (md p q).length)
  (.br (decide ((0 : Int) <= i) && decide (i < (n : Int))) (.br (Nat.ble (c + 2) 4294967296) (.br (ovf (i + 1)) (.ok (.out .normal nx)) (.no 1)) (.no 1)) (.no 1)) (.no 1)) (.no 1)) (.no 1)) (.no 1)) (.no 1)) (.ok (.out (.exit 0) ex))
theorem tSH (A : Am) (n : Nat) (qs : Nat -> List Rat) (i : Int) : ∀ L : List (List Rat), L.length % 2 = 1 -> L.length <= 9 -> (qd prog [(25, vBtm)] [] polSH f5.ntmps 0 [5, 6, 7, 8] bSH (stSH A n qs L i)).run =
  (trSH n (qs (i - 1).toNat) (qs i.toNat) L.length i (stSH A n qs (L ++ [List.take (md (qs (i - 1).toNat) (qs i.toNat)).length (List.drop 0 (md (qs (i - 1).toNat) (qs i.toNat))), qs i.toNat]) (i + 1)) (stSH A n qs L i)).run
 | [], h, _ => absurd h (by decide)
 | [a], _, _ => by kernel_rfl
 | [_, _], h, _ => by simp only [kI, kJ] at h; omega
 | [a, b, c], _, _ => by kernel_rfl
 | [_, _, _, _], h, _ => by simp only [kI, kJ] at h; omega
 | [a, b, c, d, e], _, _ => by kernel_rfl
 | [_, _, _, _, _, _], h, _ => by simp only [kI, kJ] at h; omega
 | [a, b, c, d, e, f, g], _, _ => by kernel_rfl
 | [_, _, _, _, _, _, _, _], h, _ => by simp only [kI, kJ] at h; omega
 | [a, b, c, d, e, f, g, h, k], _, _ => by kernel_rfl
 | _ :: _ :: _ :: _ :: _ :: _ :: _ :: _ :: _ :: _ ::  _, _, h => by simp only [kI] at h; omega
def vPl2 (C : PV -> Nat -> (Nat -> PV) -> Prop) (C2 : PV -> List PV -> Prop) (N1 : Nat) (ps : Nat -> List Rat) (N2 : Nat) (ys : Nat -> List Rat) : Spec := fun args hs K => match args, hs with
 | [a, .lst 1 (.fn k f)], [] => .br (qi (C a k f)) (K (.tup [.fr 1 (.fn N1 (fun j => wyE 129 (ps j))), .i .i64 0]) []) (.no 1)
 | [a, .lst 1 (.vals xs)], [] => .br (qi (C2 a xs)) (K (.tup [.fr 1 (.fn N2 (fun j => wyE 262 (ys j))), .i .i64 0]) []) (.no 1)
 | _, _ => .no 1
def OSH (l m : PV) (A : Am) (n : Nat) (qs : Nat -> List Rat) (C : PV -> Nat -> (Nat -> PV) -> Prop) (C2 : PV -> List PV -> Prop) (N1 : Nat) (ps : Nat -> List Rat) (N2 : Nat) (ys : Nat -> List Rat) : Orc :=
 [(13, cst [.w l] True (armFr A)), (17, c19), (20, cst [] True (.bl true)), (21, cst [qq A, .w m] True (.fr 1 (.fn n (fun j => wyE 64 (qs j))))), (22, vPl2 C C2 N1 ps N2 ys)]
def eqC (p q : List Rat) (t e : Tr) : Tr := .br (Nat.ble p.length q.length && Nat.ble q.length p.length && Nat.ble p.length 1000) (.br (decide (p = q)) t e) (.no 1)
def trSF (l m : PV) (A : Am) (n : Nat) (qs : Nat -> List Rat) (C : PV -> Nat -> (Nat -> PV) -> Prop) (C2 : PV -> List PV -> Prop) (N1 N2 : Nat) (ys : Nat -> List Rat) (L : List (List Rat)) : Tr :=
 .br (qi (isA [] True [])) (.br (qi (isA [l.w] True [l.w])) (.br (Nat.ble (0 + A.n) A.n) (.br (qi (isA [qq A, m.w] True [qq A, m.w])) (.br (Nat.ble (0 + n) n) (.br (decide ((0 : Int) <= 0) && decide ((0 : Int) < (n : Int)))
  (.br (qi (isLS (stSH A n qs [qs 0] 1) (stSH A n qs [qs 0] 1))) (.br (qi (C (qq A) n (fun j => wyE 64 (qs j)))) (.br (Nat.ble (0 + N1) N1) (.br (qi (C2 (qq A) (altP true L))) (.br (Nat.ble (0 + N2) N2)
   (.br (decide ((N2 : Int) <= (n : Int))) (.br (decide ((N1 : Int) <= (n : Int))) (.br (decide ((0 : Int) < (N2 : Int))) (.br (decide ((0 : Int) <= 0) && decide ((0 : Int) < (N2 : Int))) (.br (decide ((0 : Int) <= 0) && decide ((0 : Int) < (n : Int)))
    (eqC (ys 0) (qs 0) (.br (ovf ((N2 : Int) - 1)) (.br (decide ((0 : Int) <= (N2 : Int) - 1) && decide ((N2 : Int) - 1 < (N2 : Int))) (.br (ovf ((n : Int) - 1)) (.br (decide ((0 : Int) <= (n : Int) - 1) && decide ((n : Int) - 1 < (n : Int)))
     (eqC (ys ((N2 : Int) - 1).toNat) (qs ((n : Int) - 1).toNat) (.ok (.ret (.bl true) [])) (.ok (.ret (.bl false) []))) (.no 1)) (.no 1)) (.no 1)) (.no 1)) (.ok (.ret (.bl false) [])))
    (.no 1)) (.no 1)) (.ok (.ret (.bl false) []))) (.ok (.ret (.bl false) []))) (.ok (.ret (.bl false) []))) (.no 1)) (.no 1)) (.no 1)) (.no 1)) (.no 1)) (.no 1)) (.no 1)) (.no 1)) (.no 1)) (.no 1)) (.no 1)
theorem eSH (l m : PV) (A : Am) (n : Nat) (qs : Nat -> List Rat) (C : PV -> Nat -> (Nat -> PV) -> Prop) (C2 : PV -> List PV -> Prop) (N1 : Nat) (ps : Nat -> List Rat) (N2 : Nat) (ys : Nat -> List Rat) : ∀ L : List (List Rat), L.length % 2 = 1 -> L.length <= 9 ->
  (evF prog (OSH l m A n qs C C2 N1 ps N2 ys) [(7, lcst (stSH A n qs [qs 0] 1) (.exit 0) (stSH A n qs L n))] polSH f5 [.w l, .w m] [] qp).run = (trSF l m A n qs C C2 N1 N2 ys L).run
 | [], h, _ => absurd h (by decide)
 | [a], _, _ => by kernel_rfl
 | [_, _], h, _ => by simp only [kI, kJ] at h; omega
 | [a, b, c], _, _ => by kernel_rfl
 | [_, _, _, _], h, _ => by simp only [kI, kJ] at h; omega
 | [a, b, c, d, e], _, _ => by kernel_rfl
 | [_, _, _, _, _, _], h, _ => by simp only [kI, kJ] at h; omega
 | [a, b, c, d, e, f, g], _, _ => by kernel_rfl
 | [_, _, _, _, _, _, _, _], h, _ => by simp only [kI, kJ] at h; omega
 | [a, b, c, d, e, f, g, h, k], _, _ => by kernel_rfl
 | _ :: _ :: _ :: _ :: _ :: _ :: _ :: _ :: _ :: _ ::  _, _, h => by simp only [kI] at h; omega
end
section
open Go
set_option maxRecDepth 100000
theorem md_get {p q : List Rat} {i : Nat} (h : i < p.length) : (md p q).getD i 0 = p.getD i 0 + hf * (q.getD i 0 - p.getD i 0) := getD_map_range _ h
theorem md_len (p q : List Rat) : (md p q).length = p.length := by rw [md, List.length_map, List.length_range]
theorem hf_bd : 0 <= hf /\ hf <= 1 := by
 have := hf2
 exact ⟨by grind, by grind⟩
theorem half1 (p q : List Rat) : btw p (md p q) q = true :=
 part_btw (t := hf) ⟨hf_bd.1, hf_bd.2, fun i hi => by rw [md_get hi]; grind⟩
theorem half2 {p x y : List Rat} (hx : x.length = p.length) (h : btw p x (md x y) = true) : btw p (md x y) y = true := by
 obtain ⟨t, t0, t1, ht⟩ := btw_part h
 have h2 := hf2
 have hv : 1 / (2 - t) * (2 - t) = 1 := Rat.div_mul_cancel (by grind)
 generalize 1 / (2 - t) = v at hv
 have v0 := nn_of_mul (x := v) (s := 2 - t) (by grind) (by grind)
 have v1 := nn_of_mul (x := 1 - v) (s := 2 - t) (by grind) (by grind)
 refine part_btw (t := v) ⟨v0, by grind, fun i hi => ?_⟩
 have e1 := ht i hi
 have e2 := md_get (p := x) (q := y) (i := i) (by omega)
 have e3 : y.getD i 0 - p.getD i 0 = (2 - t) * ((md x y).getD i 0 - p.getD i 0) := by grind
 rw [e3, <- Rat.mul_assoc, hv]
 grind
def hvL (qs : Nat -> List Rat) : Nat -> List (List Rat)
 | 0 => [qs 0]
 | i + 1 => hvL qs i ++ [md (qs i) (qs (i + 1)), qs (i + 1)]
theorem hvL_len (qs : Nat -> List Rat) : ∀ i, (hvL qs i).length = 2 * i + 1
 | 0 => rfl
 | i + 1 => by rw [hvL, List.length_append, hvL_len qs i]; simp only [kI, kJ]; omega
theorem seq_l2 {L M : List (List Rat)} {j : Nat} (h : j < L.length) : seqL (L ++ M) j = seqL L j := by
 simp only [seqL, List.getD_eq_getElem?_getD, List.getElem?_append_left h]
theorem hv_get (qs : Nat -> List Rat) : ∀ k, (∀ i, i <= k -> seqL (hvL qs k) (2 * i) = qs i) /\ (∀ i, i < k -> seqL (hvL qs k) (2 * i + 1) = md (qs i) (qs (i + 1)))
 | 0 => ⟨fun i hi => by rw [show i = 0 by omega]; rfl, fun i hi => absurd hi (Nat.not_lt_zero _)⟩
 | k + 1 => by
  obtain ⟨a, b⟩ := hv_get qs k
  have hl := hvL_len qs k
  refine ⟨fun i hi => ?_, fun i hi => ?_⟩
  ·rw [hvL]
   rcases Nat.lt_or_ge i (k + 1) with g | g
   ·rw [seq_l2 (by omega), a i (by omega)]
   ·have e : i = k + 1 := by omega
    subst e
    simp only [seqL, List.getD_eq_getElem?_getD]
    rw [List.getElem?_append_right (by omega), show 2 * (k + 1) - (hvL qs k).length = 1 by omega]
    rfl
  ·rw [hvL]
   rcases Nat.lt_or_ge i k with g | g
   ·rw [seq_l2 (by omega), b i g]
   ·have e : i = k := by omega
    subst e
    simp only [seqL, List.getD_eq_getElem?_getD]
    rw [List.getElem?_append_right (by omega), show 2 * i + 1 - (hvL qs i).length = 0 by omega]
    rfl
theorem hv_mem (qs : Nat -> List Rat) (m : Nat) (h : ∀ j, (qs j).length = m) : ∀ k, ∀ x ∈ hvL qs k, x.length = m
 | 0, x, hx => by simp only [hvL, List.mem_singleton] at hx; subst hx; exact h 0
 | k + 1, x, hx => by
  rw [hvL] at hx
  rcases List.mem_append.1 hx with g | g
  ·exact hv_mem qs m h k x g
  ·simp only [List.mem_cons, List.not_mem_nil, or_false] at g
   rcases g with rfl | rfl
   ·rw [md_len]; exact h k
   ·exact h (k + 1)
theorem getLastD_snoc (L : List (List Rat)) (x : List Rat) : (L ++ [x]).getLastD [] = x := by simp
theorem plN_0 (qs : Nat -> List Rat) (n : Nat) : ∀ i, seqL (plN qs n i) 0 = qs 0
 | 0 => rfl
 | i + 1 => by
  obtain ⟨l1, _⟩ := plN_len qs n i
  rw [plN]
  split
  ·rw [seq_l (by omega), plN_0 qs n i]
  ·exact plN_0 qs n i
theorem plN_last (qs : Nat -> List Rat) (n : Nat) (h1 : 1 <= n) : seqL (plN qs n (n - 1)) ((plN qs n (n - 1)).length - 1) = qs (n - 1) := by
 rw [<- seq_last (plN_len qs n (n - 1)).1]
 rcases Nat.lt_or_ge 1 n with h | h
 ·have e : n - 1 = (n - 2) + 1 := by omega
  rw [e, plN, if_pos (.inl (by omega)), getLastD_snoc]
 ·obtain rfl : n = 1 := by omega
  rfl
theorem half_run (qs h : Nat -> List Rat) (n m : Nat) (hm : ∀ j, (qs j).length = m) (a : ∀ i, i < n -> h (2 * i) = qs i) (b : ∀ i, i + 1 < n -> h (2 * i + 1) = md (qs i) (qs (i + 1))) :
  ∀ i, i < n -> (plN h (2 * n - 1) (2 * i)).length <= i + 1 /\ ((plN h (2 * n - 1) (2 * i)).getLastD []).length = m /\ (i + 1 < n -> (plN h (2 * n - 1) (2 * i)).getLastD [] = qs i \/ btw ((plN h (2 * n - 1) (2 * i)).getLastD []) (qs i) (md (qs i) (qs (i + 1))) = true)
 | 0, hi => by
  have e := a 0 hi
  rw [show 2 * 0 = 0 from rfl] at e ⊢
  rw [plN, e]
  exact ⟨Nat.le_refl _, hm 0, fun _ => .inl rfl⟩
 | i + 1, hi => by
  obtain ⟨i1, i2, i3⟩ := half_run qs h n m hm a b i (by omega)
  have hb := b i hi
  have ha := a (i + 1) hi
  rw [show 2 * (i + 1) = 2 * i + 1 + 1 by omega] at ha ⊢
  have e1 : plN h (2 * n - 1) (2 * i + 1) = plN h (2 * n - 1) (2 * i) := by
   have k : btw ((plN h (2 * n - 1) (2 * i)).getLastD []) (md (qs i) (qs (i + 1))) (qs (i + 1)) = true := by
    rcases i3 hi with e | e
    ·rw [e]; exact half1 _ _
    ·exact half2 (by rw [hm, i2]) e
   rw [plN, hb, show 2 * i + 2 = 2 * i + 1 + 1 from rfl, ha, if_neg fun hh => hh.elim (fun hh => by omega) (fun hh => by rw [k] at hh; cases hh)]
  rw [plN, e1, ha]
  split
  ·refine ⟨by rw [List.length_append]; simp only [kI, kJ]; omega, by rw [getLastD_snoc]; exact hm _, fun _ => .inl (getLastD_snoc _ _)⟩
  ·rename_i hh
   refine ⟨by omega, i2, fun hi2 => .inr ?_⟩
   have hb2 := b (i + 1) hi2
   rw [show 2 * i + 1 + 2 = 2 * (i + 1) + 1 by omega, hb2] at hh
   cases hc : btw ((plN h (2 * n - 1) (2 * i)).getLastD []) (qs (i + 1)) (md (qs (i + 1)) (qs (i + 1 + 1))) with
   | true => rfl
   | false => exact absurd (.inr hc) hh
end
section
open Go Tryd
set_option maxRecDepth 100000
variable {G : World -> (Nat -> Prop) -> Prop} (hG : GOk G)
theorem altP_len : ∀ (b : Bool) (L : List (List Rat)), (altP b L).length = L.length
 | _, [] => rfl
 | b, x :: xs => congrArg (· + 1) (altP_len (!b) xs)
theorem altP_le : ∀ (b : Bool) (L : List (List Rat)) (i : Nat), i < L.length -> VLe ((altP b L).getD i .any) (wyE 197 (seqL L i))
 | _, [], _, h => absurd h (Nat.not_lt_zero _)
 | b, x :: xs, 0, _ => rats_le 3 x (by cases b <;> decide)
 | b, x :: xs, i + 1, h => altP_le (!b) xs i (by simpa using h)
def isX (A : Am) (n : Nat) (qs : Nat -> List Rat) (a : PV) (k : Nat) (f : Nat -> PV) : Prop := a = qq A /\ k = n /\ f = (fun j => wyE 64 (qs j))
def isY (A : Am) (L : List (List Rat)) (a : PV) (xs : List PV) : Prop := a = qq A /\ xs = altP true L
include hG in
theorem vkPl2 (hT : TabG G) (A : Am) (hA : armB A = true) (n : Nat) (h1 : 1 <= n) (h5 : n <= 5) (qs : Nat -> List Rat) (hq : ∀ j, (qs j).length = A.n) : qc prog G 22 (vPl2 (isX A n qs) (isY A (hvL qs (n - 1)))
  (plN qs n (n - 1)).length (seqL (plN qs n (n - 1))) (plN (seqL (hvL qs (n - 1))) (2 * n - 1) (2 * n - 1 - 1)).length (seqL (plN (seqL (hvL qs (n - 1))) (2 * n - 1) (2 * n - 1 - 1)))) := by
 intro args hs K x h
 unfold vPl2 at h
 split at h
 case h_3 => cases h
 ·obtain ⟨hc, hr⟩ := k8 h
  obtain ⟨rfl, rfl, rfl⟩ := decP_iff.1 hc
  exact ⟨_, _, (pcPn hG hT A hA 64 _ (by omega) h1 (by omega) qs (fun j _ => hq j)).le (frs_le0 1 _ _ _ (by rw [List.length_map]) (map_h _ _)) (.refl _), hr⟩
 ·obtain ⟨hc, hr⟩ := k8 h
  obtain ⟨rfl, rfl⟩ := decP_iff.1 hc
  have hl := hvL_len qs (n - 1)
  have p := (pcPn hG hT A hA 197 (2 * n - 1) (by omega) (by omega) (by omega) (seqL (hvL qs (n - 1))) (fun j hj => hv_mem qs A.n hq _ _ (seq_mem (by omega)))).le (frs_le0 1 _ _ _ (by rw [List.length_map]) (map_h _ _)) (.refl _)
  refine ⟨_, _, PC.args (args' := [qq A, wyP 197 (2 * n - 1) (seqL (hvL qs (n - 1)))]) (.cons (.refl _) (.cons (VLe.lst (c := .vals (altP true (hvL qs (n - 1)))) (d := .fn (2 * n - 1) (fun j => wyE 197 (seqL (hvL qs (n - 1)) j))) ?_ fun i hi => ?_) .nil)) p, hr⟩
  ·show (altP true (hvL qs (n - 1))).length = 2 * n - 1
   rw [altP_len]; omega
  ·have hi' : i < (altP true (hvL qs (n - 1))).length := hi
   rw [altP_len] at hi'
   exact altP_le true _ i hi'
include hG in
theorem goesSH (hT : TabG G) (A : Am) (n : Nat) (h1 : 1 <= n) (h5 : n <= 5) (qs : Nat -> List Rat) (hq : ∀ j, (qs j).length = A.n) (k1 : 1 <= A.n) (k3 : A.n <= 3) :
  Goes (Rnd prog G f5.ntmps 0 [5, 6, 7, 8] bSH) (stSH A n qs [qs 0] 1) (.exit 0) (stSH A n qs (hvL qs (n - 1)) n) := by
 have oc : OrcOK prog G [(25, vBtm)] := .cons (vkBtm hG hT) .nil
 exact Goes.count (R := Rnd prog G f5.ntmps 0 [5, 6, 7, 8] bSH) (fun i => stSH A n qs (hvL qs i) ((i + 1 : Nat) : Int)) (e := .exit 0) (ls' := stSH A n qs (hvL qs (n - 1)) n) (by simp) (n - 1) 0
  (fun i _ hi => by
   have hl := hvL_len qs i
   refine qb hG oc mix (L := []) (pol := polSH) (kA (by kernel_rfl)) (by simp [stSH]) ((tSH A n qs _ _ (by omega) (by omega)).trans ?_)
   have e1 : (((i + 1 : Nat) : Int) - 1).toNat = i := by omega
   have hb : isBm 64 64 (qs i) (qs (i + 1)) 1 2 := ⟨rfl, rfl, rfl, rfl, by rw [hq, hq], by rw [hq]; exact k1, by rw [hq]; exact k3⟩
   unfold trSH
   rw [Int.toNat_natCast, e1, List.drop_zero, List.take_length, k5 (kF (by omega)), k5 (by simp only [ovf, kD, kE]; omega), k5 (by simp only [kD, kE]; omega), k5 (by simp only [kD, kE]; omega),
    k5 (decP_iff.2 hb), k5 (by rw [kH]; omega), k5 (by simp only [kD, kE]; omega), k5 (by rw [kH]; omega), k5 (by simp only [ovf, kD, kE]; omega), k7]
   rfl)
  (by
   have hl := hvL_len qs (n - 1)
   rw [Nat.zero_add, show n - 1 + 1 = n by omega]
   refine qb hG oc mix (L := []) (pol := polSH) (kA (by kernel_rfl)) (by simp [stSH]) ((tSH A n qs _ _ (by omega) (by omega)).trans ?_)
   unfold trSH
   rw [k6 (kG (by omega)), k7])
theorem eqC_t {p q : List Rat} {t e : Tr} (h : p = q) (hl : p.length <= 1000) : (eqC p q t e).run = t.run := by
 subst h
 unfold eqC
 rw [k5 (by simp only [kD, kH]; omega), k5 (kF rfl)]
include hG in
theorem lawSH (hT : TabG G) (l m : PV) (hl : okW l = true) (hm : okW m = true) : PC prog G 5 [.w l, .w m] [] (.bl true) [] := by
 have hA := armB_V l
 have hX := limX_V l
 have p13 : PC prog G 13 [.w l] [] (armFr (armD l)) [] := by
  obtain ⟨r, hs', p, e⟩ := ok15 hG [.w l] [] (fun r hs' => .ok (.ret r hs')) (.ret (armFr (armD l)) []) (by show (Tr.br _ _ _).run = _; rw [k5 hl]; rfl)
  cases e
  exact p
 generalize armD l = A at *
 obtain ⟨a1, a2, a3, a4, k1, k3, a7⟩ := armB_c hA
 obtain ⟨r0, r1⟩ := qA m (show (0 : Int) < 5 by omega)
 have hn1 : 1 <= wayN m /\ wayN m <= 5 := by unfold wayN; omega
 have hq : ∀ j, (wayQ A m j).length = A.n := fun j => cfL_len _ _ _
 have p21 := pcWyF hG A hA hX m hm
 generalize wayN m = n at *
 generalize wayQ A m = qs at *
 obtain ⟨h1, h5⟩ := hn1
 have v22 := vkPl2 hG hT A hA n h1 h5 qs hq
 have g := goesSH hG hT A n h1 h5 qs hq k1 k3
 have hl := hvL_len qs (n - 1)
 obtain ⟨ga, gb⟩ := hv_get qs (n - 1)
 obtain ⟨i1, -, -⟩ := half_run qs (seqL (hvL qs (n - 1))) n A.n hq (fun i hi => ga i (by omega)) (fun i hi => gb i (by omega)) (n - 1) (by omega)
 obtain ⟨l1, l2⟩ := plN_len qs n (n - 1)
 have e0 : 2 * n - 1 - 1 = 2 * (n - 1) := by omega
 have f1 : seqL (plN (seqL (hvL qs (n - 1))) (2 * n - 1) (2 * n - 1 - 1)) 0 = qs 0 := by rw [plN_0]; exact ga 0 (by omega)
 have f2 := plN_last (seqL (hvL qs (n - 1))) (2 * n - 1) (by omega)
 obtain ⟨y1, y2⟩ := plN_len (seqL (hvL qs (n - 1))) (2 * n - 1) (2 * n - 1 - 1)
 have f3 : seqL (hvL qs (n - 1)) (2 * n - 1 - 1) = qs (n - 1) := by rw [e0]; exact ga (n - 1) (Nat.le_refl _)
 rw [f3] at f2
 rw [<- e0] at i1
 generalize hY : plN (seqL (hvL qs (n - 1))) (2 * n - 1) (2 * n - 1 - 1) = Y at *
 refine qt hG (.cons (cst_t p13) (.cons (ck19 hG) (.cons (cst_t (pcMz hG hT)) (.cons (cst_t p21) (.cons v22 .nil))))) mix enSH (hs := []) (pol := polSH) (L := [(7, lcst (stSH A n qs [qs 0] 1) (.exit 0) (stSH A n qs (hvL qs (n - 1)) n))])
  (lps1 (b := bSH) (live := [5, 6, 7, 8]) (m := 0) (by kernel_rfl) (by kernel_rfl) (by kernel_rfl) (lcst_ok g)) ((eSH l m A n qs _ _ _ _ _ _ (hvL qs (n - 1)) (by omega) (by omega)).trans ?_)
 have b1 : Nat.ble (0 + A.n) A.n = true := by rw [kH]; omega
 have b2 : Nat.ble (0 + n) n = true := by rw [kH]; omega
 unfold trSF
 rw [k5 (decP_iff.2 ⟨rfl, trivial⟩), k5 (decP_iff.2 ⟨rfl, trivial⟩), k5 b1, k5 (decP_iff.2 ⟨rfl, trivial⟩), k5 b2, k5 (by simp only [kD, kE]; omega), k5 isLS_t,
  k5 (decP_iff.2 (show isX A n qs _ _ _ from ⟨rfl, rfl, rfl⟩)), k5 (by rw [kH]; omega), k5 (decP_iff.2 (show isY A _ _ _ from ⟨rfl, rfl⟩)), k5 (by rw [kH]; omega),
  k5 (kF (by omega)), k5 (kF (by omega)), k5 (kF (by omega)), k5 (by simp only [kD, kE]; omega), k5 (by simp only [kD, kE]; omega),
  eqC_t f1 (by rw [f1, hq]; omega), k5 (by simp only [ovf, kD, kE]; omega), k5 (by simp only [kD, kE]; omega), k5 (by simp only [ovf, kD, kE]; omega), k5 (by simp only [kD, kE]; omega),
  show ((Y.length : Int) - 1).toNat = Y.length - 1 by omega, show ((n : Int) - 1).toNat = n - 1 by omega, eqC_t f2 (by rw [f2, hq]; omega), k7]
end
section
open Go
theorem calls_of_does {P : Program} {g : Nat} {fn : Func} {c : Code} (hg : Enters P g fn c) {vs : Array Value} {w : World} {R : Value -> World -> Prop} (h : Does P g vs w R) : Calls P g vs w fun e w' => ∃ v, e = .returned v /\ R v w' := by
 have h1 := h { dst := some 0, op := .move (.const undef), type := 0, pos := "", after := #[], guard := none } ⟨#[undef], []⟩ (fun a w' => ∃ v, a.tmps[0]? = some v /\ R v w') (fun _ _ _ => False) (fun v w' hv => ⟨v, by simp [Act.put], hv⟩)
 have : (callFunc g vs).run P w = .ok (.enter g vs) w := by
  have hname : fn.name ≠ "runtime.NumGoroutine" := by simpa using hg.name
  simp [callFunc, hg.at_, hname, hg.body]
 rw [this, Oper.upon_enter] at h1
 refine h1.mono fun e w' he => ?_
 cases e with
 | returned v =>
  obtain ⟨v', hv, hr⟩ := he
  simp [Act.put] at hv
  subst hv
  exact ⟨v, rfl, hr⟩
 | panicked chain => exact absurd he (by simp)
 | outgrown => exact absurd he (by simp [LetsOut])
theorem HRel.none (w : World) : HRel w (fun _ => False) qE (hget (([] : List Blk).map some)) :=
 ⟨fun b k h => by simp [hget] at h, fun b k a z h => by simp [hget] at h, fun b b' k k' a z z' h => by simp [hget] at h, fun a h => h.elim⟩
theorem keptBut_of_old {w w' : World} (h1 : w'.os = w.os) (h2 : w'.output = w.output) (h3 : ∀ n, n < w.heap.size -> w'.heap[n]? = w.heap[n]?) (may : MemPlace -> Prop) : w.keptBut w' may := by
 refine ⟨h1, h2, fun i hi => ?_⟩
 rw [h3 i hi]
 split
 ·rename_i e1 e2
  rw [e1] at e2
  cases e2
  exact ⟨rfl, rfl, rfl, fun _ _ => rfl⟩
 ·rename_i e1 e2
  rw [e1] at e2
  cases e2
  exact .inr ⟨rfl, rfl⟩
 ·rfl
end
section
open Go Go.ChangeShapes Go.WideShapes
set_option maxRecDepth 100000
def blkOf : Value -> Nat -> Prop
 | .slice (some a) _ _, b => b = a.block
 | _, _ => False
section
variable {H : Type} {enc : TypeId × Value -> H} {P : Program} {w : World} {t e : TypeId} {base : Nat} {v : Value} {d : DataW H} {p : List MemPlace}
theorem arg_ints (ht : P.underlying t = some (.slice e)) (he : P.underlying e = some (.int .i64)) (hc : P.cellsOf e = 1)
  (hval : Value.okWide P w .any base t v) (h : DataW.Trod enc P w 0 (fun _ => true) true t v d p) :
  ∃ u : PV, okW u = true /\ (∀ n ∈ intsW u, -9223372036854775808 <= n /\ n <= 9223372036854775807) /\ (∀ b, blkOf v b -> b < w.heap.size) /\ (∀ S : Nat -> Prop, (∀ b, blkOf v b -> S b) -> RepV w S qE (.w u) v) /\
   (∀ w' : World, (∀ n, n < w.heap.size -> w'.heap[n]? = w.heap[n]?) -> ∃ p', DataW.Trod enc P w' 0 (fun b => decide (b < w.heap.size)) true t v d p') /\
   ((intsW u = [] /\ d = .nil) \/ ∃ sp, d = .slice (lits .i64 (intsW u)) sp) := by
 have hval' := hval
 obtain ⟨a0, len, cap, rfl⟩ := okWide_slice ht hval
 obtain ⟨fuel, hf⟩ := h
 rcases open_ints ht he hc hf with ⟨hcs, hx⟩ | ⟨a, len', cap', zs, hcs, _, hl, hm, hz, hx, hcell, hwz⟩
 ·simp [Value.cells] at hcs
  obtain ⟨rfl, rfl, rfl⟩ := hcs
  simp only [Prod.mk.injEq] at hx
  obtain ⟨rfl, rfl⟩ := hx
  refine ⟨.nil, rfl, fun n hn => (nomatch hn), fun b hb => hb.elim, fun S _ => .cell _ _ _ rfl (.w _ _ _ (.nil _)), fun w' _ => ⟨[], RowKit.shut_slice_nil ht⟩, .inl ⟨rfl, rfl⟩⟩
 ·simp [Value.cells] at hcs
  obtain ⟨rfl, rfl, rfl⟩ := hcs
  simp only [Prod.mk.injEq] at hx
  obtain ⟨rfl, rfl⟩ := hx
  simp only [if_true] at hz
  unfold Value.okWide at hval'
  rw [ht] at hval'
  simp only [Cell.okWide, Cell.ok, ht] at hval'
  obtain ⟨_, _, _, hsp, row, cells, hsh, _⟩ := hval'
  obtain ⟨b, off, spot⟩ := a
  simp only at hsp
  subst hsp
  have hb : b < w.heap.size := by
   unfold World.shape? at hsh
   split at hsh
   ·rename_i hh; exact (Array.getElem?_eq_some_iff.1 hh).1
   ·cases hsh
  have hcell' : ∀ j, j < zs.length -> w.cell? ⟨b, off + j, none⟩ = some (.int .i64 (zs.getD j 0)) := fun j hj => by rw [<- add_plain]; exact hcell j hj
  have hlen : (zs.take len).length = len := by rw [List.length_take]; omega
  refine ⟨.lst 1 (.ints .i64 (zs.take len)), rfl, fun n hn => bounds_i64 (hwz n (List.mem_of_mem_take hn)), fun c hc => (by rw [show c = b from hc]; exact hb), fun S hS => ?_, fun w' hw' => ?_, .inr ⟨_, rfl⟩⟩
  ·refine .cell _ _ _ rfl (.w _ _ _ ?_)
   have := RepC.lst (w := w) (S := S) qE 1 (.ints .i64 (zs.take len)) b off cap (fun j => [.int .i64 ((zs.take len).getD j 0)]) (by show (zs.take len).length <= cap; omega) (hS b rfl)
    (fun i hi => .i _ _ _) (fun _ _ => rfl) (fun i j hi hj => by
     have hi' : i < len := by rw [<- hlen]; exact hi
     obtain rfl : j = 0 := by omega
     show w.cell? ⟨b, off + (i * 1 + 0), none⟩ = _
     rw [Nat.mul_one, Nat.add_zero, hcell' i (by omega)]
     simp [List.getD_eq_getElem?_getD, hi'])
   rw [show (Cont.ints .i64 (zs.take len)).len = len from hlen] at this
   exact this
  ·have hd : decide (b < w.heap.size) = true := kF hb
   exact ⟨_, 2, shut_ints' (enc := enc) (w := w') (base := 0) (spare := fun b => decide (b < w.heap.size)) (held := true) (len := len) (cap := cap) (zs := zs) 0 ht he hc
    (Nat.zero_le b) hl hm (by simp only [hd, if_true]; exact hz) (fun i hi => by rw [cell_block (hw' b hb)]; exact hcell' i hi) hwz⟩
end
end
section
open Go
set_option maxRecDepth 100000
theorem calls_trueG {P : Program} {G : World -> (Nat -> Prop) -> Prop} {g : Nat} {fn : Func} {c : Code} (hg : Enters P g fn c) {args : List PV} (h : PC P G g args [] (.bl true) []) {w : World} {S : Nat -> Prop} {vs : List Value} (hw : G w S) (hS : ∀ a, S a -> a < w.heap.size)
  (hv : RepVL w S qE args vs) (may : MemPlace -> Prop) :
  Calls P g vs.toArray w fun e w' => e = .returned (.bool true) /\ w.keptBut w' may /\ ∀ n, n < w.heap.size -> w'.heap[n]? = w.heap[n]? := by
 refine (calls_of_does hg (h w S qE vs hw hv ⟨fun b k h => by simp [hget] at h, fun b k a z h => by simp [hget] at h, fun b b' k k' a z z' h => by simp [hget] at h, hS⟩ (fun _ _ => rfl))).mono fun e w' he => ?_
 obtain ⟨v, rfl, S', μ', c⟩ := he
 have hr := c.rep
 have : v = .bool true := by
  cases hr with
  | cell _ _ _ _ h => cases h; rfl
  | agg _ _ _ hv h => simp [isAgg, unfr, unfrA, unfr1] at hv
 subst this
 have old : ∀ n, n < w.heap.size -> w'.heap[n]? = w.heap[n]? := fun n hn => c.old n hn (fun b z hb => by simp at hb)
 exact ⟨rfl, keptBut_of_old c.os c.output old may, old⟩
def TG (w : World) (S : Nat -> Prop) : Prop := S 1 /\ Go.Proofs.TabAt 1 Go.Lib.deBruijn64tab w
theorem tg_ok : GOk TG := fun _ _ _ _ m h => ⟨m.sub 1 h.1, fun j hj => (m.cell 1 h.1 j).trans (h.2 j hj)⟩
theorem tg_tab : TabG TG := fun _ _ h => h.2
theorem tab_block {w : World} (h : Go.Proofs.TabAt 1 Go.Lib.deBruijn64tab w) : 1 < w.heap.size := by
 have h0 := h 0 (by decide)
 rcases Nat.lt_or_ge 1 w.heap.size with h1 | h1
 ·exact h1
 ·unfold World.cell? at h0
  rw [show w.heap[(⟨1, 0, none⟩ : Addr).block]? = none from Array.getElem?_eq_none h1] at h0
  cases h0
theorem tab_of_laid {laid : List (String × DataW Unit)} {W : World} (hl : laid = [("math/bits.deBruijn64tab", Go.Lib.tabData .u8 (Go.Lib.deBruijn64tab.map fun n : Nat => (n : Int)))]) (h : laidMetH Tryd.prog laid W) : Go.Proofs.TabAt 1 Go.Lib.deBruijn64tab W := by
 subst hl
 have h1 : laidMet Tryd.prog [("math/bits.deBruijn64tab", Go.Lib.tabData .u8 (Go.Lib.deBruijn64tab.map fun n : Nat => (n : Int)))] W := h
 have h2 := Go.Lib.tabIs_of_head (g := 1) (t := 199) (e := 5) (n := 64) (by kernel_rfl) (by kernel_rfl) (by kernel_rfl) (by kernel_rfl) (by kernel_rfl) (by kernel_rfl) h1
 intro j hj
 have h3 := h2.cell (g := 1) (by kernel_rfl) j (by rw [List.length_map]; exact hj)
 rw [h3, List.getD_eq_getElem?_getD, List.getD_eq_getElem?_getD, List.getElem?_map, List.getElem?_eq_getElem hj]
 rfl
end
end Go.Proofs.YtnenjkgffapplaaDoor.PE
