/-
  Part 6 of the proof: contracts of the program's functions. Conditions: those of the theorems below.
-/
import Derived.Test.YteggojnjinealaaGreatDoorCk5
import Derived.Test.YteggojnjinealaaGreatDoorCk2
import Derived.RowKit3
import GoSem.ClaimChange
import Derived.ChangeSlices
import Derived.WideShapes
import Derived.OpenShut
import Derived.Test.YteggojnjinealaaGreatDoorCk3
import Derived.Lib.LaidTab
set_option linter.all false
noncomputable section
namespace Go.Proofs.YteggojnjinealaaGreatDoor.PE
section
open Go Tryz
set_option maxRecDepth 100000
variable {G : World -> (Nat -> Prop) -> Prop} (hG : GOk G)
theorem enSl : Enters prog 71 f71 (qd f71) := ⟨func71, by kernel_rfl, rfl⟩
def bSl : Code := (qi (qd f71)).getD 0 .skip
def iSl : Code := (qi (qd f71)).getD 1 .skip
def polSl : Pol := { live := [(6, [0, 1, 2, 8, 9, 36, 37]), (11, [0, 1, 2, 8, 9, 11, 12, 36, 37, 47, 48])], own := [76] }
def lsB (B : Nat -> Int -> Rat) (k : Int) : Nat -> List Rat
 | 1 => [B 0 k]
 | 2 => [B 0 k, B 1 k]
 | 3 => [B 0 k, B 1 k, B 2 k]
 | _ => []
def isSl (p q : List Rat) (n : Int) (p' q' : List Rat) (k m : Int) : Prop := p' = p /\ q' = q /\ m = n /\ 0 <= k /\ k <= n
def vSl (p q : List Rat) (n : Int) (B : Nat -> Int -> Rat) (L : Nat) : Spec := fun args hs K => match args, hs with
 | [.lst 3 (.rats 64 p'), .lst 3 (.rats 64 q'), .i .i64 k, .i .i64 m], [] => .br (qg (isSl p q n p' q' k m)) (K (.fr 3 (.rats 206 (lsB B k L))) []) (.no 1)
 | _, _ => .no 1
def OSl (p q : List Rat) (n : Int) (B : Nat -> Int -> Rat) (L : Nat) : Orc := [(31, vSl p q n B L), (121, g80), (122, g86)]
def lSi (p q : List Rat) (n : Int) (B : Nat -> Int -> Rat) (L : Nat) : qy := unr prog (OSl p q n B L) [] polSl f71.ntmps 0 [0, 1, 2, 8, 9, 11, 12, 36, 37, 47, 48] iSl 4
def lSo (p q : List Rat) (n : Int) (B : Nat -> Int -> Rat) (L N : Nat) : qy := unr prog (OSl p q n B L) [(11, lSi p q n B L)] polSl f71.ntmps 0 [0, 1, 2, 8, 9, 36, 37] bSl N
def spW (B : Nat -> Int -> Rat) (k : Int) (j : Nat) : PV := .agg [.q (mnR (B j k) (B j (k + 1))) 206, .q (mxR (B j k) (B j (k + 1))) 206]
def rowV (B : Nat -> Int -> Rat) (L : Nat) (k : Nat) : PV := .lst 6 (.vals ((List.range L).map (spW B k)))
def trSl (p q : List Rat) (n : Int) : Nat -> Nat -> Tr -> Tr
 | 0, _, t => t
 | f + 1, k, t => .br (qg (isSl p q n p q (k : Int) n)) (trSl p q n f (k + 1) t) (.no 1)
def enTr (p q : List Rat) (n : Nat) (B : Nat -> Int -> Rat) (L : Nat) : Tr := trSl p q n (n + 1) 0 (.ok (.ret (.tup [.fr 1 (.vals ((List.range n).map (rowV B L))), .i .i64 0]) []))
def runSl (p q : List Rat) (n : Nat) (B : Nat -> Int -> Rat) (L : Nat) : Tr := evF prog (OSl p q n B L) [(6, lSo p q n B L 7), (11, lSi p q n B L)] polSl f71 [cfV p, cfV q, .i .i64 n] [] ql
theorem eSl1 (a x : Rat) (B : Nat -> Int -> Rat) : ∀ n : Nat, 1 <= n -> n <= 6 -> (runSl [a] [x] n B 1).run = (enTr [a] [x] n B 1).run
 | 1, _, _ => by kernel_rfl
 | 2, _, _ => by kernel_rfl
 | 3, _, _ => by kernel_rfl
 | 4, _, _ => by kernel_rfl
 | 5, _, _ => by kernel_rfl
 | 6, _, _ => by kernel_rfl
 | 0, h, _ => absurd h (by decide)
 | n + 7, _, h => by omega
theorem eSl2 (a b x y : Rat) (B : Nat -> Int -> Rat) : ∀ n : Nat, 1 <= n -> n <= 6 -> (runSl [a, b] [x, y] n B 2).run = (enTr [a, b] [x, y] n B 2).run
 | 1, _, _ => by kernel_rfl
 | 2, _, _ => by kernel_rfl
 | 3, _, _ => by kernel_rfl
 | 4, _, _ => by kernel_rfl
 | 5, _, _ => by kernel_rfl
 | 6, _, _ => by kernel_rfl
 | 0, h, _ => absurd h (by decide)
 | n + 7, _, h => by omega
theorem eSl3 (a b c x y z : Rat) (B : Nat -> Int -> Rat) : ∀ n : Nat, 1 <= n -> n <= 6 -> (runSl [a, b, c] [x, y, z] n B 3).run = (enTr [a, b, c] [x, y, z] n B 3).run
 | 1, _, _ => by kernel_rfl
 | 2, _, _ => by kernel_rfl
 | 3, _, _ => by kernel_rfl
 | 4, _, _ => by kernel_rfl
 | 5, _, _ => by kernel_rfl
 | 6, _, _ => by kernel_rfl
 | 0, h, _ => absurd h (by decide)
 | n + 7, _, h => by omega
theorem eSl (p q : List Rat) (h1 : 1 <= p.length) (h3 : p.length <= 3) (hq : q.length = p.length) (n : Nat) (n1 : 1 <= n) (n6 : n <= 6) (B : Nat -> Int -> Rat) (L : Nat) (hL : L = p.length) : (runSl p q n B L).run = (enTr p q n B L).run := by
 match p, q, h1, h3, hq, hL with
 | [a], [x], _, _, _, hL => obtain rfl : L = 1 := hL; exact eSl1 a x _ n n1 n6
 | [a, b], [x, y], _, _, _, hL => obtain rfl : L = 2 := hL; exact eSl2 a b x y _ n n1 n6
 | [a, b, c], [x, y, z], _, _, _, hL => obtain rfl : L = 3 := hL; exact eSl3 a b c x y z _ n n1 n6
 | [], _, h, _, _, _ => exact absurd h (by decide)
 | _ :: _ :: _ :: _ :: _, _, _, h, _, _ => simp only [kH] at h; omega
theorem trSl_run (p q : List Rat) (n : Nat) (t : Tr) : ∀ (f k : Nat), k + f <= n + 1 -> (trSl p q n f k t).run = t.run
 | 0, _, _ => rfl
 | f + 1, k, h => by
  rw [trSl, k5 (decP_iff.2 ⟨rfl, rfl, rfl, by omega, by omega⟩)]
  exact trSl_run p q n t f (k + 1) (by omega)
def btB (p q : List Rat) (n : Nat) (j : Nat) (k : Int) : Rat := btwR p q k.toNat n j
theorem lsB_eq (p q : List Rat) (n : Nat) (k : Int) (h1 : 1 <= p.length) (h3 : p.length <= 3) : lsB (btB p q n) k p.length = btwL p q k.toNat n := by
 unfold btwL
 rcases (show p.length = 1 \/ p.length = 2 \/ p.length = 3 by omega) with h | h | h <;> rw [h] <;> rfl
theorem rowV_le (p q : List Rat) (n k : Nat) : VLe (rowV (btB p q n) p.length k) (.lst 6 (spsC p.length (rowS p q n k))) := by
 refine VLe.lst (by show ((List.range p.length).map _).length = _; simp; rfl) fun j hj => ?_
 have hj' : j < p.length := by
  have : j < ((List.range p.length).map (spW (btB p q n) k)).length := hj
  simpa using this
 have e1 : (Cont.vals ((List.range p.length).map (spW (btB p q n) k))).get j = spW (btB p q n) k j := by
  show ((List.range p.length).map (spW (btB p q n) k)).getD j .any = _
  rw [List.getD_eq_getElem?_getD, List.getElem?_map, List.getElem?_range hj']
  rfl
 have e2 : (spsC p.length (rowS p q n k)).get j = .agg [.q (mnR (btwR p q k n j) (btwR p q (k + 1) n j)) 260, .q (mxR (btwR p q k n j) (btwR p q (k + 1) n j)) 260] := by
  show PV.agg [.q (mnR ((btwL p q k n).getD j 0) ((btwL p q (k + 1) n).getD j 0)) 260, .q (mxR ((btwL p q k n).getD j 0) ((btwL p q (k + 1) n).getD j 0)) 260] = _
  rw [btwL_get hj', btwL_get hj']
 rw [e1, e2]
 have e3 : ((k : Int) + 1).toNat = k + 1 := by omega
 have e4 : spW (btB p q n) k j = .agg [.q (mnR (btwR p q k n j) (btwR p q (k + 1) n j)) 206, .q (mxR (btwR p q k n j) (btwR p q (k + 1) n j)) 206] := by
  show PV.agg [.q (mnR (btwR p q (k : Int).toNat n j) (btwR p q ((k : Int) + 1).toNat n j)) 206, .q (mxR (btwR p q (k : Int).toNat n j) (btwR p q ((k : Int) + 1).toNat n j)) 206] = _
  rw [e3]
  rfl
 rw [e4]
 exact VLe.agg (qJ (qF (by omega)) (qJ (qF (by omega)) vll0))
def rowP (p q : List Rat) (n k : Nat) : PV := .lst 6 (spsC p.length (rowS p q n k))
include hG in
theorem pcSl (hT : qo G) (p q : List Rat) (h1 : 1 <= p.length) (h3 : p.length <= 3) (hq : q.length = p.length) (n : Nat) (n1 : 1 <= n) (n6 : n <= 6) :
  PC prog G 71 [cfV p, cfV q, .i .i64 n] [] (.tup [.fr 1 (.fn n (rowP p q n)), .i .i64 0]) [] := by
 have k31 : qc prog G 31 (vSl p q n (btB p q n) p.length) := by
  intro args hs K x h
  unfold vSl at h
  split at h
  case h_2 => cases h
  rename_i p' q' k m
  obtain ⟨hc, hr⟩ := k8 h
  obtain ⟨rfl, rfl, rfl, k0, kn⟩ := decP_iff.1 hc
  have pc := pcBtG hG hT p' q' h1 h3 hq k.toNat n n1 (by omega) (by omega)
  rw [Int.toNat_of_nonneg k0, <- lsB_eq p' q' n k h1 h3] at pc
  exact ⟨_, _, pc, hr⟩
 have oc : OrcOK prog G (OSl p q n (btB p q n) p.length) := .cons k31 (.cons (gk80 hG hT) (.cons (gk86 hG hT) .nil))
 have hi : qw prog G f71.ntmps 0 [0, 1, 2, 8, 9, 11, 12, 36, 37, 47, 48] iSl (lSi p q n (btB p q n) p.length) := unr_ok hG oc mix (k9 (by kernel_rfl)) 4
 have ho : qw prog G f71.ntmps 0 [0, 1, 2, 8, 9, 36, 37] bSl (lSo p q n (btB p q n) p.length 7) :=
  unr_ok hG oc mix (lps1 (b := iSl) (live := [0, 1, 2, 8, 9, 11, 12, 36, 37, 47, 48]) (sp := lSi p q n (btB p q n) p.length) (m := 0) (by kernel_rfl) (by kernel_rfl) (by kernel_rfl) hi) 7
 have hl := lps2 (P := prog) (G := G) (pol := polSl) (n := f71.ntmps) (m := 0) (L := [(6, lSo p q n (btB p q n) p.length 7), (11, lSi p q n (btB p q n) p.length)]) (c := qd f71) (b1 := bSl) (b2 := iSl) (by kernel_rfl) (by kernel_rfl) (by kernel_rfl) (by kernel_rfl) (by kernel_rfl) ho hi
 have e := eSl p q h1 h3 hq n n1 n6
 refine (qj hG oc mix enSl (hs := []) (pol := polSl) (L := [(6, lSo p q n (btB p q n) p.length 7), (11, lSi p q n (btB p q n) p.length)]) hl (r := .tup [.fr 1 (.vals ((List.range n).map (rowV (btB p q n) p.length))), .i .i64 0]) (hs' := []) ((e (btB p q n) _ rfl).trans ?_)).le (frs_le0 1 n _ _ (by simp) fun i v hi => ?_) (.refl _)
 ·unfold enTr
  rw [trSl_run p q n _ (n + 1) 0 (by omega), k7]
 ·rw [List.getElem?_map] at hi
  cases hj : (List.range n)[i]? with
  | none => rw [hj] at hi; cases hi
  | some j =>
   rw [hj] at hi
   obtain rfl := Option.some.inj hi
   have hlt : i < n := by
    have := (List.getElem?_eq_some_iff.1 hj).1
    simpa using this
   rw [List.getElem?_range hlt] at hj
   obtain rfl := Option.some.inj hj
   exact ⟨rfl, rowV_le p q n i⟩
def isW (V : PV) (m : Nat) (M : Nat -> Pg) : Prop := (V = .nil /\ m = 0) \/ (V = lsV m M /\ m <= 20 /\ ∀ j, j < m -> okP (M j) /\ pkE (M j) = 0)
def lWn : qy := unr prog [] [] polWk f69.ntmps 0 [2, 9, 10, 11] bWk 1
theorem eWkN : (evF prog [] [(4, lWn)] polWk f69 [.nil] [] ql).run = some (.ret (.i .i64 0) []) := by kernel_rfl
def lFn : qy := unr prog [] [] polFr f70.ntmps 0 [1, 4, 6, 11, 12, 13, 17, 18, 19] iFr 1
def soFn (n : Nat) (L : Nat -> Pg) (i : Int) : LS := ⟨[.nil, .bl false, lsV n L, .i .i64 n, .i .i64 i], []⟩
theorem tFn (n : Nat) (L : Nat -> Pg) (i : Int) : (qh prog [] [(5, lFn)] polFr f70.ntmps 0 [1, 4, 11, 12, 13] bFr (soFn n L i)).run =
  (Tr.br (decide (i < (n : Int))) (.br (ix (i) ((n : Int))) (.br (ovf (i + 1)) (.ok (.out .normal (soFn n L (i + 1)))) (.no 1)) (.no 1)) (.ok (.out (.exit 0) (soFn n L i)))).run := by kernel_rfl
theorem eFn (n : Nat) (L : Nat -> Pg) : (evF prog [] [(2, qI (soFn n L 0) (.exit 0) (soFn n L n))] polFr f70 [lsV n L, .nil] [] ql).run = (Tr.br (qg (isLS (soFn n L 0) (soFn n L 0))) (.ok (.ret (.bl true) [])) (.no 1)).run := by kernel_rfl
theorem enMo : Enters prog 30 f30 (qd f30) := ⟨func30, by kernel_rfl, rfl⟩
def bMo : Code := (qi (qd f30)).getD 0 .skip
def iMo : Code := (qi (qd f30)).getD 1 .skip
def polMo : Pol := { live := [(10, [3, 5, 10, 11, 43, 44, 45]), (17, [3, 5, 10, 11, 19, 43, 44, 45, 58, 59, 60])] }
def corV (a b c d : Rat) : PV := .lst 6 (.vals [.agg [.q a 2320, .q b 2320], .agg [.q c 2320, .q b 2320], .agg [.q c 2320, .q d 2320], .agg [.q a 2320, .q d 2320]])
def gCor : Spec := fun args hs K => match args, hs with
 | [.agg [.agg [.q a 2320, .q b 2320], .agg [.q c 2320, .q d 2320]]], [] => K (corV a b c d) []
 | _, _ => .no 1
theorem eCorR (a b c d : Rat) : (evF prog [] [] {} f73 [.agg [.agg [.q a 2320, .q b 2320], .agg [.q c 2320, .q d 2320]]] [] ql).run = some (.ret (corV a b c d) []) := by kernel_rfl
def corS (x y : Sp) : PV := corV x.lo y.lo x.hi y.hi
def lMi : qy := unr prog [(73, gCor)] [] polMo f30.ntmps 0 [3, 5, 10, 11, 19, 43, 44, 45, 58, 59, 60] iMo 4
def moL (L : Nat) (S : Nat -> Nat -> Sp) (k : Nat) : PV := .lst 6 (spsC L (S k))
def stMo (A : Am) (L : Nat) (V : PV) (n : Nat) (S : Nat -> Nat -> Sp) (k : Int) : LS := ⟨[.w V, .ptr 0 12 0 0 [], .bl false, .i .i64 0, .lst 1 (.fn n (moL L S)), .i .i64 n, .i .i64 k], [some ⟨12, .vals [armQ A L]⟩]⟩
def RMo (A : Am) (L : Nat) (V : PV) (Q : Nat -> Sp) (X Y : Nat -> Sp) (ws : List PV) (b : Bool) : Orc :=
 [(72, cst [armQ A L, .lst 6 (spsC L Q)] True (.tup [.fr 12 (.fn L (fun j => bx2 (X j) (Y j))), .i .i64 0])), (73, gCor), (70, cst [.lst 1 (.vals ws), .w V] True (.bl b))]
def trMo (A : Am) (L : Nat) (V : PV) (n : Nat) (S : Nat -> Nat -> Sp) (k : Int) (Q : Nat -> Sp) (ws : List PV) (res : Tr) : Tr :=
 .br (decide (k < (n : Int))) (.br (decide ((0 : Int) <= k) && decide (k < (n : Int))) (.br (qg (isA [armQ A L, .lst 6 (spsC L Q)] True [armQ A L, .lst 6 (spsC L (S k.toNat))])) (.br (qg (isA [.lst 1 (.vals ws), .w V] True [.lst 1 (.vals ws), .w V])) res (.no 1)) (.no 1)) (.no 1)) (.ok (.out (.exit 0) (stMo A L V n S k)))
def moRd (A : Am) (L : Nat) (V : PV) (n : Nat) (S : Nat -> Nat -> Sp) (k : Int) (Q X Y : Nat -> Sp) (b : Bool) : Tr := qh prog (RMo A L V Q X Y ((List.range L).map fun j => corS (X j) (Y j)) b) [(17, lMi)] polMo f30.ntmps 0 [3, 5, 10, 11, 43, 44, 45] bMo (stMo A L V n S k)
def moT (A : Am) (L : Nat) (V : PV) (n : Nat) (S : Nat -> Nat -> Sp) (k : Int) (Q X Y : Nat -> Sp) : Bool -> Tr
 | true => trMo A L V n S k Q ((List.range L).map fun j => corS (X j) (Y j)) (.br (ovf (k + 1)) (.ok (.out .normal (stMo A L V n S (k + 1)))) (.no 1))
 | false => trMo A L V n S k Q ((List.range L).map fun j => corS (X j) (Y j)) (.ok (.out .ret (stMo A L V n S k)))
theorem tMo1 (A : Am) (V : PV) (n : Nat) (S : Nat -> Nat -> Sp) (k : Int) (Q X Y : Nat -> Sp) : ∀ b, (moRd A 1 V n S k Q X Y b).run = (moT A 1 V n S k Q X Y b).run
 | true => by kernel_rfl
 | false => by kernel_rfl
theorem tMo2 (A : Am) (V : PV) (n : Nat) (S : Nat -> Nat -> Sp) (k : Int) (Q X Y : Nat -> Sp) : ∀ b, (moRd A 2 V n S k Q X Y b).run = (moT A 2 V n S k Q X Y b).run
 | true => by kernel_rfl
 | false => by kernel_rfl
theorem tMo3 (A : Am) (V : PV) (n : Nat) (S : Nat -> Nat -> Sp) (k : Int) (Q X Y : Nat -> Sp) : ∀ b, (moRd A 3 V n S k Q X Y b).run = (moT A 3 V n S k Q X Y b).run
 | true => by kernel_rfl
 | false => by kernel_rfl
def OMo (A : Am) (V : PV) (p q : List Rat) (n : Nat) (S : Nat -> Nat -> Sp) : Orc :=
 [(57, cst [qA A, .i .i64 p.length] True (.i .i64 0)), (71, cst [cfV p, cfV q, .i .i64 n] True (.tup [.fr 1 (.fn n (moL A.n S)), .i .i64 0])), (69, cst [.w V] True (.i .i64 0))]
def trMf (A : Am) (V : PV) (p q : List Rat) (n : Nat) (S : Nat -> Nat -> Sp) (b : Bool) : Tr :=
 .br (qg (isA [qA A, .i .i64 p.length] True [qA A, .i .i64 p.length])) (.br (qg (isA [cfV p, cfV q, .i .i64 n] True [cfV p, cfV q, .i .i64 n])) (.br (Nat.ble (0 + n) n) (.br (qg (isA [.w V] True [.w V])) (.br (qg (isLS (stMo A A.n V n S 0) (stMo A A.n V n S 0))) (.ok (.ret (.tup [.bl b, .i .i64 0]) [])) (.no 1)) (.no 1)) (.no 1)) (.no 1)) (.no 1)
theorem eMoT (A : Am) (V : PV) (p q : List Rat) (n : Nat) (S : Nat -> Nat -> Sp) : (evF prog (OMo A V p q n S) [(10, qI (stMo A A.n V n S 0) (.exit 0) (stMo A A.n V n S n))] polMo f30 [qA A, cfV p, cfV q, .w V, .i .i64 n] [] ql).run = (trMf A V p q n S true).run := by kernel_rfl
theorem eMoF (A : Am) (V : PV) (p q : List Rat) (n : Nat) (S : Nat -> Nat -> Sp) (k : Int) : (evF prog (OMo A V p q n S) [(10, qI (stMo A A.n V n S 0) .ret (stMo A A.n V n S k))] polMo f30 [qA A, cfV p, cfV q, .w V, .i .i64 n] [] ql).run = (trMf A V p q n S false).run := by kernel_rfl
include hG in
theorem pcWkW (hT : qo G) {V : PV} {m : Nat} {M : Nat -> Pg} (hV : isW V m M) : PC prog G 69 [.w V] [] (.i .i64 0) [] := by
 rcases hV with ⟨rfl, _⟩ | ⟨rfl, hm, hq⟩
 ·refine PC.args (.cons (vw_out rfl) .nil) ?_
  exact qj hG .nil mix enWk (hs := []) (pol := polWk) (L := [(4, lWn)]) (lps1 (b := bWk) (live := [2, 9, 10, 11]) (sp := lWn) (m := 0) (by kernel_rfl) (by kernel_rfl) (by kernel_rfl) (unr_ok hG .nil mix (k9 (by kernel_rfl)) 1)) eWkN
 ·exact PC.args (.cons (vw_out rfl) .nil) (pcWk hG hT m M hm hq)
include hG in
theorem pcFrN (n : Nat) (L : Nat -> Pg) (hn : n <= 100) : PC prog G 70 [lsV n L, .nil] [] (.bl true) [] := by
 have hi : qw prog G f70.ntmps 0 [1, 4, 6, 11, 12, 13, 17, 18, 19] iFr lFn := unr_ok hG .nil mix (k9 (by kernel_rfl)) 1
 have rd : ∀ (i : Nat) (e : Exit) (ls : LS), (qh prog [] [(5, lFn)] polFr f70.ntmps 0 [1, 4, 11, 12, 13] bFr (soFn n L i)).run = some (.out e ls) -> Rnd prog G f70.ntmps 0 [1, 4, 11, 12, 13] bFr (soFn n L i) e ls := fun i e ls h =>
  qb hG .nil mix (pol := polFr) (lps1 (b := iFr) (live := [1, 4, 6, 11, 12, 13, 17, 18, 19]) (m := 0) (by kernel_rfl) (by kernel_rfl) (by kernel_rfl) hi) (Nat.zero_le _) h
 have g := Goes.count (R := Rnd prog G f70.ntmps 0 [1, 4, 11, 12, 13] bFr) (fun i => soFn n L ((i : Nat) : Int)) (e := .exit 0) (ls' := soFn n L n) (by simp) n 0
  (fun i _ hi => by
   refine rd i _ _ ((tFn n L i).trans ?_)
   rw [k5 (kE (by omega)), k5 (by simp only [kA, kD]; omega), k5 (by simp only [ovf, kA, kD]; omega), k7]
   rfl)
  (by
   refine rd _ _ _ ((tFn n L _).trans ?_)
   rw [Nat.zero_add, k6 (kF (by omega)), k7])
 have g' : Goes (Rnd prog G f70.ntmps 0 [1, 4, 11, 12, 13] bFr) (soFn n L 0) (.exit 0) (soFn n L n) := g
 refine qj hG .nil mix enFr (hs := []) (pol := polFr) (L := [(2, qI (soFn n L 0) (.exit 0) (soFn n L n))]) (lps1n (b := bFr) (b' := iFr) (live := [1, 4, 11, 12, 13]) (m := 0) (by kernel_rfl) (by kernel_rfl) (by kernel_rfl) (by kernel_rfl) (qC g')) ((eFn n L).trans ?_)
 rw [k5 isLS_t, k7]
include hG in
theorem pcFrW (hT : qo G) (n : Nat) (L : Nat -> Pg) (h1 : 1 <= n) (hn : n <= 100) (hp : ∀ i, i < n -> okP (L i)) {V : PV} {m : Nat} {M : Nat -> Pg} (hV : isW V m M) : PC prog G 70 [lsV n L, .w V] [] (.bl (freeB n L m M)) [] := by
 rcases hV with ⟨rfl, rfl⟩ | ⟨rfl, hm, hq⟩
 ·have e : freeB n L 0 M = true := free_iff.2 fun i _ j hj => absurd hj (by omega)
  rw [e]
  exact PC.args (.cons (.refl _) (.cons (vw_out rfl) .nil)) (pcFrN hG n L hn)
 ·exact PC.args (.cons (.refl _) (.cons (vw_out rfl) .nil)) (pcFr hG hT n L m M h1 hn (by omega) hp fun j hj => (hq j hj).1)
include hG in
theorem gkCor : qc prog G 73 gCor := by
 intro args hs K x h
 unfold gCor at h
 split at h
 case h_2 => cases h
 rename_i a b c d
 exact ⟨_, _, qj hG .nil mix enCor (hs := []) (L := []) (pol := {}) (k9 (by kernel_rfl)) (eCorR a b c d), h⟩
theorem corS_le (x y : Sp) : VLe (corS x y) (pgV (cor x y)) := by
 refine VLe.lst rfl fun i hi => ?_
 have hi' : i < 4 := hi
 match i, hi' with
 | 0, _ => exact VLe.agg (qJ (qF (show 2320 <= 32138 by omega)) (qJ (qF (show 2320 <= 32138 by omega)) vll0))
 | 1, _ => exact VLe.agg (qJ (qF (show 2320 <= 32138 by omega)) (qJ (qF (show 2320 <= 32138 by omega)) vll0))
 | 2, _ => exact VLe.agg (qJ (qF (show 2320 <= 32138 by omega)) (qJ (qF (show 2320 <= 32138 by omega)) vll0))
 | 3, _ => exact VLe.agg (qJ (qF (show 2320 <= 32138 by omega)) (qJ (qF (show 2320 <= 32138 by omega)) vll0))
 | i + 4, h => omega
theorem corL_le (L : Nat) (X Y : Nat -> Sp) : VLe (.lst 1 (.vals ((List.range L).map fun j => corS (X j) (Y j)))) (lsV L fun j => cor (X j) (Y j)) := by
 refine VLe.lst (by show ((List.range L).map _).length = L; simp) fun i hi => ?_
 have hi' : i < L := by
  have : i < ((List.range L).map fun j => corS (X j) (Y j)).length := hi
  simpa using this
 have e : (Cont.vals ((List.range L).map fun j => corS (X j) (Y j))).get i = corS (X i) (Y i) := by
  show ((List.range L).map fun j => corS (X j) (Y j)).getD i .any = _
  rw [List.getD_eq_getElem?_getD, List.getElem?_map, List.getElem?_range hi']
  rfl
 rw [e]
 exact corS_le _ _
theorem moT_step (A : Am) (V : PV) (n : Nat) (S : Nat -> Nat -> Sp) (k : Nat) (X Y : Nat -> Sp) (hk : k < n) (hn : n <= 60) (L : Nat) (b : Bool) :
  (moT A L V n S k (S k) X Y b).run = some (match b with | true => .out .normal (stMo A L V n S ((k + 1 : Nat) : Int)) | false => .out .ret (stMo A L V n S k)) := by
 cases b with
 | true =>
  unfold moT trMo
  rw [Int.toNat_natCast, k5 (kE (by omega)), k5 (by simp only [kA, kD]; omega), k5 (decP_iff.2 ⟨rfl, trivial⟩), k5 (decP_iff.2 ⟨rfl, trivial⟩), k5 (by simp only [ovf, kA, kD]; omega), k7]
  rfl
 | false =>
  unfold moT trMo
  rw [Int.toNat_natCast, k5 (kE (by omega)), k5 (by simp only [kA, kD]; omega), k5 (decP_iff.2 ⟨rfl, trivial⟩), k5 (decP_iff.2 ⟨rfl, trivial⟩), k7]
theorem moT_end (A : Am) (V : PV) (n : Nat) (S : Nat -> Nat -> Sp) (Q X Y : Nat -> Sp) (L : Nat) (b : Bool) : (moT A L V n S n Q X Y b).run = some (.out (.exit 0) (stMo A L V n S n)) := by
 cases b <;> unfold moT trMo <;> rw [k6 (kF (by omega)), k7]
include hG in
theorem pcMo (hT : qo G) (A : Am) (hA : armB A = true) (hS : shp A) (p q : List Rat) (hp : p.length = A.n) (hq : q.length = A.n) {V : PV} {m : Nat} {M : Nat -> Pg} (hV : isW V m M) (n : Nat) (n1 : 1 <= n) (n6 : n <= 6) :
  PC prog G 30 [qA A, cfV p, cfV q, .w V, .i .i64 n] [] (.tup [.bl (motB A p q n m M), .i .i64 0]) [] := by
 obtain ⟨a1, a2, a3, a4, h1, h3, a7⟩ := armB_c hA
 have pH : PC prog G 57 [qA A, .i .i64 p.length] [] (.i .i64 0) [] := by rw [hp]; exact pcHas hG A hA
 have pS : PC prog G 71 [cfV p, cfV q, .i .i64 n] [] (.tup [.fr 1 (.fn n (moL A.n (rowS p q n))), .i .i64 0]) [] := by
  have := pcSl hG hT p q (by omega) (by omega) (by omega) n n1 n6
  unfold rowP at this
  rw [hp] at this
  exact this
 have pB : ∀ Q, PC prog G 72 [armQ A A.n, .lst 6 (spsC A.n Q)] [] (.tup [.fr 12 (.fn A.n (fun j => bx2 (jX (lzs A Q) A.lk j) (jY (lzs A Q) A.lk j))), .i .i64 0]) [] := fun Q => pcBs hG hT A hA hS Q
 have pF : ∀ Q, PC prog G 70 [.lst 1 (.vals ((List.range A.n).map fun j => corS (jX (lzs A Q) A.lk j) (jY (lzs A Q) A.lk j))), .w V] [] (.bl (freeB A.n (bxQ A Q) m M)) [] := fun Q =>
  PC.args (.cons (corL_le _ _ _) (.cons (.refl _) .nil)) (pcFrW hG hT A.n (bxQ A Q) h1 (by omega) (fun i _ => ⟨by show 3 <= 4; omega, by show 4 <= 8; omega⟩) hV)
 have tr : ∀ (k : Int) (Q X Y : Nat -> Sp) (b : Bool), (moRd A A.n V n (rowS p q n) k Q X Y b).run = (moT A A.n V n (rowS p q n) k Q X Y b).run := fun k Q X Y b => by
  rcases (show A.n = 1 \/ A.n = 2 \/ A.n = 3 by omega) with hn | hn | hn <;> rw [hn]
  ·exact tMo1 A V n _ k Q X Y b
  ·exact tMo2 A V n _ k Q X Y b
  ·exact tMo3 A V n _ k Q X Y b
 have rd : ∀ (k : Int) (Q : Nat -> Sp) (e : Exit) (ls : LS), (moT A A.n V n (rowS p q n) k Q (jX (lzs A Q) A.lk) (jY (lzs A Q) A.lk) (freeB A.n (bxQ A Q) m M)).run = some (.out e ls) ->
   Rnd prog G f30.ntmps 0 [3, 5, 10, 11, 43, 44, 45] bMo (stMo A A.n V n (rowS p q n) k) e ls := fun k Q e ls h => by
  have oc : OrcOK prog G [(73, gCor)] := .cons (gkCor hG) .nil
  have hi : qw prog G f30.ntmps 0 [3, 5, 10, 11, 19, 43, 44, 45, 58, 59, 60] iMo lMi := unr_ok hG oc mix (k9 (by kernel_rfl)) 4
  exact qb hG (.cons (cst_t (pB Q)) (.cons (gkCor hG) (.cons (cst_t (pF Q)) .nil))) mix (pol := polMo) (L := [(17, lMi)]) (lps1 (b := iMo) (live := [3, 5, 10, 11, 19, 43, 44, 45, 58, 59, 60]) (sp := lMi) (m := 0) (by kernel_rfl) (by kernel_rfl) (by kernel_rfl) hi) (Nat.zero_le _) ((tr k Q _ _ _).trans h)
 obtain ⟨w1, w2⟩ := Goes.search (R := Rnd prog G f30.ntmps 0 [3, 5, 10, 11, 43, 44, 45] bMo) (fun k => stMo A A.n V n (rowS p q n) ((k : Nat) : Int)) (fun k => stMo A A.n V n (rowS p q n) ((k : Nat) : Int)) (fun k => freeB A.n (bxQ A (rowS p q n k)) m M) n
  (e0 := .exit 0) (e1 := .ret) (fin := stMo A A.n V n (rowS p q n) n) (by simp) (by simp)
  (fun k hk ok => by
   refine rd k (rowS p q n k) _ _ ?_
   rw [ok]
   exact moT_step A V n _ k _ _ hk (by omega) A.n true)
  (fun k hk ok => by
   refine rd k (rowS p q n k) _ _ ?_
   rw [ok]
   exact moT_step A V n _ k _ _ hk (by omega) A.n false)
  (rd n (rowS p q n 0) _ _ (moT_end A V n _ _ _ _ A.n _)) n 0 (by omega)
 have hl : ∀ (lQ : qy), qw prog G f30.ntmps 0 [3, 5, 10, 11, 43, 44, 45] bMo lQ -> LpsOK prog G polMo f30.ntmps 0 [(10, lQ)] (qd f30) := fun lQ h =>
  lps1n (b := bMo) (b' := iMo) (live := [3, 5, 10, 11, 43, 44, 45]) (m := 0) (by kernel_rfl) (by kernel_rfl) (by kernel_rfl) (by kernel_rfl) h
 have oc : OrcOK prog G (OMo A V p q n (rowS p q n)) := .cons (cst_t pH) (.cons (cst_t pS) (.cons (cst_t (pcWkW hG hT hV)) .nil))
 have fin : ∀ b, (trMf A V p q n (rowS p q n) b).run = some (.ret (.tup [.bl b, .i .i64 0]) []) := fun b => by
  unfold trMf
  rw [k5 (decP_iff.2 ⟨rfl, trivial⟩), k5 (decP_iff.2 ⟨rfl, trivial⟩), k5 (by rw [kG]; omega), k5 (decP_iff.2 ⟨rfl, trivial⟩), k5 isLS_t, k7]
 cases hB : motB A p q n m M with
 | true =>
  have g : Goes (Rnd prog G f30.ntmps 0 [3, 5, 10, 11, 43, 44, 45] bMo) (stMo A A.n V n (rowS p q n) 0) (.exit 0) (stMo A A.n V n (rowS p q n) n) := w1 fun k _ hk => mot_iff.1 hB k hk
  exact qj hG oc mix enMo (hs := []) (pol := polMo) (L := [(10, qI (stMo A A.n V n (rowS p q n) 0) (.exit 0) (stMo A A.n V n (rowS p q n) n))]) (hl _ (qC g)) ((eMoT A V p q n _).trans (fin true))
 | false =>
  have hn' : ¬ ∀ k, 0 <= k -> k < n -> freeB A.n (bxQ A (rowS p q n k)) m M = true := fun h => by
   have := mot_iff.2 fun k hk => h k (Nat.zero_le _) hk
   rw [this] at hB
   cases hB
  have g : Goes (Rnd prog G f30.ntmps 0 [3, 5, 10, 11, 43, 44, 45] bMo) (stMo A A.n V n (rowS p q n) 0) .ret (stMo A A.n V n (rowS p q n) ((fbad (fun k => freeB A.n (bxQ A (rowS p q n k)) m M) n 0 : Nat) : Int)) := w2 hn'
  generalize ((fbad (fun k => freeB A.n (bxQ A (rowS p q n k)) m M) n 0 : Nat) : Int) = k at g
  exact qj hG oc mix enMo (hs := []) (pol := polMo) (L := [(10, qI (stMo A A.n V n (rowS p q n) 0) .ret (stMo A A.n V n (rowS p q n) k))]) (hl _ (qC g)) ((eMoF A V p q n _ k).trans (fin false))
theorem enPo1 : Enters prog 115 f115 (qd f115) := ⟨func115, by kernel_rfl, rfl⟩
theorem enPo : Enters prog 66 f66 (qd f66) := ⟨func66, by kernel_rfl, rfl⟩
def sPo : Spec := evF prog [(14, s45), (92, s104)] [] { wr := [(14, [0])] } f115
theorem ePo (v : PV) : (evF prog [(115, sPo)] [] { wr := [(115, [0])] } f66 [.w v] [] ql).run =
 (Tr.br (okW v && decide ((0 : Int) < 6) && decide ((6 : Int) <= 4294967296)) (.br (ib ((1 : Int) + nx v (6 : Int))) (.br (okW (rs v) && decide ((0 : Int) < 6) && decide ((6 : Int) <= 4294967296)) (.br (ib ((1 : Int) + nx (rs v) (6 : Int))) (.br (okW (rs (rs v)) && decide ((0 : Int) < 4) && decide ((4 : Int) <= 4294967296)) (.br (decide (nx (rs (rs v)) (4 : Int) = 0)) (.br (ib ((0 : Int) - ((1 : Int) + nx v (6 : Int)))) (.br (ib ((0 : Int) - ((1 : Int) + nx (rs v) (6 : Int)))) (.br (smI ((0 : Int) - ((1 : Int) + nx v (6 : Int))) && smI ((0 : Int) - ((1 : Int) + nx (rs v) (6 : Int)))) (.br (ib ((0 : Int) - ((1 : Int) + nx (rs v) (6 : Int)))) (.br (smI ((1 : Int) + nx v (6 : Int)) && smI ((0 : Int) - ((1 : Int) + nx (rs v) (6 : Int)))) (.br (smI ((1 : Int) + nx v (6 : Int)) && smI ((1 : Int) + nx (rs v) (6 : Int))) (.br (ib ((0 : Int) - ((1 : Int) + nx v (6 : Int)))) (.br (smI ((0 : Int) - ((1 : Int) + nx v (6 : Int))) && smI ((1 : Int) + nx (rs v) (6 : Int))) (.ok (.ret (.lst 6 (.vals [.agg [.q (mkRat ((0 : Int) - ((1 : Int) + nx v (6 : Int))) (4 : Nat)) 64, .q (mkRat ((0 : Int) - ((1 : Int) + nx (rs v) (6 : Int))) (4 : Nat)) 64], .agg [.q (mkRat ((1 : Int) + nx v (6 : Int)) (4 : Nat)) 64, .q (mkRat ((0 : Int) - ((1 : Int) + nx (rs v) (6 : Int))) (4 : Nat)) 64], .agg [.q (mkRat ((1 : Int) + nx v (6 : Int)) (4 : Nat)) 64, .q (mkRat ((1 : Int) + nx (rs v) (6 : Int)) (4 : Nat)) 64], .agg [.q (mkRat ((0 : Int) - ((1 : Int) + nx v (6 : Int))) (4 : Nat)) 64, .q (mkRat ((1 : Int) + nx (rs v) (6 : Int)) (4 : Nat)) 64]])) [])) (.no 1)) (.no 5005)) (.no 1)) (.no 1)) (.no 5011)) (.no 1)) (.no 5015)) (.no 5017)) (.br (decide (nx (rs (rs v)) (4 : Int) = 1)) (.br (ib ((0 : Int) - ((1 : Int) + nx v (6 : Int)))) (.br (ib ((0 : Int) - ((1 : Int) + nx (rs v) (6 : Int)))) (.br (smI ((0 : Int) - ((1 : Int) + nx v (6 : Int))) && smI ((0 : Int) - ((1 : Int) + nx (rs v) (6 : Int)))) (.br (ib ((0 : Int) - ((1 : Int) + nx (rs v) (6 : Int)))) (.br (smI ((1 : Int) + nx v (6 : Int)) && smI ((0 : Int) - ((1 : Int) + nx (rs v) (6 : Int)))) (.br (ib ((2 : Int) * ((1 : Int) + nx v (6 : Int)))) (.br (ib ((2 : Int) * ((1 : Int) + nx v (6 : Int)) + 1)) (.br (okW (rs (rs (rs v))) && decide ((0 : Int) < 2 * ((1 : Int) + nx v (6 : Int)) + 1) && decide ((2 : Int) * ((1 : Int) + nx v (6 : Int)) + 1 <= 4294967296)) (.br (ib (nx (rs (rs (rs v))) ((2 : Int) * ((1 : Int) + nx v (6 : Int)) + 1) - ((1 : Int) + nx v (6 : Int)))) (.br (smI (nx (rs (rs (rs v))) ((2 : Int) * ((1 : Int) + nx v (6 : Int)) + 1) - ((1 : Int) + nx v (6 : Int))) && smI ((1 : Int) + nx (rs v) (6 : Int))) (.ok (.ret (.lst 6 (.vals [.agg [.q (mkRat ((0 : Int) - ((1 : Int) + nx v (6 : Int))) (4 : Nat)) 64, .q (mkRat ((0 : Int) - ((1 : Int) + nx (rs v) (6 : Int))) (4 : Nat)) 64], .agg [.q (mkRat ((1 : Int) + nx v (6 : Int)) (4 : Nat)) 64, .q (mkRat ((0 : Int) - ((1 : Int) + nx (rs v) (6 : Int))) (4 : Nat)) 64], .agg [.q (mkRat (nx (rs (rs (rs v))) ((2 : Int) * ((1 : Int) + nx v (6 : Int)) + 1) - ((1 : Int) + nx v (6 : Int))) (4 : Nat)) 64, .q (mkRat ((1 : Int) + nx (rs v) (6 : Int)) (4 : Nat)) 64]])) [])) (.no 1)) (.no 7005)) (.no 1)) (.no 7008)) (.no 7009)) (.no 1)) (.no 7013)) (.no 1)) (.no 7017)) (.no 7019)) (.br (decide (nx (rs (rs v)) (4 : Int) = 2)) (.br (ib ((0 : Int) - ((1 : Int) + nx v (6 : Int)))) (.br (ib ((0 : Int) - ((1 : Int) + nx v (6 : Int)) - 1)) (.br (ib ((0 : Int) - ((1 : Int) + nx (rs v) (6 : Int)))) (.br (ib ((0 : Int) - ((1 : Int) + nx (rs v) (6 : Int)) - 1)) (.br (smI ((0 : Int) - ((1 : Int) + nx v (6 : Int)) - 1) && smI ((0 : Int) - ((1 : Int) + nx (rs v) (6 : Int)) - 1)) (.br (ib ((0 : Int) - ((1 : Int) + nx (rs v) (6 : Int)))) (.br (ib ((0 : Int) - ((1 : Int) + nx (rs v) (6 : Int)) - 1)) (.br (smI ((1 : Int) + nx v (6 : Int)) && smI ((0 : Int) - ((1 : Int) + nx (rs v) (6 : Int)) - 1)) (.br (ib ((1 : Int) + nx v (6 : Int) + 1)) (.br (ib ((0 : Int) - ((1 : Int) + nx (rs v) (6 : Int)))) (.br (smI ((1 : Int) + nx v (6 : Int) + 1) && smI ((0 : Int) - ((1 : Int) + nx (rs v) (6 : Int)))) (.br (ib ((1 : Int) + nx v (6 : Int) + 1)) (.br (smI ((1 : Int) + nx v (6 : Int) + 1) && smI ((1 : Int) + nx (rs v) (6 : Int))) (.br (ib ((0 : Int) - ((1 : Int) + nx v (6 : Int)))) (.br (ib ((0 : Int) - ((1 : Int) + nx v (6 : Int)) - 1)) (.br (smI ((0 : Int) - ((1 : Int) + nx v (6 : Int)) - 1) && smI ((1 : Int) + nx (rs v) (6 : Int))) (.ok (.ret (.lst 6 (.vals [.agg [.q (mkRat ((0 : Int) - ((1 : Int) + nx v (6 : Int)) - 1) (4 : Nat)) 64, .q (mkRat ((0 : Int) - ((1 : Int) + nx (rs v) (6 : Int)) - 1) (4 : Nat)) 64], .agg [.q (mkRat ((1 : Int) + nx v (6 : Int)) (4 : Nat)) 64, .q (mkRat ((0 : Int) - ((1 : Int) + nx (rs v) (6 : Int)) - 1) (4 : Nat)) 64], .agg [.q (mkRat ((1 : Int) + nx v (6 : Int) + 1) (4 : Nat)) 64, .q (mkRat ((0 : Int) - ((1 : Int) + nx (rs v) (6 : Int))) (4 : Nat)) 64], .agg [.q (mkRat ((1 : Int) + nx v (6 : Int) + 1) (4 : Nat)) 64, .q (mkRat ((1 : Int) + nx (rs v) (6 : Int)) (4 : Nat)) 64], .agg [.q (mkRat ((0 : Int) - ((1 : Int) + nx v (6 : Int)) - 1) (4 : Nat)) 64, .q (mkRat ((1 : Int) + nx (rs v) (6 : Int)) (4 : Nat)) 64]])) [])) (.no 1)) (.no 9005)) (.no 9006)) (.no 1)) (.no 9010)) (.no 1)) (.no 9013)) (.no 9015)) (.no 1)) (.no 9018)) (.no 9019)) (.no 1)) (.no 9023)) (.no 9024)) (.no 9026)) (.no 9027)) (.br (ib ((0 : Int) - ((1 : Int) + nx v (6 : Int)))) (.br (smI ((0 : Int) - ((1 : Int) + nx v (6 : Int))) && smI (0 : Int)) (.br (ib ((0 : Int) - ((1 : Int) + nx (rs v) (6 : Int)))) (.br (smI (0 : Int) && smI ((0 : Int) - ((1 : Int) + nx (rs v) (6 : Int)))) (.br (smI ((1 : Int) + nx v (6 : Int)) && smI (0 : Int)) (.br (smI (0 : Int) && smI ((1 : Int) + nx (rs v) (6 : Int))) (.ok (.ret (.lst 6 (.vals [.agg [.q (mkRat ((0 : Int) - ((1 : Int) + nx v (6 : Int))) (4 : Nat)) 64, .q (mkRat (0 : Int) (4 : Nat)) 64], .agg [.q (mkRat (0 : Int) (4 : Nat)) 64, .q (mkRat ((0 : Int) - ((1 : Int) + nx (rs v) (6 : Int))) (4 : Nat)) 64], .agg [.q (mkRat ((1 : Int) + nx v (6 : Int)) (4 : Nat)) 64, .q (mkRat (0 : Int) (4 : Nat)) 64], .agg [.q (mkRat (0 : Int) (4 : Nat)) 64, .q (mkRat ((1 : Int) + nx (rs v) (6 : Int)) (4 : Nat)) 64]])) [])) (.no 1)) (.no 1)) (.no 1)) (.no 10008)) (.no 1)) (.no 10011))))) (.no 1)) (.no 2003)) (.no 1)) (.no 2006)) (.no 1)).run := by kernel_rfl
def pgI (w h c x : Int) : List (Int × Int) :=
 if c = 0 then [(0 - w, 0 - h), (w, 0 - h), (w, h), (0 - w, h)] else if c = 1 then [(0 - w, 0 - h), (w, 0 - h), (x - w, h)]
 else if c = 2 then [(0 - w - 1, 0 - h - 1), (w, 0 - h - 1), (w + 1, 0 - h), (w + 1, h), (0 - w - 1, h)] else [(0 - w, 0), (0, 0 - h), (w, 0), (0, h)]
def plyL (v : PV) : List (Int × Int) := pgI (1 + nx v 6) (1 + nx (rs v) 6) (nx (rs (rs v)) 4) (nx (rs (rs (rs v))) (2 * (1 + nx v 6) + 1))
def ptI (p : Int × Int) : PV := .agg [.q (mkRat p.1 4) 64, .q (mkRat p.2 4) 64]
def triI (a b c : Int × Int) : Int := (b.1 - a.1) * (c.2 - a.2) - (b.2 - a.2) * (c.1 - a.1)
def okI4 (l : List (Int × Int)) : Bool := decide (3 <= l.length) && decide (l.length <= 5) && (List.range l.length).all fun i => (List.range l.length).all fun k => decide (k < 2) || decide (0 < triI (l.getD i (0, 0)) (l.getD ((i + 1) % l.length) (0, 0)) (l.getD ((i + k) % l.length) (0, 0)))
theorem pgI_all : ((List.range 6).all fun w => (List.range 6).all fun h => (List.range 4).all fun c => (List.range 13).all fun x => (decide (c ≠ 1 && x ≠ 0) || decide (2 * (1 + w) < x)) || okI4 (pgI ((1 + w : Nat) : Int) ((1 + h : Nat) : Int) (c : Int) (x : Int))) = true := by kernel_rfl
theorem plyL_ok (v : PV) : okI4 (plyL v) = true := by
 have a := qv v (show (0 : Int) < 6 by omega)
 have b := qv (rs v) (show (0 : Int) < 6 by omega)
 have c := qv (rs (rs v)) (show (0 : Int) < 4 by omega)
 have d := qv (rs (rs (rs v))) (show (0 : Int) < 2 * (1 + nx v 6) + 1 by omega)
 have key := pgI_all
 simp only [List.all_eq_true, List.mem_range, Bool.or_eq_true] at key
 have hx : ∀ y : Int, plyL v = pgI (1 + nx v 6) (1 + nx (rs v) 6) (nx (rs (rs v)) 4) y \/ y ≠ nx (rs (rs (rs v))) (2 * (1 + nx v 6) + 1) := fun y => by
  by_cases h : y = nx (rs (rs (rs v))) (2 * (1 + nx v 6) + 1)
  ·left; rw [h]; rfl
  ·exact .inr h
 have e : ∃ y : Nat, y < 13 /\ plyL v = pgI (1 + nx v 6) (1 + nx (rs v) 6) (nx (rs (rs v)) 4) (y : Int) /\ (¬ (nx (rs (rs v)) 4 = 1) -> y = 0) /\ (y : Int) <= 2 * (1 + nx v 6) := by
  by_cases h1 : nx (rs (rs v)) 4 = 1
  ·refine ⟨(nx (rs (rs (rs v))) (2 * (1 + nx v 6) + 1)).toNat, by omega, ?_, fun h => absurd h1 h, by omega⟩
   rw [Int.toNat_of_nonneg d.1]; rfl
  ·refine ⟨0, by omega, ?_, fun _ => rfl, by omega⟩
   unfold plyL pgI
   simp only [if_neg h1]
 obtain ⟨y, hy, e, h0, h2⟩ := e
 rw [e]
 have := key (nx v 6).toNat (by omega) (nx (rs v) 6).toNat (by omega) (nx (rs (rs v)) 4).toNat (by omega) y hy
 rw [show ((1 + (nx v 6).toNat : Nat) : Int) = 1 + nx v 6 by omega, show ((1 + (nx (rs v) 6).toNat : Nat) : Int) = 1 + nx (rs v) 6 by omega, show (((nx (rs (rs v)) 4).toNat : Nat) : Int) = nx (rs (rs v)) 4 by omega] at this
 rcases this with (h | h) | h
 ·exfalso
  simp only [ne_eq, decide_not, kA, kJ, kK, kD] at h
  exact h.2 (h0 fun h' => h.1 (by omega))
 ·exfalso
  have := of_decide_eq_true h
  omega
 ·exact h
theorem okI4_c {l : List (Int × Int)} (h : okI4 l = true) : 3 <= l.length /\ l.length <= 5 /\ ∀ i k, i < l.length -> 2 <= k -> k < l.length -> 0 < triI (l.getD i (0, 0)) (l.getD ((i + 1) % l.length) (0, 0)) (l.getD ((i + k) % l.length) (0, 0)) := by
 simp only [okI4, kA, kD, List.all_eq_true, List.mem_range, Bool.or_eq_true] at h
 refine ⟨h.1.1, h.1.2, fun i k hi h2 hk => ?_⟩
 rcases h.2 i hi k hk with h' | h'
 ·omega
 ·exact h'
def wlG (l : List (Int × Int)) (ax ay : Int) : Pg := ⟨l.length, fun k => mkRat (l.getD k (0, 0)).1 4 + mkRat ax 4, fun k => mkRat (l.getD k (0, 0)).2 4 + mkRat ay 4⟩
theorem tri_wl (a b c : Int × Int) (ax ay : Int) : tri (mkRat a.1 4 + mkRat ax 4) (mkRat a.2 4 + mkRat ay 4) (mkRat b.1 4 + mkRat ax 4) (mkRat b.2 4 + mkRat ay 4) (mkRat c.1 4 + mkRat ax 4) (mkRat c.2 4 + mkRat ay 4) = (triI a b c : Rat) / 16 := by
 unfold tri triI
 simp only [Rat.mkRat_eq_div, Rat.intCast_sub, Rat.intCast_mul]
 have h4 : (((4 : Nat) : Int) : Rat) = 4 := rfl
 have h4' : ((4 : Nat) : Rat) = 4 := rfl
 try rw [h4]
 try rw [h4']
 grind
theorem wlG_ok {l : List (Int × Int)} (h : okI4 l = true) (ax ay : Int) : okP (wlG l ax ay) /\ pkE (wlG l ax ay) = 0 := by
 obtain ⟨h1, h2, h3⟩ := okI4_c h
 refine ⟨⟨h1, by show l.length <= 8; omega⟩, pkOf fun i k hi hk2 hk => ?_⟩
 rw [show trP (wlG l ax ay) i ((i + 1) % (wlG l ax ay).n) ((i + k) % (wlG l ax ay).n) = _ from tri_wl (l.getD i (0, 0)) (l.getD ((i + 1) % l.length) (0, 0)) (l.getD ((i + k) % l.length) (0, 0)) ax ay]
 have := h3 i k hi hk2 hk
 have p : (0 : Rat) < (triI (l.getD i (0, 0)) (l.getD ((i + 1) % l.length) (0, 0)) (l.getD ((i + k) % l.length) (0, 0)) : Rat) := Rat.intCast_lt_intCast.2 this
 generalize (triI (l.getD i (0, 0)) (l.getD ((i + 1) % l.length) (0, 0)) (l.getD ((i + k) % l.length) (0, 0)) : Rat) = t at *
 grind
include hG in
theorem pcPo (v : PV) (hv : okW v = true) : PC prog G 66 [.w v] [] (.lst 6 (.vals ((plyL v).map ptI))) [] := by
 have k := qv v (show (0 : Int) < 6 by omega)
 have k' := qv (rs v) (show (0 : Int) < 6 by omega)
 have k2 := qv (rs (rs v)) (show (0 : Int) < 4 by omega)
 have k3 := qv (rs (rs (rs v))) (show (0 : Int) < 2 * (1 + nx v 6) + 1 by omega)
 have w1 := okW_rs hv
 have w2 := okW_rs w1
 have w3 := okW_rs w2
 refine qj hG (.cons (spec_ev hG (.cons (ok45 hG) (.cons (ok104 hG) .nil)) mix enPo1 (fun _ => k9 (by kernel_rfl))) .nil) mix enPo (hs := []) (L := []) (pol := { wr := [(115, [0])] }) (k9 (by kernel_rfl)) ((ePo v).trans ?_)
 have b1 : ∀ (u : PV) (n : Int), okW u = true -> 0 < n -> n <= 4294967296 -> (okW u && decide ((0 : Int) < n) && decide (n <= 4294967296)) = true := fun u n h1 h2 h3 => by rw [h1, kE h2, kE h3]; rfl
 unfold plyL pgI
 rw [k5 (b1 _ _ hv (by omega) (by omega)), k5 (by simp only [kA, kD]; omega), k5 (b1 _ _ w1 (by omega) (by omega)), k5 (by simp only [kA, kD]; omega), k5 (b1 _ _ w2 (by omega) (by omega))]
 by_cases h0 : nx (rs (rs v)) 4 = 0
 ·rw [k5 (kE h0), if_pos h0]
  repeat rw [k5 (by first | (simp only [kA, kD]; omega) | (simp only [kA, smI_iff]; omega))]
  rw [k7]; rfl
 rw [k6 (kF h0), if_neg h0]
 by_cases h1 : nx (rs (rs v)) 4 = 1
 ·rw [k5 (kE h1), if_pos h1]
  repeat rw [k5 (by first | (simp only [kA, kD]; omega) | (simp only [kA, smI_iff]; omega) | exact b1 _ _ w3 (by omega) (by omega))]
  rw [k7]; rfl
 rw [k6 (kF h1), if_neg h1]
 by_cases h2 : nx (rs (rs v)) 4 = 2
 ·rw [k5 (kE h2), if_pos h2]
  repeat rw [k5 (by first | (simp only [kA, kD]; omega) | (simp only [kA, smI_iff]; omega))]
  rw [k7]; rfl
 rw [k6 (kF h2), if_neg h2]
 repeat rw [k5 (by first | (simp only [kA, kD]; omega) | (simp only [kA, smI_iff]; omega))]
 rw [k7]; rfl
theorem goes_ent {P : Program} {G : World -> (Nat -> Prop) -> Prop} {n m : Nat} {live : List Nat} {a : Code} {ls fin fin' : LS} {e : Exit} (h : Goes (Rnd P G n m live a) ls e fin) (he : Ent G n m live fin fin') : Goes (Rnd P G n m live a) ls e fin' := by
 induction h with
 | last ls e ls' h h' => exact .last _ _ _ (h.ent he) h'
 | more ls ls1 e ls' h _ ih => exact .more _ _ _ _ h (ih he)
theorem ent_le {G : World -> (Nat -> Prop) -> Prop} {n m : Nat} {live : List Nat} {ts : List PV} {h h' : qQ} (hl : h.length = h'.length) (hm : m <= h'.length) (hk : ∀ b k', hget h' b = some k' -> ∃ k, hget h b = some k /\ KLe k k') : Ent G n m live ⟨ts, h⟩ ⟨ts, h'⟩ := by
 refine ⟨hm, fun E _ a w hi => ?_⟩
 obtain ⟨S, μ, iv⟩ := hi
 refine ⟨S, μ, iv.g, iv.defers, iv.len, iv.rep, ⟨fun b k' hb => ?_, fun b k' a z hb hmu => ?_, fun b b' k k' a z z' hb hb' h1 h2 => ?_, iv.hrel.lt⟩, fun b hb => iv.free b (by show h.length <= b; have : h'.length <= b := hb; omega), ⟨iv.link.os, iv.link.tape, iv.link.output, iv.link.size, iv.link.old, iv.link.subS, iv.link.newS, iv.link.mu, fun b k' a z hb hmu => ?_⟩⟩
 ·obtain ⟨k, h1, h2⟩ := hk b k' hb
  obtain ⟨a, z, h3, h4⟩ := iv.hrel.blk b k h1
  exact ⟨a, z, h3, h2 _ _ _ _ _ h4⟩
 ·obtain ⟨k, h1, _⟩ := hk b k' hb
  exact iv.hrel.sep b k a z h1 hmu
 ·obtain ⟨k0, e1, _⟩ := hk b k hb
  obtain ⟨k1, e2, _⟩ := hk b' k' hb'
  exact iv.hrel.inj b b' k0 k1 a z z' e1 e2 h1 h2
 ·obtain ⟨k, h1, _⟩ := hk b k' hb
  exact iv.link.place b k a z h1 hmu
theorem enWs : Enters prog 27 f27 (qd f27) := ⟨func27, by kernel_rfl, rfl⟩
def bWs : Code := (qi (qd f27)).getD 0 .skip
def iWs : Code := (qi (qd f27)).getD 1 .skip
def polWs : Pol := { live := [(4, [3, 4, 13, 14]), (8, [3, 4, 5, 6, 13, 14, 32, 33, 34])], own := [47], wr := [(14, [0])] }
def wpt (F : Nat -> Int × Int) (ax ay : Int) (k : Nat) : PV := .agg [.q (mkRat (F k).1 4 + mkRat ax 4) 129, .q (mkRat (F k).2 4 + mkRat ay 4) 129]
def sB (v : PV) : Option Blk := some ⟨1, .vals [.agg [.w v]]⟩
def aB (ax ay : Int) : Option Blk := some ⟨6, .vals [.agg [.q (mkRat ax 4) 64, .q (mkRat ay 4) 64]]⟩
structure Wl where
 n : Nat
 F : Nat -> Int × Int
 x : Int
 y : Int
def wB (W : Wl) : Option Blk := some ⟨6, .fn W.n (wpt W.F W.x W.y)⟩
def wA (v : PV) (m : Int) (N : Nat) (F : Nat -> Int × Int) (ax ay : Int) (W0 W1 : Wl) : Nat -> LS
 | 0 => ⟨[.ptr 0 1 0 0 [], .nil, .nil, .ptr 1 6 0 0 [], .i .i64 m, .i .i64 0, .lst 6 (.fn N (fun k => ptI (F k))), .i .i64 N, .i .i64 0], [sB v, aB ax ay]⟩
 | 1 => ⟨[.ptr 0 1 0 0 [], .sl 1 1 0 1, .nil, .ptr 2 6 0 0 [], .i .i64 m, .i .i64 1, .lst 6 (.fn N (fun k => ptI (F k))), .i .i64 N, .i .i64 0], [sB v, some ⟨1, .vals [.sl 3 6 0 W0.n]⟩, aB ax ay, wB W0]⟩
 | _ => ⟨[.ptr 0 1 0 0 [], .sl 1 1 0 2, .nil, .ptr 2 6 0 0 [], .i .i64 m, .i .i64 2, .lst 6 (.fn N (fun k => ptI (F k))), .i .i64 N, .i .i64 0], [sB v, some ⟨1, .vals [.sl 3 6 0 W0.n, .sl 4 6 0 W1.n]⟩, aB ax ay, wB W0, wB W1]⟩
def wZ (v : PV) (m : Int) (N : Nat) (F : Nat -> Int × Int) (ax ay : Int) (W0 W1 : Wl) (c : Cont) : Nat -> LS
 | 0 => ⟨[.ptr 0 1 0 0 [], .nil, .sl 1 6 0 N, .ptr 2 6 0 0 [], .i .i64 m, .i .i64 0, .lst 6 (.fn N (fun k => ptI (F k))), .i .i64 N, .i .i64 N], [sB v, some ⟨6, c⟩, aB ax ay]⟩
 | 1 => ⟨[.ptr 0 1 0 0 [], .sl 1 1 0 1, .sl 2 6 0 N, .ptr 3 6 0 0 [], .i .i64 m, .i .i64 1, .lst 6 (.fn N (fun k => ptI (F k))), .i .i64 N, .i .i64 N], [sB v, some ⟨1, .vals [.sl 4 6 0 W0.n]⟩, some ⟨6, c⟩, aB ax ay, wB W0]⟩
 | _ => ⟨[.ptr 0 1 0 0 [], .sl 1 1 0 2, .sl 2 6 0 N, .ptr 3 6 0 0 [], .i .i64 m, .i .i64 2, .lst 6 (.fn N (fun k => ptI (F k))), .i .i64 N, .i .i64 N], [sB v, some ⟨1, .vals [.sl 4 6 0 W0.n, .sl 5 6 0 W1.n]⟩, some ⟨6, c⟩, aB ax ay, wB W0, wB W1]⟩
def outK : Exit -> LS -> Tr := fun e ls => .ok (.out e ls)
def runW (v : PV) (m : Int) (N : Nat) (F : Nat -> Int × Int) (ax ay : Int) (W0 W1 : Wl) (j : Nat) : Tr := unr prog [(67, g57)] [] polWs f27.ntmps 0 [3, 4, 5, 6, 13, 14, 32, 33, 34] iWs 6 (wA v m N F ax ay W0 W1 j) outK
def endW (v : PV) (m : Int) (N : Nat) (F : Nat -> Int × Int) (ax ay : Int) (W0 W1 : Wl) (j : Nat) : Option Res := some (.out (.exit 2) (wZ v m N F ax ay W0 W1 (.vals ((List.range N).map (wpt F ax ay))) j))
theorem eW3 (v : PV) (m : Int) (F : Nat -> Int × Int) (ax ay : Int) (W0 W1 : Wl) : ∀ j, j < 3 -> (runW v m 3 F ax ay W0 W1 j).run = endW v m 3 F ax ay W0 W1 j
 | 0, _ => by kernel_rfl
 | 1, _ => by kernel_rfl
 | 2, _ => by kernel_rfl
 | j + 3, h => by omega
theorem eW4 (v : PV) (m : Int) (F : Nat -> Int × Int) (ax ay : Int) (W0 W1 : Wl) : ∀ j, j < 3 -> (runW v m 4 F ax ay W0 W1 j).run = endW v m 4 F ax ay W0 W1 j
 | 0, _ => by kernel_rfl
 | 1, _ => by kernel_rfl
 | 2, _ => by kernel_rfl
 | j + 3, h => by omega
theorem eW5 (v : PV) (m : Int) (F : Nat -> Int × Int) (ax ay : Int) (W0 W1 : Wl) : ∀ j, j < 3 -> (runW v m 5 F ax ay W0 W1 j).run = endW v m 5 F ax ay W0 W1 j
 | 0, _ => by kernel_rfl
 | 1, _ => by kernel_rfl
 | 2, _ => by kernel_rfl
 | j + 3, h => by omega
def isK (ks ks' : List Int) : Prop := ks' = ks
def vPo (ks : List Int) (N : Nat) (F : Nat -> Int × Int) : Spec := fun args hs K => match args, hs with
 | [.lst 1 (.ints .i64 ks')], [] => .br (qg (isK ks ks')) (K (.lst 6 (.fn N (fun k => ptI (F k)))) []) (.no 1)
 | _, _ => .no 1
def wS (v : PV) (m : Int) (W0 W1 W2 : Wl) : Nat -> LS
 | 0 => ⟨[.ptr 0 1 0 0 [], .nil, .i .i64 m, .i .i64 0], [sB v]⟩
 | 1 => ⟨[.ptr 0 1 0 0 [], .sl 1 1 0 1, .i .i64 m, .i .i64 1], [sB v, some ⟨1, .vals [.sl 2 6 0 W0.n]⟩, wB W0]⟩
 | 2 => ⟨[.ptr 0 1 0 0 [], .sl 1 1 0 2, .i .i64 m, .i .i64 2], [sB v, some ⟨1, .vals [.sl 2 6 0 W0.n, .sl 3 6 0 W1.n]⟩, wB W0, wB W1]⟩
 | _ => ⟨[.ptr 0 1 0 0 [], .sl 1 1 0 3, .i .i64 m, .i .i64 3], [sB v, some ⟨1, .vals [.sl 2 6 0 W0.n, .sl 3 6 0 W1.n, .sl 4 6 0 W2.n]⟩, wB W0, wB W1, wB W2]⟩
def r5 (v : PV) : PV := rs (rs (rs (rs (rs v))))
def wKs (v : PV) : List Int := [nx (rs (rs v)) 60, nx (rs (rs (rs v))) 60, nx (rs (rs (rs (rs v)))) 60]
def wX (v : PV) : Int := nx v 33 - 16
def wY (v : PV) : Int := nx (rs v) 33 - 16
def OWs (v : PV) (N : Nat) (F : Nat -> Int × Int) : Orc := [(14, s45), (65, s23), (66, vPo (wKs v) N F), (67, g57)]
def c33 (v : PV) : Bool := okW v && decide ((0 : Int) < 33) && decide ((33 : Int) <= 4294967296)
def c60 (v : PV) : Bool := okW v && decide ((0 : Int) < 60) && decide ((60 : Int) <= 4294967296)
def cN4 (x : Int) : Bool := decide ((0 : Int) < 4) && decide ((4 : Int) < 4611686018427387904) && decide (-4611686018427387904 < x) && decide (x < 4611686018427387904)
def trW (v : PV) (j m : Int) (st nx ex : LS) : Tr :=
 .br (decide (j < m)) (.br (c33 v) (.br (ovf (wX v)) (.br (cN4 (wX v)) (.br (c33 (rs v)) (.br (ovf (wY v)) (.br (cN4 (wY v)) (.br (c60 (rs (rs v))) (.br (c60 (rs (rs (rs v)))) (.br (c60 (rs (rs (rs (rs v))))) (.br (qg (isK (wKs v) (wKs v)))
  (.br (qg (isLS st st)) (.ok (.out .normal nx)) (.no 1)) (.no 1)) (.no 1)) (.no 1)) (.no 1)) (.no 1)) (.no 1)) (.no 1)) (.no 1)) (.no 1)) (.no 1)) (.ok (.out (.exit 0) ex))
def rdW (v : PV) (m : Int) (N : Nat) (F : Nat -> Int × Int) (W0 W1 W2 : Wl) (j : Nat) : Tr :=
 qh prog (OWs v N F) [(8, qI (wA (r5 v) m N F (wX v) (wY v) W0 W1 j) (.exit 2) (wZ (r5 v) m N F (wX v) (wY v) W0 W1 (.fn N (wpt F (wX v) (wY v))) j))] polWs f27.ntmps 0 [3, 4, 13, 14] bWs (wS v m W0 W1 W2 j)
theorem tW0 (v : PV) (m : Int) (N : Nat) (F : Nat -> Int × Int) (W0 W1 W2 : Wl) : (rdW v m N F W0 W1 W2 0).run = (trW v 0 m (wA (r5 v) m N F (wX v) (wY v) W0 W1 0) (wS (r5 v) m ⟨N, F, wX v, wY v⟩ W1 W2 1) (wS v m W0 W1 W2 0)).run := by kernel_rfl
theorem tW1 (v : PV) (m : Int) (N : Nat) (F : Nat -> Int × Int) (W0 W1 W2 : Wl) : (rdW v m N F W0 W1 W2 1).run = (trW v 1 m (wA (r5 v) m N F (wX v) (wY v) W0 W1 1) (wS (r5 v) m W0 ⟨N, F, wX v, wY v⟩ W2 2) (wS v m W0 W1 W2 1)).run := by kernel_rfl
theorem tW2 (v : PV) (m : Int) (N : Nat) (F : Nat -> Int × Int) (W0 W1 W2 : Wl) : (rdW v m N F W0 W1 W2 2).run = (trW v 2 m (wA (r5 v) m N F (wX v) (wY v) W0 W1 2) (wS (r5 v) m W0 W1 ⟨N, F, wX v, wY v⟩ 3) (wS v m W0 W1 W2 2)).run := by kernel_rfl
theorem tWx (v : PV) (m : Int) (W0 W1 W2 : Wl) : ∀ j, j <= 3 -> (qh prog [] [] polWs f27.ntmps 0 [3, 4, 13, 14] bWs (wS v m W0 W1 W2 j)).run = (Tr.br (decide ((j : Int) < m)) (.no 1) (.ok (.out (.exit 0) (wS v m W0 W1 W2 j)))).run
 | 0, _ => by kernel_rfl
 | 1, _ => by kernel_rfl
 | 2, _ => by kernel_rfl
 | 3, _ => by kernel_rfl
 | j + 4, h => by omega
def c4 (v : PV) : Bool := okW v && decide ((0 : Int) < 4) && decide ((4 : Int) <= 4294967296)
def trWf (v : PV) (m : Int) (W0 W1 W2 : Wl) (r : Tr) : Tr := .br (c4 v) (.br (qg (isLS (wS (rs v) m W0 W1 W2 0) (wS (rs v) (nx v 4) W0 W1 W2 0))) r (.no 1)) (.no 1)
def rnW (v u : PV) (m : Int) (W0 W1 W2 : Wl) (j : Nat) : Tr := evF prog [(14, s45)] [(4, qI (wS (rs v) m W0 W1 W2 0) (.exit 0) (wS u m W0 W1 W2 j))] polWs f27 [.w v] [] ql
def wV (W : Wl) : PV := .lst 6 (.fn W.n (wpt W.F W.x W.y))
theorem eWf0 (v u : PV) (m : Int) (W0 W1 W2 : Wl) : (rnW v u m W0 W1 W2 0).run = (trWf v m W0 W1 W2 (.ok (.ret .nil []))).run := by kernel_rfl
theorem eWf1 (v u : PV) (m : Int) (W0 W1 W2 : Wl) : (rnW v u m W0 W1 W2 1).run = (trWf v m W0 W1 W2 (.br (Nat.ble (0 + W0.n) W0.n) (.ok (.ret (.fr 1 (.vals [wV W0])) [])) (.no 1))).run := by kernel_rfl
theorem eWf2 (v u : PV) (m : Int) (W0 W1 W2 : Wl) : (rnW v u m W0 W1 W2 2).run = (trWf v m W0 W1 W2 (.br (Nat.ble (0 + W0.n) W0.n && Nat.ble (0 + W1.n) W1.n) (.ok (.ret (.fr 1 (.vals [wV W0, wV W1])) [])) (.no 1))).run := by kernel_rfl
theorem eWf3 (v u : PV) (m : Int) (W0 W1 W2 : Wl) : (rnW v u m W0 W1 W2 3).run = (trWf v m W0 W1 W2 (.br (Nat.ble (0 + W0.n) W0.n && (Nat.ble (0 + W1.n) W1.n && Nat.ble (0 + W2.n) W2.n)) (.ok (.ret (.fr 1 (.vals [wV W0, wV W1, wV W2])) [])) (.no 1))).run := by kernel_rfl
theorem lpsY {P : Program} {G : World -> (Nat -> Prop) -> Prop} {pol : Pol} {n m : Nat} {L : Lps} {c b : Code} (hc : qi c = [b]) (e : Lps.look (qq b) L = none) : LpsOK P G pol n m L c :=
 LpsOK.of hc fun a ha live' sp' _ g2 => by
  simp at ha
  subst ha
  rw [e] at g2
  cases g2
theorem hget_mid {a b : qQ} {x : Option Blk} (i : Nat) : hget (a ++ x :: b) i = if i < a.length then hget a i else if i = a.length then x else hget b (i - a.length - 1) := by
 unfold hget
 by_cases h : i < a.length
 ·rw [if_pos h, List.getElem?_append_left h]
 ·rw [if_neg h, List.getElem?_append_right (by omega)]
  by_cases h' : i = a.length
  ·subst h'; rw [if_pos rfl, Nat.sub_self]
   cases x <;> rfl
  ·rw [if_neg h', show i - a.length = (i - a.length - 1) + 1 by omega, List.getElem?_cons_succ]
   simp
theorem ent_mid {G : World -> (Nat -> Prop) -> Prop} {n m : Nat} {live : List Nat} {ts : List PV} {a b : qQ} {k k' : Blk} (hm : m <= a.length) (hk : KLe k k') : Ent G n m live ⟨ts, a ++ some k :: b⟩ ⟨ts, a ++ some k' :: b⟩ := by
 refine ent_le (by simp) (by simp; omega) fun i c hc => ?_
 rw [hget_mid] at hc ⊢
 by_cases h : i < a.length
 ·rw [if_pos h] at hc ⊢; exact ⟨c, hc, .refl _⟩
 ·rw [if_neg h] at hc ⊢
  by_cases h' : i = a.length
  ·rw [if_pos h'] at hc ⊢
   cases hc
   exact ⟨k, rfl, hk⟩
  ·rw [if_neg h'] at hc ⊢; exact ⟨c, hc, .refl _⟩
theorem wZ_ent {G : World -> (Nat -> Prop) -> Prop} {n : Nat} {live : List Nat} (v : PV) (m : Int) (N : Nat) (F : Nat -> Int × Int) (ax ay : Int) (W0 W1 : Wl) (c c' : Cont) (h : KLe ⟨6, c⟩ ⟨6, c'⟩) : ∀ j, Ent G n 0 live (wZ v m N F ax ay W0 W1 c j) (wZ v m N F ax ay W0 W1 c' j)
 | 0 => ent_mid (a := [sB v]) (b := [aB ax ay]) (Nat.zero_le _) h
 | 1 => ent_mid (a := [sB v, some ⟨1, .vals [.sl 4 6 0 W0.n]⟩]) (b := [aB ax ay, wB W0]) (Nat.zero_le _) h
 | j + 2 => ent_mid (a := [sB v, some ⟨1, .vals [.sl 4 6 0 W0.n, .sl 5 6 0 W1.n]⟩]) (b := [aB ax ay, wB W0, wB W1]) (Nat.zero_le _) h
include hG in
theorem goesW (hT : qo G) (v : PV) (m : Int) (N : Nat) (F : Nat -> Int × Int) (ax ay : Int) (W0 W1 : Wl) (h3 : 3 <= N) (h5 : N <= 5) (j : Nat) (hj : j < 3) :
  Goes (Rnd prog G f27.ntmps 0 [3, 4, 5, 6, 13, 14, 32, 33, 34] iWs) (wA v m N F ax ay W0 W1 j) (.exit 2) (wZ v m N F ax ay W0 W1 (.fn N (wpt F ax ay)) j) := by
 have oc : OrcOK prog G [(67, g57)] := .cons (gk57 hG hT) .nil
 have e : (runW v m N F ax ay W0 W1 j).run = endW v m N F ax ay W0 W1 j := by
  rcases (show N = 3 \/ N = 4 \/ N = 5 by omega) with rfl | rfl | rfl
  ·exact eW3 v m F ax ay W0 W1 j hj
  ·exact eW4 v m F ax ay W0 W1 j hj
  ·exact eW5 v m F ax ay W0 W1 j hj
 obtain ⟨e1, ls1, g, hx⟩ := unr_goes (P := prog) (G := G) (pol := polWs) (L := []) (n := f27.ntmps) (m := 0) (live := [3, 4, 5, 6, 13, 14, 32, 33, 34]) (a := iWs) hG oc mix (k9 (by kernel_rfl)) 6 (wA v m N F ax ay W0 W1 j) outK _ (Nat.zero_le _) e
 simp only [outK, Tr.run, Option.some.injEq, Res.out.injEq] at hx
 obtain ⟨rfl, rfl⟩ := hx
 refine goes_ent g (wZ_ent v m N F ax ay W0 W1 _ _ (KLe.fn (by simp) fun i u hi => ?_) j)
 rw [List.getElem?_map] at hi
 cases hr : (List.range N)[i]? with
 | none => rw [hr] at hi; cases hi
 | some k =>
  rw [hr] at hi
  obtain rfl := Option.some.inj hi
  have hlt : i < N := by
   have := (List.getElem?_eq_some_iff.1 hr).1
   simpa using this
  rw [List.getElem?_range hlt] at hr
  obtain rfl := Option.some.inj hr
  exact ⟨rfl, .refl _⟩
def uK (t : PV) : PV := .lst 1 (.ints .i64 (wKs t))
def wv (v : PV) : Nat -> PV
 | 0 => rs v
 | j + 1 => r5 (wv v j)
def wsW (v : PV) (j : Nat) : Wl := ⟨(plyL (uK (wv v j))).length, fun k => (plyL (uK (wv v j))).getD k (0, 0), wX (wv v j), wY (wv v j)⟩
def wsM (v : PV) (j : Nat) : Pg := wlG (plyL (uK (wv v j))) (wX (wv v j)) (wY (wv v j))
def wsN (v : PV) : Nat := (nx v 4).toNat
def wsV (v : PV) : PV := if wsN v = 0 then .nil else lsV (wsN v) (wsM v)
theorem okW_wv {v : PV} (h : okW v = true) : ∀ j, okW (wv v j) = true
 | 0 => okW_rs h
 | j + 1 => okW_rs (okW_rs (okW_rs (okW_rs (okW_rs (okW_wv h j)))))
theorem wsV_is (v : PV) : isW (wsV v) (wsN v) (wsM v) := by
 have := qv v (show (0 : Int) < 4 by omega)
 unfold wsV
 by_cases h : wsN v = 0
 ·rw [if_pos h]; exact .inl ⟨rfl, h⟩
 ·rw [if_neg h]; exact .inr ⟨rfl, by unfold wsN; omega, fun j _ => wlG_ok (plyL_ok _) _ _⟩
theorem wV_le (v : PV) (j : Nat) : VLe (wV (wsW v j)) (pgV (wsM v j)) :=
 VLe.lst rfl fun i _ => VLe.agg (qJ (qF (show 129 <= 32138 by omega)) (qJ (qF (show 129 <= 32138 by omega)) vll0))
include hG in
theorem vkPo (v : PV) (hv : okW v = true) : qc prog G 66 (vPo (wKs v) (plyL (uK v)).length (fun k => (plyL (uK v)).getD k (0, 0))) := by
 intro args hs K x h
 unfold vPo at h
 split at h
 case h_2 => cases h
 rename_i ks'
 obtain ⟨hc, hr⟩ := k8 h
 obtain rfl : ks' = wKs v := decP_iff.1 hc
 refine ⟨_, _, PC.args (.cons (vle_w_in (v := uK v) rfl) .nil) ((pcPo hG (uK v) rfl).le (rle_vle (fun _ => rfl) (fun _ => rfl) (VLe.lst (by show ((plyL (uK v)).map ptI).length = _; simp; rfl) fun i hi => ?_)) (.refl _)), hr⟩
 have hi' : i < (plyL (uK v)).length := by
  have : i < ((plyL (uK v)).map ptI).length := hi
  simpa using this
 have e : (Cont.vals ((plyL (uK v)).map ptI)).get i = ptI ((plyL (uK v)).getD i (0, 0)) := by
  show ((plyL (uK v)).map ptI).getD i .any = _
  rw [List.getD_eq_getElem?_getD, List.getElem?_map, List.getD_eq_getElem?_getD, List.getElem?_eq_getElem hi']
  rfl
 rw [e]
 exact .refl _
theorem cN4_t {x : Int} (h1 : -100 <= x) (h2 : x <= 100) : cN4 x = true := by
 unfold cN4
 simp only [kA, kD]; omega
theorem c33_t {v : PV} (h : okW v = true) : c33 v = true := by unfold c33; rw [h]; rfl
theorem c60_t {v : PV} (h : okW v = true) : c60 v = true := by unfold c60; rw [h]; rfl
theorem trW_run {v : PV} (hv : okW v = true) {j m : Int} (hj : j < m) (st nt ex : LS) : (trW v j m st nt ex).run = some (.out .normal nt) := by
 have a := qv v (show (0 : Int) < 33 by omega)
 have b := qv (rs v) (show (0 : Int) < 33 by omega)
 have w1 := okW_rs hv
 have w2 := okW_rs w1
 have w3 := okW_rs w2
 have w4 := okW_rs w3
 have hx : -16 <= wX v /\ wX v <= 16 := by unfold wX; omega
 have hy : -16 <= wY v /\ wY v <= 16 := by unfold wY; omega
 unfold trW
 rw [k5 (kE hj), k5 (c33_t hv), k5 (by simp only [ovf, kA, kD]; omega), k5 (cN4_t (by omega) (by omega)), k5 (c33_t w1),
  k5 (by simp only [ovf, kA, kD]; omega), k5 (cN4_t (by omega) (by omega)), k5 (c60_t w2), k5 (c60_t w3), k5 (c60_t w4), k5 (decP_iff.2 (show isK _ _ from rfl)), k5 isLS_t, k7]
include hG in
theorem pcWs (hT : qo G) (v : PV) (hv : okW v = true) : PC prog G 27 [.w v] [] (.w (wsV v)) [] := by
 have h4 := qv v (show (0 : Int) < 4 by omega)
 have oc : ∀ u, okW u = true -> OrcOK prog G (OWs u (plyL (uK u)).length (fun k => (plyL (uK u)).getD k (0, 0))) := fun u hu => .cons (ok45 hG) (.cons (ok23 hG) (.cons (vkPo hG u hu) (.cons (gk57 hG hT) .nil)))
 have ln : ∀ u, 3 <= (plyL (uK u)).length /\ (plyL (uK u)).length <= 5 := fun u => ⟨(okI4_c (plyL_ok (uK u))).1, (okI4_c (plyL_ok (uK u))).2.1⟩
 obtain ⟨m, hm⟩ : ∃ m, nx v 4 = m := ⟨_, rfl⟩
 have rd : ∀ (u : PV) (W0 W1 W2 : Wl) (j : Nat) (e : Exit) (ls : LS), okW u = true -> j < 3 -> (rdW u m (plyL (uK u)).length (fun k => (plyL (uK u)).getD k (0, 0)) W0 W1 W2 j).run = some (.out e ls) -> Rnd prog G f27.ntmps 0 [3, 4, 13, 14] bWs (wS u m W0 W1 W2 j) e ls :=
  fun u W0 W1 W2 j e ls hu hj h => qb hG (oc u hu) mix (pol := polWs) (lps1 (b := iWs) (live := [3, 4, 5, 6, 13, 14, 32, 33, 34]) (m := 0) (by kernel_rfl) (by kernel_rfl) (by kernel_rfl) (qC (goesW hG hT (r5 u) m (plyL (uK u)).length (fun k => (plyL (uK u)).getD k (0, 0)) (wX u) (wY u) W0 W1 (ln u).1 (ln u).2 j hj))) (Nat.zero_le _) h
 have r0 : 0 < m -> Rnd prog G f27.ntmps 0 [3, 4, 13, 14] bWs (wS (wv v 0) m (wsW v 0) (wsW v 1) (wsW v 2) 0) .normal (wS (wv v 1) m (wsW v 0) (wsW v 1) (wsW v 2) 1) := fun hj =>
  rd (wv v 0) _ _ _ 0 _ _ (okW_wv hv 0) (by omega) ((tW0 (wv v 0) m _ _ (wsW v 0) (wsW v 1) (wsW v 2)).trans (trW_run (okW_wv hv 0) hj _ _ _))
 have r1 : 1 < m -> Rnd prog G f27.ntmps 0 [3, 4, 13, 14] bWs (wS (wv v 1) m (wsW v 0) (wsW v 1) (wsW v 2) 1) .normal (wS (wv v 2) m (wsW v 0) (wsW v 1) (wsW v 2) 2) := fun hj =>
  rd (wv v 1) _ _ _ 1 _ _ (okW_wv hv 1) (by omega) ((tW1 (wv v 1) m _ _ (wsW v 0) (wsW v 1) (wsW v 2)).trans (trW_run (okW_wv hv 1) hj _ _ _))
 have r2 : 2 < m -> Rnd prog G f27.ntmps 0 [3, 4, 13, 14] bWs (wS (wv v 2) m (wsW v 0) (wsW v 1) (wsW v 2) 2) .normal (wS (wv v 3) m (wsW v 0) (wsW v 1) (wsW v 2) 3) := fun hj =>
  rd (wv v 2) _ _ _ 2 _ _ (okW_wv hv 2) (by omega) ((tW2 (wv v 2) m _ _ (wsW v 0) (wsW v 1) (wsW v 2)).trans (trW_run (okW_wv hv 2) hj _ _ _))
 have rx : ∀ j : Nat, j <= 3 -> m = (j : Int) -> Rnd prog G f27.ntmps 0 [3, 4, 13, 14] bWs (wS (wv v j) m (wsW v 0) (wsW v 1) (wsW v 2) j) (.exit 0) (wS (wv v j) m (wsW v 0) (wsW v 1) (wsW v 2) j) := fun j hj he =>
  qb hG .nil mix (L := []) (pol := polWs) (lpsY (b := iWs) (by kernel_rfl) (by kernel_rfl)) (Nat.zero_le _) ((tWx (wv v j) m _ _ _ j hj).trans (by rw [k6 (kF (by omega)), k7]))
 have fin : ∀ (j : Nat) (r : PV), Goes (Rnd prog G f27.ntmps 0 [3, 4, 13, 14] bWs) (wS (rs v) m (wsW v 0) (wsW v 1) (wsW v 2) 0) (.exit 0) (wS (wv v j) m (wsW v 0) (wsW v 1) (wsW v 2) j) -> (rnW v (wv v j) m (wsW v 0) (wsW v 1) (wsW v 2) j).run = some (.ret r []) -> PC prog G 27 [.w v] [] r [] := fun j r g h =>
  qj hG (.cons (ok45 hG) .nil) mix enWs (hs := []) (pol := polWs) (L := [(4, qI (wS (rs v) m (wsW v 0) (wsW v 1) (wsW v 2) 0) (.exit 0) (wS (wv v j) m (wsW v 0) (wsW v 1) (wsW v 2) j))])
   (lps1n (b := bWs) (b' := iWs) (live := [3, 4, 13, 14]) (m := 0) (by kernel_rfl) (by kernel_rfl) (by kernel_rfl) (by kernel_rfl) (qC g)) h
 have pre : ∀ (r : Tr) (x : Option Res), r.run = x -> (trWf v m (wsW v 0) (wsW v 1) (wsW v 2) r).run = x := fun r x h => by
  unfold trWf
  rw [k5 (by unfold c4; rw [hv]; rfl), hm, k5 isLS_t]
  exact h
 have bl : ∀ n : Nat, Nat.ble (0 + n) n = true := fun n => by rw [kG]; omega
 have vv : ∀ (vs : List PV) (n : Nat), vs.length = n -> (∀ i u, vs[i]? = some u -> VLe u (pgV (wsM v i))) -> wsN v = n -> n ≠ 0 -> PC prog G 27 [.w v] [] (.fr 1 (.vals vs)) [] -> PC prog G 27 [.w v] [] (.w (wsV v)) [] := fun vs n hl hv hn h0 h => by
  refine h.seen.le (rle_vle (fun _ => rfl) (fun _ => rfl) ?_) (.refl _)
  unfold wsV
  rw [hn, if_neg h0]
  refine .trans (VLe.lst (d := .fn n (fun i => pgV (wsM v i))) hl fun i hi => ?_) (vw_lst 1 _)
  have hi' : i < vs.length := hi
  have e : vs[i]? = some (vs[i]'hi') := List.getElem?_eq_getElem _
  show VLe (vs.getD i .any) _
  rw [List.getD_eq_getElem?_getD, e]
  exact hv i _ e
 have m4 : m = 0 \/ m = 1 \/ m = 2 \/ m = 3 := by omega
 rcases m4 with h | h | h | h
 ·have p := fin 0 _ (.last _ _ _ (rx 0 (by omega) h) (by simp)) ((eWf0 v _ m _ _ _).trans (pre _ _ rfl))
  refine p.le (rle_vle (fun _ => rfl) (fun _ => rfl) ?_) (.refl _)
  unfold wsV
  rw [if_pos (by unfold wsN; omega)]
  exact vw_nil
 ·refine vv [wV (wsW v 0)] 1 rfl (fun i u hi => ?_) (by unfold wsN; omega) (by omega) (fin 1 _ (.more _ _ _ _ (r0 (by omega)) (.last _ _ _ (rx 1 (by omega) h) (by simp))) ((eWf1 v _ m _ _ _).trans (pre _ _ ?_)))
  ·match i, hi with
   | 0, hi => obtain rfl := Option.some.inj hi; exact wV_le v 0
   | i + 1, hi => simp at hi
  ·rw [k5 (bl _), k7]
 ·refine vv [wV (wsW v 0), wV (wsW v 1)] 2 rfl (fun i u hi => ?_) (by unfold wsN; omega) (by omega) (fin 2 _ (.more _ _ _ _ (r0 (by omega)) (.more _ _ _ _ (r1 (by omega)) (.last _ _ _ (rx 2 (by omega) h) (by simp)))) ((eWf2 v _ m _ _ _).trans (pre _ _ ?_)))
  ·match i, hi with
   | 0, hi => obtain rfl := Option.some.inj hi; exact wV_le v 0
   | 1, hi => obtain rfl := Option.some.inj hi; exact wV_le v 1
   | i + 2, hi => simp at hi
  ·rw [k5 (by rw [bl, bl]; rfl), k7]
 ·refine vv [wV (wsW v 0), wV (wsW v 1), wV (wsW v 2)] 3 rfl (fun i u hi => ?_) (by unfold wsN; omega) (by omega) (fin 3 _ (.more _ _ _ _ (r0 (by omega)) (.more _ _ _ _ (r1 (by omega)) (.more _ _ _ _ (r2 (by omega)) (.last _ _ _ (rx 3 (by omega) h) (by simp))))) ((eWf3 v _ m _ _ _).trans (pre _ _ ?_)))
  ·match i, hi with
   | 0, hi => obtain rfl := Option.some.inj hi; exact wV_le v 0
   | 1, hi => obtain rfl := Option.some.inj hi; exact wV_le v 1
   | 2, hi => obtain rfl := Option.some.inj hi; exact wV_le v 2
   | i + 3, hi => simp at hi
  ·rw [k5 (by rw [bl, bl, bl]; rfl), k7]
theorem enCK : Enters prog 6 f6 (qd f6) := ⟨func6, by kernel_rfl, rfl⟩
def bR (b : Bool) : PV := .tup [.b b, .i .i64 0]
def isMo (A : Am) (V a : PV) (p q : List Rat) (W : PV) (n : Int) : Prop := a = qA A /\ W = V /\ p.length = A.n /\ q.length = A.n /\ 1 <= n /\ n <= 6
def vMo (A : Am) (V : PV) (B : List Rat -> List Rat -> Int -> Bool) : Spec := fun args hs K => match args, hs with
 | [a, .lst 3 (.rats 64 p), .lst 3 (.rats 64 q), .w W, .i .i64 n], [] => .br (qg (isMo A V a p q W n)) (K (bR (B p q n)) []) (.no 1)
 | _, _ => .no 1
def OC0 (l o : PV) (A : Am) (CF : PV -> List Rat) (V : PV) (B : List Rat -> List Rat -> Int -> Bool) (R : Orc) : Orc := (13, cst [.w l] True (armFr A)) :: (15, vCf A CF) :: (26, cst [] True (.bl true)) :: (27, cst [.w o] True (.w V)) :: (28, s24) :: (30, vMo A V B) :: R
def tkz (p : List Rat) : List Rat := List.take p.length (List.drop 0 p)
theorem tkz_eq (p : List Rat) : tkz p = p := by unfold tkz; rw [List.drop_zero, List.take_length]
def trC0 (l m k o : PV) (A : Am) (CF : PV -> List Rat) (r : Tr) : Tr :=
 .br (qg (isA [] True [])) (.br (qg (isA [.w l] True [.w l])) (.br (Nat.ble (0 + A.n) A.n) (.br (qg (isCf A (qA A) m)) (.br (Nat.ble (0 + (CF m).length) (CF m).length) (.br (qg (isCf A (qA A) k)) (.br (Nat.ble (0 + (CF k).length) (CF k).length) (.br (qg (isA [.w o] True [.w o])) r
  (.no 1)) (.no 1)) (.no 1)) (.no 1)) (.no 1)) (.no 1)) (.no 1)) (.no 1)
theorem eCK (l m k o V : PV) (A : Am) (CF : PV -> List Rat) (B : List Rat -> List Rat -> Int -> Bool) (a : Int) : (evF prog (OC0 l o A CF V B []) [] {} f6 [.w l, .w m, .w k, .w o, .i .i64 a] [] ql).run =
  (trC0 l m k o A CF (.br (ovf (1 + a % 3)) (.br (qg (isMo A V (qA A) (tkz (CF m)) (tkz (CF k)) V (1 + a % 3))) (.br (qg (isMo A V (qA A) (tkz (CF k)) (tkz (CF m)) V (1 + a % 3))) (.br (ovf (2 * (1 + a % 3))) (.br (qg (isMo A V (qA A) (tkz (CF m)) (tkz (CF k)) V (2 * (1 + a % 3)))) (.br (B (tkz (CF m)) (tkz (CF k)) (1 + a % 3) == B (tkz (CF k)) (tkz (CF m)) (1 + a % 3)) (.br (!B (tkz (CF m)) (tkz (CF k)) (1 + a % 3)) (.ok (.ret (.bl true) [])) (.ok (.ret (.b (B (tkz (CF m)) (tkz (CF k)) (2 * (1 + a % 3)))) []))) (.ok (.ret (.bl false) []))) (.no 1)) (.no 1)) (.no 1)) (.no 1)) (.no 1))).run := by kernel_rfl
theorem rle_bR (b : Bool) : RLe (.tup [.bl b, .i .i64 0]) (bR b) := rle_vle (fun _ => rfl) (fun _ => rfl) (VLe.tup (qJ (vle_bl _) (qJ (.refl _) vll0)))
include hG in
theorem vkMo (hT : qo G) (A : Am) (hA : armB A = true) (hS : shp A) {V : PV} {m : Nat} {M : Nat -> Pg} (hV : isW V m M) : qc prog G 30 (vMo A V fun p q n => motB A p q n.toNat m M) := by
 intro args hs K x h
 unfold vMo at h
 split at h
 case h_2 => cases h
 rename_i a p q W n
 obtain ⟨hc, hr⟩ := k8 h
 obtain ⟨rfl, rfl, hp, hq, n1, n6⟩ := decP_iff.1 hc
 have pc := (pcMo hG hT A hA hS p q hp hq hV n.toNat (by omega) (by omega)).le (rle_bR _) (.refl _)
 rw [Int.toNat_of_nonneg (by omega)] at pc
 exact ⟨_, _, pc, hr⟩
include hG in
theorem orcC0 (hT : qo G) (l o : PV) (hl : okW l = true) (ho : okW o = true) {R : Orc} (hR : OrcOK prog G R) : OrcOK prog G (OC0 l o (qP l) (fun m => cfL (qP l).lk m (qP l).n) (wsV o) (fun p q n => motB (qP l) p q n.toNat (wsN o) (wsM o)) R) :=
 .cons (cst_t (pArm hG l hl)) (.cons (vCf_ok hG (qP l) (armB_V l) (limX_V l)) (.cons (cst_t (pcCl hG hT)) (.cons (cst_t (pcWs hG hT o ho)) (.cons (ok24 hG) (.cons (vkMo hG hT (qP l) (armB_V l) (shp_V l) (wsV_is o)) hR)))))
theorem trC0_run {l m k o : PV} {A : Am} {CF : PV -> List Rat} (hm : okW m = true) (hk : okW k = true) {r : Tr} {x : Option Res} (h : r.run = x) : (trC0 l m k o A CF r).run = x := by
 have bl : ∀ n : Nat, Nat.ble (0 + n) n = true := fun n => by rw [kG]; omega
 unfold trC0
 rw [k5 (decP_iff.2 ⟨rfl, trivial⟩), k5 (decP_iff.2 ⟨rfl, trivial⟩), k5 (bl _), k5 (decP_iff.2 ⟨rfl, hm⟩), k5 (bl _), k5 (decP_iff.2 ⟨rfl, hk⟩), k5 (bl _), k5 (decP_iff.2 ⟨rfl, trivial⟩)]
 exact h
include hG in
theorem lawCK (hT : qo G) (l m k o : PV) (a : Int) (hl : okW l = true) (hm : okW m = true) (hk : okW k = true) (ho : okW o = true) : PC prog G 6 [.w l, .w m, .w k, .w o, .i .i64 a] [] (.bl true) [] := by
 have hA := armB_V l
 have hX := limX_V l
 have hS := shp_V l
 have lp : ∀ u, (cfL (qP l).lk u (qP l).n).length = (qP l).n := fun u => cfL_len _ _ _
 have ha := Int.emod_nonneg a (show (3 : Int) ≠ 0 by omega)
 have ha' := Int.emod_lt_of_pos a (show (0 : Int) < 3 by omega)
 have oc := orcC0 hG hT l o hl ho (R := []) .nil
 have hM : ∀ j, j < wsN o -> 1 <= (wsM o j).n := fun j hj => by
  have := (okI4_c (plyL_ok (uK (wv o j)))).1
  show 1 <= (plyL (uK (wv o j))).length
  omega
 have tw := fun h => mot_twice (A := qP l) hA hS (p := cfL (qP l).lk m (qP l).n) (q := cfL (qP l).lk k (qP l).n) (lp m) (n := (1 + a % 3).toNat) (m := wsN o) (M := wsM o) (by omega) hM h
 rw [show 2 * (1 + a % 3).toNat = (2 * (1 + a % 3)).toNat by omega] at tw
 have rv := mot_rev (A := qP l) (p := cfL (qP l).lk m (qP l).n) (q := cfL (qP l).lk k (qP l).n) (by rw [lp, lp]) (1 + a % 3).toNat (wsN o) (wsM o)
 obtain ⟨r, h, hr⟩ : ∃ r : PV, (evF prog (OC0 l o (qP l) (fun m => cfL (qP l).lk m (qP l).n) (wsV o) (fun p q n => motB (qP l) p q n.toNat (wsN o) (wsM o)) []) [] {} f6 [.w l, .w m, .w k, .w o, .i .i64 a] [] ql).run = some (.ret r []) /\ RLe r (.bl true) := by
  cases hB : motB (qP l) (cfL (qP l).lk m (qP l).n) (cfL (qP l).lk k (qP l).n) (1 + a % 3).toNat (wsN o) (wsM o) with
  | false =>
   refine ⟨.bl true, (eCK _ _ _ _ _ _ _ _ _).trans (trC0_run hm hk ?_), .refl _⟩
   rw [tkz_eq, tkz_eq, k5 (by simp only [ovf, kA, kD]; omega), k5 (decP_iff.2 ⟨rfl, rfl, lp m, lp k, by omega, by omega⟩), k5 (decP_iff.2 ⟨rfl, rfl, lp k, lp m, by omega, by omega⟩), k5 (by simp only [ovf, kA, kD]; omega), k5 (decP_iff.2 ⟨rfl, rfl, lp m, lp k, by omega, by omega⟩),
    rv, k5 (by simp), k5 (by rw [hB]; rfl), k7]
  | true =>
   refine ⟨.b true, (eCK _ _ _ _ _ _ _ _ _).trans (trC0_run hm hk ?_), rle_b rfl⟩
   rw [tkz_eq, tkz_eq, k5 (by simp only [ovf, kA, kD]; omega), k5 (decP_iff.2 ⟨rfl, rfl, lp m, lp k, by omega, by omega⟩), k5 (decP_iff.2 ⟨rfl, rfl, lp k, lp m, by omega, by omega⟩), k5 (by simp only [ovf, kA, kD]; omega), k5 (decP_iff.2 ⟨rfl, rfl, lp m, lp k, by omega, by omega⟩),
    rv, k5 (by simp), k6 (by rw [hB]; rfl), k7, tw hB]
 exact (qj hG oc mix enCK (hs := []) (L := []) (pol := {}) (k9 (by kernel_rfl)) h).le hr (.refl _)
end
section
open Go
theorem calls_of_does {P : Program} {g : Nat} {fn : Func} {c : Code} (hg : Enters P g fn c) {vs : Array Value} {w : World} {R : Value -> World -> Prop} (h : Does P g vs w R) : Calls P g vs w fun e w' => ∃ v, e = .returned v /\ R v w' := by
 have h1 := h { dst := some 0, op := .move (.const undef), type := 0, pos := "", after := #[], guard := none } ⟨#[undef], []⟩ (fun a w' => ∃ v, a.tmps[0]? = some v /\ R v w') (fun _ _ _ => False) (fun v w' hv => ⟨v, by simp [Act.put], hv⟩)
 have : (callFunc g vs).run P w = .ok (.enter g vs) w := by
  have hname : fn.name ≠ "runtime.NumGoroutine" := by simpa using hg.name
  simp [callFunc, hg.at_, hname, hg.body]
 rw [this, Oper.upon_enter] at h1
 refine h1.mono fun e w' he => ?_
 cases e with
 | returned v =>
  obtain ⟨v', hv, hr⟩ := he
  simp [Act.put] at hv
  subst hv
  exact ⟨v, rfl, hr⟩
 | panicked chain => exact absurd he (by simp)
 | outgrown => exact absurd he (by simp [LetsOut])
theorem HRel.none (w : World) : HRel w (fun _ => False) qO (hget (([] : List Blk).map some)) :=
 ⟨fun b k h => by simp [hget] at h, fun b k a z h => by simp [hget] at h, fun b b' k k' a z z' h => by simp [hget] at h, fun a h => h.elim⟩
theorem keptBut_of_old {w w' : World} (h1 : w'.os = w.os) (h2 : w'.output = w.output) (h3 : ∀ n, n < w.heap.size -> w'.heap[n]? = w.heap[n]?) (may : MemPlace -> Prop) : w.keptBut w' may := by
 refine ⟨h1, h2, fun i hi => ?_⟩
 rw [h3 i hi]
 split
 ·rename_i e1 e2
  rw [e1] at e2
  cases e2
  exact ⟨rfl, rfl, rfl, fun _ _ => rfl⟩
 ·rename_i e1 e2
  rw [e1] at e2
  cases e2
  exact .inr ⟨rfl, rfl⟩
 ·rfl
end
section
open Go Go.ChangeShapes Go.WideShapes
set_option maxRecDepth 100000
def blkOf : Value -> Nat -> Prop
 | .slice (some a) _ _, b => b = a.block
 | _, _ => False
section
variable {H : Type} {enc : TypeId × Value -> H} {P : Program} {w : World} {t e : TypeId} {base : Nat} {v : Value} {d : DataW H} {p : List MemPlace}
theorem arg_ints (ht : P.underlying t = some (.slice e)) (he : P.underlying e = some (.int .i64)) (hc : P.cellsOf e = 1)
  (hval : Value.okWide P w .any base t v) (h : DataW.Trod enc P w 0 (fun _ => true) true t v d p) :
  ∃ u : PV, okW u = true /\ (∀ n ∈ intsW u, -9223372036854775808 <= n /\ n <= 9223372036854775807) /\ (∀ b, blkOf v b -> b < w.heap.size) /\ (∀ S : Nat -> Prop, (∀ b, blkOf v b -> S b) -> RepV w S qO (.w u) v) /\
   (∀ w' : World, (∀ n, n < w.heap.size -> w'.heap[n]? = w.heap[n]?) -> ∃ p', DataW.Trod enc P w' 0 (fun b => decide (b < w.heap.size)) true t v d p') /\
   ((intsW u = [] /\ d = .nil) \/ ∃ sp, d = .slice (lits .i64 (intsW u)) sp) := by
 have hval' := hval
 obtain ⟨a0, len, cap, rfl⟩ := okWide_slice ht hval
 obtain ⟨fuel, hf⟩ := h
 rcases open_ints ht he hc hf with ⟨hcs, hx⟩ | ⟨a, len', cap', zs, hcs, _, hl, hm, hz, hx, hcell, hwz⟩
 ·simp [Value.cells] at hcs
  obtain ⟨rfl, rfl, rfl⟩ := hcs
  simp only [Prod.mk.injEq] at hx
  obtain ⟨rfl, rfl⟩ := hx
  refine ⟨.nil, rfl, fun n hn => (nomatch hn), fun b hb => hb.elim, fun S _ => .cell _ _ _ rfl (.w _ _ _ (.nil _)), fun w' _ => ⟨[], RowKit.shut_slice_nil ht⟩, .inl ⟨rfl, rfl⟩⟩
 ·simp [Value.cells] at hcs
  obtain ⟨rfl, rfl, rfl⟩ := hcs
  simp only [Prod.mk.injEq] at hx
  obtain ⟨rfl, rfl⟩ := hx
  simp only [if_true] at hz
  unfold Value.okWide at hval'
  rw [ht] at hval'
  simp only [Cell.okWide, Cell.ok, ht] at hval'
  obtain ⟨_, _, _, hsp, row, cells, hsh, _⟩ := hval'
  obtain ⟨b, off, spot⟩ := a
  simp only at hsp
  subst hsp
  have hb : b < w.heap.size := by
   unfold World.shape? at hsh
   split at hsh
   ·rename_i hh; exact (Array.getElem?_eq_some_iff.1 hh).1
   ·cases hsh
  have hcell' : ∀ j, j < zs.length -> w.cell? ⟨b, off + j, none⟩ = some (.int .i64 (zs.getD j 0)) := fun j hj => by rw [<- add_plain]; exact hcell j hj
  have hlen : (zs.take len).length = len := by rw [List.length_take]; omega
  refine ⟨.lst 1 (.ints .i64 (zs.take len)), rfl, fun n hn => bounds_i64 (hwz n (List.mem_of_mem_take hn)), fun c hc => (by rw [show c = b from hc]; exact hb), fun S hS => ?_, fun w' hw' => ?_, .inr ⟨_, rfl⟩⟩
  ·refine .cell _ _ _ rfl (.w _ _ _ ?_)
   have := RepC.lst (w := w) (S := S) qO 1 (.ints .i64 (zs.take len)) b off cap (fun j => [.int .i64 ((zs.take len).getD j 0)]) (by show (zs.take len).length <= cap; omega) (hS b rfl)
    (fun i hi => .i _ _ _) (fun _ _ => rfl) (fun i j hi hj => by
     have hi' : i < len := by rw [<- hlen]; exact hi
     obtain rfl : j = 0 := by omega
     show w.cell? ⟨b, off + (i * 1 + 0), none⟩ = _
     rw [Nat.mul_one, Nat.add_zero, hcell' i (by omega)]
     simp [List.getD_eq_getElem?_getD, hi'])
   rw [show (Cont.ints .i64 (zs.take len)).len = len from hlen] at this
   exact this
  ·have hd : decide (b < w.heap.size) = true := kE hb
   exact ⟨_, 2, shut_ints' (enc := enc) (w := w') (base := 0) (spare := fun b => decide (b < w.heap.size)) (held := true) (len := len) (cap := cap) (zs := zs) 0 ht he hc
    (Nat.zero_le b) hl hm (by simp only [hd, if_true]; exact hz) (fun i hi => by rw [cell_block (hw' b hb)]; exact hcell' i hi) hwz⟩
end
end
section
open Go
set_option maxRecDepth 100000
theorem calls_trueG {P : Program} {G : World -> (Nat -> Prop) -> Prop} {g : Nat} {fn : Func} {c : Code} (hg : Enters P g fn c) {args : List PV} (h : PC P G g args [] (.bl true) []) {w : World} {S : Nat -> Prop} {vs : List Value} (hw : G w S) (hS : ∀ a, S a -> a < w.heap.size)
  (hv : RepVL w S qO args vs) (may : MemPlace -> Prop) :
  Calls P g vs.toArray w fun e w' => e = .returned (.bool true) /\ w.keptBut w' may /\ ∀ n, n < w.heap.size -> w'.heap[n]? = w.heap[n]? := by
 refine (calls_of_does hg (h w S qO vs hw hv ⟨fun b k h => by simp [hget] at h, fun b k a z h => by simp [hget] at h, fun b b' k k' a z z' h => by simp [hget] at h, hS⟩ (fun _ _ => rfl))).mono fun e w' he => ?_
 obtain ⟨v, rfl, S', μ', c⟩ := he
 have hr := c.rep
 have : v = .bool true := by
  cases hr with
  | cell _ _ _ _ h => cases h; rfl
  | agg _ _ _ hv h => simp [isAgg, unfr, unfrA, unfr1] at hv
 subst this
 have old : ∀ n, n < w.heap.size -> w'.heap[n]? = w.heap[n]? := fun n hn => c.old n hn (fun b z hb => by simp at hb)
 exact ⟨rfl, keptBut_of_old c.os c.output old may, old⟩
def TG (w : World) (S : Nat -> Prop) : Prop := S 1 /\ Go.Proofs.TabAt 1 Go.Lib.deBruijn64tab w
theorem tg_ok : GOk TG := fun _ _ _ _ m h => ⟨m.sub 1 h.1, fun j hj => (m.cell 1 h.1 j).trans (h.2 j hj)⟩
theorem tg_tab : qo TG := fun _ _ h => h.2
theorem tab_block {w : World} (h : Go.Proofs.TabAt 1 Go.Lib.deBruijn64tab w) : 1 < w.heap.size := by
 have h0 := h 0 (by decide)
 rcases Nat.lt_or_ge 1 w.heap.size with h1 | h1
 ·exact h1
 ·unfold World.cell? at h0
  rw [show w.heap[(⟨1, 0, none⟩ : Addr).block]? = none from Array.getElem?_eq_none h1] at h0
  cases h0
theorem tab_of_laid {laid : List (String × DataW Unit)} {W : World} (hl : laid = [("math/bits.deBruijn64tab", Go.Lib.tabData .u8 (Go.Lib.deBruijn64tab.map fun n : Nat => (n : Int)))]) (h : laidMetH Tryz.prog laid W) : Go.Proofs.TabAt 1 Go.Lib.deBruijn64tab W := by
 subst hl
 have h1 : laidMet Tryz.prog [("math/bits.deBruijn64tab", Go.Lib.tabData .u8 (Go.Lib.deBruijn64tab.map fun n : Nat => (n : Int)))] W := h
 have h2 := Go.Lib.tabIs_of_head (g := 1) (t := 269) (e := 5) (n := 64) (by kernel_rfl) (by kernel_rfl) (by kernel_rfl) (by kernel_rfl) (by kernel_rfl) (by kernel_rfl) h1
 intro j hj
 have h3 := h2.cell (g := 1) (by kernel_rfl) j (by rw [List.length_map]; exact hj)
 rw [h3, List.getD_eq_getElem?_getD, List.getD_eq_getElem?_getD, List.getElem?_map, List.getElem?_eq_getElem hj]
 rfl
end
end Go.Proofs.YteggojnjinealaaGreatDoor.PE
