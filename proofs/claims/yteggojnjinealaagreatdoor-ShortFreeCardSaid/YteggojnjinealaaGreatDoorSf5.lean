/-
  Part 5 of the proof: contracts of the program's functions. Conditions: those of the theorems below.
-/
import Derived.Test.YteggojnjinealaaGreatDoorSf4
import Derived.Test.YteggojnjinealaaGreatDoorSf2
import Derived.Test.YteggojnjinealaaGreatDoorSf3
import Derived.RowKit3
import GoSem.ClaimChange
import Derived.ChangeSlices
import Derived.WideShapes
import Derived.OpenShut
import Derived.Lib.LaidTab
set_option linter.all false
noncomputable section
namespace Go.Proofs.YteggojnjinealaaGreatDoor.PE
section
open Go Tryz
set_option maxRecDepth 100000
variable {G:World->(Nat->Prop)->Prop} (hG:GOk G)
theorem enFr:Enters prog 70 f70 (qd f70):=⟨func70,by kernel_rfl,rfl⟩
def bFr:Code:=(qi (qd f70)).getD 0 .skip
def iFr:Code:=(qi (qd f70)).getD 1 .skip
def polFr:Pol:={live:=[(2,[1,4,11,12,13]),(5,[1,4,6,11,12,13,17,18,19])]}
def lsV (n:Nat) (L:Nat->Pg):PV:=.lst 1 (.fn n (fun i=>pgV (L i)))
def siFr (n:Nat) (L:Nat->Pg) (m:Nat) (M:Nat->Pg) (i j:Int):LS:=⟨[lsV m M,.bl false,pgV (L i.toNat),lsV n L,.i .i64 n,.i .i64 i,lsV m M,.i .i64 m,.i .i64 j],[]⟩
def soFr (n:Nat) (L:Nat->Pg) (m:Nat) (M:Nat->Pg) (i:Int):LS:=⟨[lsV m M,.bl false,lsV n L,.i .i64 n,.i .i64 i],[]⟩
def RFr (P Q:Pg) (b mm:Bool) (e:Int):Orc:=[(118,cst [bxV P,bxV Q] True (.bl b)),(119,gBx),(120,cst [pgV P,pgV Q] True (.tup [.bl mm,.i .i64 e]))]
def trF (n:Nat) (L:Nat->Pg) (m:Nat) (M:Nat->Pg) (i j:Int) (P Q:Pg) (res:Tr):Tr:=
 .br (decide (j<(m:Int))) (.br (decide ((0:Int)<=j)&&decide (j<(m:Int))) (.br (qg (isPg (pgV (L i.toNat)))) (.br (qg (isPg (pgV (M j.toNat))))
  (.br (qg (isA [bxV P,bxV Q] True [bxV (L i.toNat),bxV (M j.toNat)])) res (.no 1)) (.no 1)) (.no 1)) (.no 1)) (.ok (.out (.exit 2) (siFr n L m M i j)))
def trM (L:Nat->Pg) (M:Nat->Pg) (i j:Int) (P Q:Pg) (res:Tr):Tr:=.br (qg (isA [pgV P,pgV Q] True [pgV (L i.toNat),pgV (M j.toNat)])) res (.no 1)
theorem tfA (n:Nat) (L:Nat->Pg) (m:Nat) (M:Nat->Pg) (i j:Int) (P Q:Pg) (mm:Bool) (e:Int):(qe prog (RFr P Q false mm e) [] polFr f70.ntmps 0 [1,4,6,11,12,13,17,18,19] iFr (siFr n L m M i j)).run=(trF n L m M i j P Q (.br (ovf (j+1)) (.ok (.out .normal (siFr n L m M i (j+1)))) (.no 1))).run:=by kernel_rfl
theorem tfB (n:Nat) (L:Nat->Pg) (m:Nat) (M:Nat->Pg) (i j:Int) (P Q:Pg) (e:Int):(qe prog (RFr P Q true true e) [] polFr f70.ntmps 0 [1,4,6,11,12,13,17,18,19] iFr (siFr n L m M i j)).run=(trF n L m M i j P Q (trM L M i j P Q (.ok (.out .ret (siFr n L m M i j))))).run:=by kernel_rfl
theorem tfC (n:Nat) (L:Nat->Pg) (m:Nat) (M:Nat->Pg) (i j:Int) (P Q:Pg) (e:Int):(qe prog (RFr P Q true false e) [] polFr f70.ntmps 0 [1,4,6,11,12,13,17,18,19] iFr (siFr n L m M i j)).run=
  (trF n L m M i j P Q (trM L M i j P Q (.br (!decide (e=0)) (.ok (.out .ret (siFr n L m M i j))) (.br (ovf (j+1)) (.ok (.out .normal (siFr n L m M i (j+1)))) (.no 1))))).run:=by kernel_rfl
def trG (n:Nat) (L:Nat->Pg) (m:Nat) (M:Nat->Pg) (i q:Int) (res:Tr):Tr:=
 .br (decide (i<(n:Int))) (.br (decide ((0:Int)<=i)&&decide (i<(n:Int))) (.br (qg (isLS (siFr n L m M q 0) (siFr n L m M i 0))) res (.no 1)) (.no 1)) (.ok (.out (.exit 0) (soFr n L m M i)))
theorem toFt (n:Nat) (L:Nat->Pg) (m:Nat) (M:Nat->Pg) (i q:Int):(qe prog [] [(5,qy (siFr n L m M q 0) (.exit 2) (siFr n L m M q m))] polFr f70.ntmps 0 [1,4,11,12,13] bFr (soFr n L m M i)).run=
  (trG n L m M i q (.br (ovf (q+1)) (.ok (.out .normal (soFr n L m M (q+1)))) (.no 1))).run:=by kernel_rfl
theorem toFb (n:Nat) (L:Nat->Pg) (m:Nat) (M:Nat->Pg) (i q k:Int):(qe prog [] [(5,qy (siFr n L m M q 0) .ret (siFr n L m M q k))] polFr f70.ntmps 0 [1,4,11,12,13] bFr (soFr n L m M i)).run=
  (trG n L m M i q (.ok (.out .ret (soFr n L m M q)))).run:=by kernel_rfl
theorem eFrT (n:Nat) (L:Nat->Pg) (m:Nat) (M:Nat->Pg):(evF prog [] [(2,qy (soFr n L m M 0) (.exit 0) (soFr n L m M n))] polFr f70 [lsV n L,lsV m M] [] ql).run=(Tr.br (qg (isLS (soFr n L m M 0) (soFr n L m M 0))) (.ok (.ret (.bl true) [])) (.no 1)).run:=by kernel_rfl
theorem eFrF (n:Nat) (L:Nat->Pg) (m:Nat) (M:Nat->Pg) (q:Int):(evF prog [] [(2,qy (soFr n L m M 0) .ret (soFr n L m M q))] polFr f70 [lsV n L,lsV m M] [] ql).run=(Tr.br (qg (isLS (soFr n L m M 0) (soFr n L m M 0))) (.ok (.ret (.bl false) [])) (.no 1)).run:=by kernel_rfl
def frB (P Q:Pg):Bool:=!bxB P Q||(decide (mtE P Q=0) && !mtB P Q)
def frI (L:Nat->Pg) (m:Nat) (M:Nat->Pg) (i:Nat):Bool:=(List.range m).all fun j=>frB (L i) (M j)
def freeB (n:Nat) (L:Nat->Pg) (m:Nat) (M:Nat->Pg):Bool:=(List.range n).all (frI L m M)
include hG in
theorem orcFr (hT:qp G) (P Q:Pg) (hp:okP P) (hq:okP Q):OrcOK prog G (RFr P Q (bxB P Q) (mtB P Q) (mtE P Q)):=.cons (qS (pcAb hG hT P Q)) (.cons (gkBx hG hT) (.cons (qS (pcMt hG hT P Q hp hq)) .nil))
include hG in
theorem goesFi (hT:qp G) (n:Nat) (L:Nat->Pg) (m:Nat) (M:Nat->Pg) (hm:m<=100) (i:Nat) (hp:okP (L i)) (hq:∀ j,j<m->okP (M j)):
  (frI L m M i=true->Goes (Rnd prog G f70.ntmps 0 [1,4,6,11,12,13,17,18,19] iFr) (siFr n L m M i 0) (.exit 2) (siFr n L m M i m))/\(frI L m M i=false->∃ k:Int,Goes (Rnd prog G f70.ntmps 0 [1,4,6,11,12,13,17,18,19] iFr) (siFr n L m M i 0) .ret (siFr n L m M i k)):=by
 have pre:∀ (j:Nat) (res:Tr) (r:Res),j<m->res.run=some r->(trF n L m M i j (L i) (M j) res).run=some r:=fun j res r hj h=>by
  unfold trF
  rw[Int.toNat_natCast,Int.toNat_natCast,k5 (kF (by omega)),k5 (by simp only[kD,kE];omega),k5 (decP_iff.2 ⟨_,rfl,hp⟩),k5 (decP_iff.2 ⟨_,rfl,hq j hj⟩),k5 (decP_iff.2 ⟨rfl,trivial⟩)]
  exact h
 have prm:∀ (j:Nat) (res:Tr) (r:Res),res.run=some r->(trM L M i j (L i) (M j) res).run=some r:=fun j res r h=>by
  unfold trM
  rw[Int.toNat_natCast,Int.toNat_natCast,k5 (decP_iff.2 ⟨rfl,trivial⟩)]
  exact h
 have nx:∀ (j:Nat),j<m->(Tr.br (ovf ((j:Int)+1)) (.ok (.out .normal (siFr n L m M i ((j:Int)+1)))) (.no 1)).run=some (.out .normal (siFr n L m M i ((j+1:Nat):Int))):=fun j hj=>by
  rw[k5 (by simp only[ovf,kD,kE];omega),k7]
  rfl
 have rd:∀ (j:Nat) (e:Exit) (ls:LS),j<m->(qe prog (RFr (L i) (M j) (bxB (L i) (M j)) (mtB (L i) (M j)) (mtE (L i) (M j))) [] polFr f70.ntmps 0 [1,4,6,11,12,13,17,18,19] iFr (siFr n L m M i j)).run=some (.out e ls)->
   Rnd prog G f70.ntmps 0 [1,4,6,11,12,13,17,18,19] iFr (siFr n L m M i j) e ls:=fun j e ls hj h=>
  qb hG (orcFr hG hT (L i) (M j) hp (hq j hj)) mix (L:=[]) (pol:=polFr) (kA (by kernel_rfl)) (Nat.zero_le _) h
 have ho:OrcOK prog G []:=.nil
 obtain⟨w1,w2⟩:=Goes.search (R:=Rnd prog G f70.ntmps 0 [1,4,6,11,12,13,17,18,19] iFr) (fun j=>siFr n L m M i ((j:Nat):Int)) (fun j=>siFr n L m M i ((j:Nat):Int)) (fun j=>frB (L i) (M j)) m (e0:=.exit 2) (e1:=.ret) (fin:=siFr n L m M i m) (by simp) (by simp)
  (fun j hj ok=>by
   refine rd j _ _ hj ?_
   unfold frB at ok
   cases h1:bxB (L i) (M j)with
   | false=>exact(tfA n L m M i j _ _ _ _).trans (pre j _ _ hj (nx j hj))
   | true=>
    rw[h1]at ok
    simp only[Bool.not_true,Bool.false_or,kD,kE,kK]at ok
    rw[ok.2]
    refine(tfC n L m M i j _ _ _).trans (pre j _ _ hj (prm j _ _ ?_))
    rw[k6 (by simp[ok.1])]
    exact nx j hj)
  (fun j hj ok=>by
   refine rd j _ _ hj ?_
   unfold frB at ok
   cases h1:bxB (L i) (M j)with
   | false=>rw[h1]at ok;cases ok
   | true=>
    rw[h1]at ok
    cases h2:mtB (L i) (M j)with
    | true=>exact(tfB n L m M i j _ _ _).trans (pre j _ _ hj (prm j _ _ rfl))
    | false=>
     rw[h2]at ok
     refine(tfC n L m M i j _ _ _).trans (pre j _ _ hj (prm j _ _ ?_))
     rw[k5 (by simpa using ok),k7])
  (by
   refine qb hG (O:=RFr (L i) (L i) (bxB (L i) (L i)) (mtB (L i) (L i)) (mtE (L i) (L i))) (orcFr hG hT (L i) (L i) hp hp) mix (L:=[]) (pol:=polFr) (kA (by kernel_rfl)) (Nat.zero_le _) ?_
   have ex:∀ res,(trF n L m M i m (L i) (L i) res).run=some (.out (.exit 2) (siFr n L m M i m)):=fun res=>by
    unfold trF
    rw[k6 (kG (by omega)),k7]
   cases h1:bxB (L i) (L i)with
   | false=>exact(tfA n L m M i m _ _ _ _).trans (ex _)
   | true=>
    cases h2:mtB (L i) (L i)with
    | true=>exact(tfB n L m M i m _ _ _).trans (ex _)
    | false=>exact(tfC n L m M i m _ _ _).trans (ex _)) m 0 (by omega)
 refine⟨fun h=>w1 (all_r.1 h),fun h=>⟨_,w2 fun h' => ?_⟩⟩
 have:=all_r.2 h'
 rw[frI,this]at h
 cases h
include hG in
theorem pcFr (hT:qp G) (n:Nat) (L:Nat->Pg) (m:Nat) (M:Nat->Pg) (h1:1<=n) (hn:n<=100) (hm:m<=100) (hp:∀ i,i<n->okP (L i)) (hq:∀ j,j<m->okP (M j)):PC prog G 70 [lsV n L,lsV m M] [] (.bl (freeB n L m M)) []:=by
 have gi:=fun i hi=>goesFi hG hT n L m M hm i (hp i hi) hq
 have rd:∀ (i:Int) (e:Exit) (ls S0 S1:LS) (e':Exit),Goes (Rnd prog G f70.ntmps 0 [1,4,6,11,12,13,17,18,19] iFr) S0 e' S1->(qe prog [] [(5,qy S0 e' S1)] polFr f70.ntmps 0 [1,4,11,12,13] bFr (soFr n L m M i)).run=some (.out e ls)->
   Rnd prog G f70.ntmps 0 [1,4,11,12,13] bFr (soFr n L m M i) e ls:=fun i e ls S0 S1 e' g h=>
  qb hG .nil mix (pol:=polFr) (qN (b:=iFr) (live:=[1,4,6,11,12,13,17,18,19]) (m:=0) (by kernel_rfl) (by kernel_rfl) (by kernel_rfl) (qv g)) (Nat.zero_le _) h
 have hl:∀ (lQ:qA),qz prog G f70.ntmps 0 [1,4,11,12,13] bFr lQ->LpsOK prog G polFr f70.ntmps 0 [(2,lQ)] (qd f70):=fun lQ h=>
  lps1n (b:=bFr) (b':=iFr) (live:=[1,4,11,12,13]) (m:=0) (by kernel_rfl) (by kernel_rfl) (by kernel_rfl) (by kernel_rfl) h
 have step:∀ (i:Nat) (res:Tr) (r:Res),i<n->res.run=some r->(trG n L m M i i res).run=some r:=fun i res r hi h=>by
  unfold trG
  rw[k5 (kF (by omega)),k5 (by simp only[kD,kE];omega),k5 qK]
  exact h
 have ext:∀ (q:Int) (res:Tr),(trG n L m M n q res).run=some (.out (.exit 0) (soFr n L m M n)):=fun q res=>by
  unfold trG
  rw[k6 (kG (by omega)),k7]
 have hx:Rnd prog G f70.ntmps 0 [1,4,11,12,13] bFr (soFr n L m M n) (.exit 0) (soFr n L m M n):=by
  cases hB:frI L m M 0 with
  | true=>exact rd n _ _ _ _ _ ((gi 0 (by omega)).1 hB) ((toFt n L m M n _).trans (ext _ _))
  | false=>
   obtain⟨k,g⟩:=(gi 0 (by omega)).2 hB
   exact rd n _ _ _ _ _ g ((toFb n L m M n _ k).trans (ext _ _))
 obtain⟨w1,w2⟩:=Goes.search (R:=Rnd prog G f70.ntmps 0 [1,4,11,12,13] bFr) (fun i=>soFr n L m M ((i:Nat):Int)) (fun i=>soFr n L m M ((i:Nat):Int)) (frI L m M) n (e0:=.exit 0) (e1:=.ret) (fin:=soFr n L m M n) (by simp) (by simp)
  (fun i hi ok=>by
   refine rd i _ _ _ _ _ ((gi i hi).1 ok) ((toFt n L m M i i).trans (step i _ _ hi ?_))
   rw[k5 (by simp only[ovf,kD,kE];omega),k7]
   rfl)
  (fun i hi ok=>by
   obtain⟨k,g⟩:=(gi i hi).2 ok
   exact rd i _ _ _ _ _ g ((toFb n L m M i i k).trans (step i _ _ hi rfl)))
  hx n 0 (by omega)
 cases hB:freeB n L m M with
 | true=>
  have g:Goes (Rnd prog G f70.ntmps 0 [1,4,11,12,13] bFr) (soFr n L m M 0) (.exit 0) (soFr n L m M n):=w1 (all_r.1 hB)
  refine qj hG .nil mix enFr (hs:=[]) (pol:=polFr) (L:=[(2,qy (soFr n L m M 0) (.exit 0) (soFr n L m M n))]) (hl _ (qv g)) ((eFrT n L m M).trans ?_)
  rw[k5 qK,k7]
 | false=>
  have hn':¬ ∀ j,0<=j->j<n->frI L m M j=true:=fun h=>by
   have:=all_r.2 h
   rw[freeB,this]at hB
   cases hB
  have g:Goes (Rnd prog G f70.ntmps 0 [1,4,11,12,13] bFr) (soFr n L m M 0) .ret (soFr n L m M ((fbad (frI L m M) n 0:Nat):Int)):=w2 hn'
  generalize ((fbad (frI L m M) n 0:Nat):Int)=q at g
  refine qj hG .nil mix enFr (hs:=[]) (pol:=polFr) (L:=[(2,qy (soFr n L m M 0) .ret (soFr n L m M q))]) (hl _ (qv g)) ((eFrF n L m M q).trans ?_)
  rw[k5 qK,k7]
end
section
open Go
set_option maxRecDepth 100000
variable {G:World->(Nat->Prop)->Prop} (hG:GOk G)
def Asam (l:List Int):Am:=⟨⟨#[111,110,101]⟩,mkRat 0 1,mkRat 0 1,mkRat 0 1,l.length,fun j=>smL (l.getD j 0)⟩
include hG in
theorem sam_ok (l:List Int) (h:(evF Tryz.prog O32 [(3,l32)] pol32 Tryz.f64 [.lst 1 (.ints .i64 l)] [] ql).run=some (.ret (frA ⟨#[111,110,101]⟩ (mkRat 0 1) (mkRat 0 1) (mkRat 0 1) (.fr 16 (.vals (l.map smV)))) [])):PC Tryz.prog G 64 [.lst 1 (.ints .i64 l)] [] (armFr (Asam l)) []:=by
 refine(qj hG (.cons (ok23 hG) (.cons (ok84 hG) .nil)) mix enter32 (O:=O32) (L:=[(3,l32)]) (pol:=pol32) (qN (b:=b32) (live:=[2,3,11,12,13]) (sp:=l32) (m:=0) (by kernel_rfl) (by kernel_rfl) (by kernel_rfl) (unr_ok hG (.cons (ok23 hG) (.cons (ok84 hG) .nil)) mix (kA (by kernel_rfl)) 3)) h).le ?_ (.refl _)
 refine rle_arm _ _ _ _ _ _ _ (by rw[List.length_map];rfl) fun i u hu => ?_
 rw[List.getElem?_map]at hu
 cases hx:l[i]? with
 | none=>rw[hx]at hu;cases hu
 | some x=>
  rw[hx]at hu
  obtain rfl:=Option.some.inj hu
  refine⟨rfl,?_⟩
  show VLe _ (lkPV (smL (l.getD i 0)))
  rw[List.getD_eq_getElem?_getD,hx]
  exact smV_le x
include hG in
theorem sam3:PC Tryz.prog G 64 [.lst 1 (.ints .i64 [3])] [] (armFr (Asam [3])) []:=sam_ok hG [3] (by kernel_rfl)
theorem armB_3:armB (Asam [3])=true:=by kernel_rfl
end
section
open Go Tryz
set_option maxRecDepth 100000
variable {G:World->(Nat->Prop)->Prop} (hG:GOk G)
theorem enWk:Enters prog 69 f69 (qd f69):=⟨func69,by kernel_rfl,rfl⟩
theorem enWl:Enters prog 29 f29 (qd f29):=⟨func29,by kernel_rfl,rfl⟩
theorem enCl:Enters prog 26 f26 (qd f26):=⟨func26,by kernel_rfl,rfl⟩
def gCh:Spec:=fun args hs K=>match args,hs with
 | [p],[]=>.br (qg (isPg p)) (K (.i .i64 (pkE (dPg p))) []) (.no 1)
 | _,_=>.no 1
def bWk:Code:=(qi (qd f69)).getD 0 .skip
def polWk:Pol:={live:=[(4,[2,9,10,11])]}
def stWk (m:Nat) (M:Nat->Pg) (e j:Int):LS:=⟨[.i .i64 e,lsV m M,.i .i64 m,.i .i64 j],[]⟩
theorem tWk (m:Nat) (M:Nat->Pg) (j:Int):(qe prog [(117,gCh)] [] polWk f69.ntmps 0 [2,9,10,11] bWk (stWk m M 0 j)).run=
  (Tr.br (decide (j<(m:Int))) (.br (ix (j) ((m:Int))) (.br (qg (isPg (pgV (M j.toNat)))) (.br (!decide (pkE (M j.toNat)=0)) (.ok (.out .ret (stWk m M (pkE (M j.toNat)) j))) (.br (ovf (j+1)) (.ok (.out .normal (stWk m M 0 (j+1)))) (.no 1))) (.no 1)) (.no 1)) (.ok (.out (.exit 0) (stWk m M 0 j)))).run:=by kernel_rfl
theorem eWkT (m:Nat) (M:Nat->Pg):(evF prog [(117,gCh)] [(4,qy (stWk m M 0 0) (.exit 0) (stWk m M 0 m))] polWk f69 [lsV m M] [] ql).run=
  (Tr.br (decide (20<(m:Int))) (.ok (.ret (.i .i64 2) [])) (.br (qg (isLS (stWk m M 0 0) (stWk m M 0 0))) (.ok (.ret (.i .i64 0) [])) (.no 1))).run:=by kernel_rfl
def plG (A:Am) (q:List Rat) (i:Nat):Pg:=
 ⟨(A.lk i).np,fun k=>ptX (allF (bsF A) (qf q) (fun j=>(A.lk j).len) A.n i) ((A.lk i).px k) ((A.lk i).py k),fun k=>ptY (allF (bsF A) (qf q) (fun j=>(A.lk j).len) A.n i) ((A.lk i).px k) ((A.lk i).py k)⟩
theorem eWl (A:Am) (q:List Rat) (n:Nat) (L:Nat->Pg) (m:Nat) (M:Nat->Pg) (f:Bool):(evF prog [(68,cst [qm A,.lst 3 (.rats 64 q)] True (.tup [.fr 1 (.fn n (fun i=>pgV (L i))),.i .i64 0])),(70,cst [lsV n L,lsV m M] True (.bl f)),(69,cst [lsV m M] True (.i .i64 0))] [] {} f29 [qm A,.lst 3 (.rats 64 q),lsV m M] [] ql).run=
  (Tr.br (qg (isA [qm A,.lst 3 (.rats 64 q)] True [qm A,.lst 3 (.rats 64 q)])) (.br ((0+n).ble n) (.br (qg (isA [lsV m M] True [lsV m M])) (.br (qg (isA [lsV n L,lsV m M] True [lsV n L,lsV m M])) (.ok (.ret (.tup [.bl f,.i .i64 0]) [])) (.no 1)) (.no 1)) (.no 1)) (.no 1)).run:=by kernel_rfl
include hG in
theorem gkCh (hT:qp G):qc prog G 117 gCh:=by
 intro args hs K x h
 unfold gCh at h
 split at h
 case h_2=>cases h
 obtain⟨hc,hr⟩:=k8 h
 obtain⟨P,rfl,h3,h8⟩:=decP_iff.1 hc
 exact⟨_,_,pcCh hG hT P h3 h8,hr⟩
include hG in
theorem pcWk (hT:qp G) (m:Nat) (M:Nat->Pg) (hm:m<=20) (hq:∀ j,j<m->okP (M j)/\pkE (M j)=0):PC prog G 69 [lsV m M] [] (.i .i64 0) []:=by
 have orc:OrcOK prog G [(117,gCh)]:=.cons (gkCh hG hT) .nil
 have w:=Goes.count (R:=Rnd prog G f69.ntmps 0 [2,9,10,11] bWk) (fun j=>stWk m M 0 ((j:Nat):Int)) (e:=.exit 0) (ls':=stWk m M 0 m) (by simp) m 0
  (fun j _ hj=>by
   obtain⟨h1,h2⟩:=hq j (by omega)
   refine qb hG orc mix (L:=[]) (pol:=polWk) (kA (by kernel_rfl)) (Nat.zero_le _) ((tWk m M j).trans ?_)
   rw[Int.toNat_natCast,k5 (kF (by omega)),k5 (by simp only[kD,kE];omega),k5 (decP_iff.2 ⟨_,rfl,h1⟩),k6 (by simp[h2]),k5 (by simp only[ovf,kD,kE];omega),k7]
   rfl)
  (by
   refine qb hG orc mix (L:=[]) (pol:=polWk) (kA (by kernel_rfl)) (Nat.zero_le _) ((tWk m M _).trans ?_)
   rw[Nat.zero_add,k6 (kG (by omega)),k7])
 have g:Goes (Rnd prog G f69.ntmps 0 [2,9,10,11] bWk) (stWk m M 0 0) (.exit 0) (stWk m M 0 m):=w
 refine qj hG orc mix enWk (hs:=[]) (pol:=polWk) (L:=[(4,qy (stWk m M 0 0) (.exit 0) (stWk m M 0 m))]) (qN (b:=bWk) (live:=[2,9,10,11]) (m:=0) (by kernel_rfl) (by kernel_rfl) (by kernel_rfl) (qv g)) ((eWkT m M).trans ?_)
 rw[k6 (kG (by omega)),k5 qK,k7]
theorem plG_ok {A:Am} (hS:shp A) {q:List Rat} {i:Nat} (hi:i<A.n):okP (plG A q i):=by
 have:=hS i hi
 show 3<=(A.lk i).np/\(A.lk i).np<=8
 omega
include hG in
theorem pcWl (hT:qp G) (A:Am) (hA:armB A=true) (hS:shp A) (q:List Rat) (hl:q.length=A.n) (m:Nat) (M:Nat->Pg) (hm:m<=20) (hq:∀ j,j<m->okP (M j)/\pkE (M j)=0):
  PC prog G 29 [qm A,.lst 3 (.rats 64 q),lsV m M] [] (.tup [.bl (freeB A.n (plG A q) m M),.i .i64 0]) []:=by
 obtain⟨a1,a2,a3,a4,h1,h3,a7⟩:=armB_c hA
 have p33:PC prog G 68 [qm A,.lst 3 (.rats 64 q)] [] (.tup [.fr 1 (.fn A.n (fun i=>pgV (plG A q i))),.i .i64 0]) []:=pcPl hG hT A hA hS q hl
 have p71:=pcFr hG hT A.n (plG A q) m M h1 (by omega) (by omega) (fun i hi=>plG_ok hS hi) (fun j hj=>(hq j hj).1)
 refine qj hG (.cons (qS p33) (.cons (qS p71) (.cons (qS (pcWk hG hT m M hm hq)) .nil))) mix enWl (hs:=[]) (L:=[]) (pol:={}) (kA (by kernel_rfl)) ((eWl A q A.n (plG A q) m M _).trans ?_)
 rw[k5 (decP_iff.2 ⟨rfl,trivial⟩),k5 (by rw[kH];omega),k5 (decP_iff.2 ⟨rfl,trivial⟩),k5 (decP_iff.2 ⟨rfl,trivial⟩),k7]
def wlV:PV:=.lst 1 (.vals [.lst 6 (.vals [.agg [.q (mkRat 2 1) 64,.q (mkRat 0 1) 64],.agg [.q (mkRat 4 1) 64,.q (mkRat 0 1) 64],.agg [.q (mkRat 4 1) 64,.q (mkRat 1 1) 64]])])
def wlP:Pg:=⟨3,fun j=>[mkRat 2 1,mkRat 4 1,mkRat 4 1].getD j 0,fun j=>[mkRat 0 1,mkRat 0 1,mkRat 1 1].getD j 0⟩
theorem wl_le:VLe wlV (lsV 1 (fun _=>wlP)):=by
 refine VLe.lst rfl fun i hi => ?_
 have hi':i<1:=hi
 match i,hi' with
 | 0,_=>
  refine VLe.lst rfl fun i hi => ?_
  have hi':i<3:=hi
  match i,hi' with
  | 0,_=>exact VLe.agg (qM (qH (show 64<=32138 by omega)) (qM (qH (show 64<=32138 by omega)) vll0))
  | 1,_=>exact VLe.agg (qM (qH (show 64<=32138 by omega)) (qM (qH (show 64<=32138 by omega)) vll0))
  | 2,_=>exact VLe.agg (qM (qH (show 64<=32138 by omega)) (qM (qH (show 64<=32138 by omega)) vll0))
  | i+3,h=>omega
 | i+1,h=>omega
def fq (q:Rat):Fr:=allF (bsF (Asam [3])) (qf [q]) (fun j=>((Asam [3]).lk j).len) (Asam [3]).n 0
def pgS (c s:Rat):Pg:=⟨4,fun k=>0+(((Asam [3]).lk 0).px k*c-((Asam [3]).lk 0).py k*s),fun k=>0+(((Asam [3]).lk 0).px k*s+((Asam [3]).lk 0).py k*c)⟩
theorem plG_s {q c s:Rat} (h1:(fq q).x=0) (h2:(fq q).y=0) (h3:qQ (fq q).h (fq q).t=c) (h4:qB (fq q).h (fq q).t=s):plG (Asam [3]) [q] 0=pgS c s:=by
 show(⟨4,fun k=>ptX (fq q) (((Asam [3]).lk 0).px k) (((Asam [3]).lk 0).py k),fun k=>ptY (fq q) (((Asam [3]).lk 0).px k) (((Asam [3]).lk 0).py k)⟩:Pg)=_
 simp only[ptX,ptY,h1,h2,h3,h4]
 rfl
theorem pg0:plG (Asam [3]) [0] 0=pgS 1 0:=by
 refine plG_s ?_ ?_ ?_ ?_<;>simp only[fq,allF,frmF,endR,fstep,thH,thT,qQ,qB,ftT,qh]<;>kernel_rfl
theorem pg2:plG (Asam [3]) [2] 0=pgS (-3/5) (4/5):=by
 refine plG_s ?_ ?_ ?_ ?_<;>simp only[fq,allF,frmF,endR,fstep,thH,thT,qQ,qB,ftT,qh]<;>kernel_rfl
theorem free_1 (L M:Nat->Pg):freeB 1 L 1 M=frB (L 0) (M 0):=by simp[freeB,frI,List.range_succ]
theorem fr0:freeB 1 (plG (Asam [3]) [0]) 1 (fun _=>wlP)=false:=by
 rw[free_1,pg0]
 kernel_rfl
theorem fr2:freeB 1 (plG (Asam [3]) [2]) 1 (fun _=>wlP)=true:=by
 rw[free_1,pg2]
 kernel_rfl
theorem wlK:pkE wlP=0:=by kernel_rfl
def isWl (a w:PV) (q:Rat):Prop:=a=qm (Asam [3])/\w=wlV/\(q=0\/q=2)
def vWl:Spec:=fun args hs K=>match args,hs with
 | [a,.lst 3 (.rats 64 [q]),w],[]=>.br (qg (isWl a w q)) (match decide (q=2)with|true=>K (.tup [.bl true,.i .i64 0]) []|false=>K (.tup [.bl false,.i .i64 0]) []) (.no 1)
 | _,_=>.no 1
include hG in
theorem vkWl (hT:qp G):qc prog G 29 vWl:=by
 intro args hs K x h
 unfold vWl at h
 split at h
 case h_2=>cases h
 obtain⟨hc,hr⟩:=k8 h
 obtain⟨rfl,rfl,hq⟩:=decP_iff.1 hc
 have p:=fun(q:Rat)=>PC.args (.cons (.refl _) (.cons (.refl _) (.cons wl_le .nil))) (pcWl hG hT (Asam [3]) armB_3 (fun _ _=>.inr rfl) [q] rfl 1 (fun _=>wlP) (by omega) (fun _ _=>⟨⟨by decide,by decide⟩,wlK⟩))
 rcases hq with rfl|rfl
 ·have p0:=p 0
  rw[show(Asam [3]).n=1 from rfl,fr0]at p0
  exact⟨_,_,p0,hr⟩
 ·have p2:=p 2
  rw[show(Asam [3]).n=1 from rfl,fr2]at p2
  exact⟨_,_,p2,hr⟩
theorem eCl:(evF prog [(64,cst [.lst 1 (.ints .i64 [3])] True (armFr (Asam [3]))),(65,s23),(63,s84),(29,vWl)] [] {} f26 [] [] ql).run=
  (Tr.br (qg (isA [.lst 1 (.ints .i64 [3])] True [.lst 1 (.ints .i64 [3])])) (.br (qg (isWl (qm (Asam [3])) wlV (mkRat 0 1))) (.br (qg (isA [.lst 1 (.ints .i64 [3])] True [.lst 1 (.ints .i64 [3])])) (.br (qg (isWl (qm (Asam [3])) wlV (mkRat 2 1))) (.ok (.ret (.bl true) [])) (.no 1)) (.no 1)) (.no 1)) (.no 1)).run:=by kernel_rfl
include hG in
theorem pcCl (hT:qp G):PC prog G 26 [] [] (.bl true) []:=by
 refine qj hG (.cons (qS (sam3 hG)) (.cons (ok23 hG) (.cons (ok84 hG) (.cons (vkWl hG hT) .nil)))) mix enCl (hs:=[]) (L:=[]) (pol:={}) (kA (by kernel_rfl)) (eCl.trans ?_)
 rw[k5 (decP_iff.2 ⟨rfl,trivial⟩),k5 (decP_iff.2 ⟨rfl,rfl,.inl (by kernel_rfl)⟩),k5 (decP_iff.2 ⟨rfl,trivial⟩),k5 (decP_iff.2 ⟨rfl,rfl,.inr (by kernel_rfl)⟩),k7]
end
section
open Go
set_option maxRecDepth 100000
variable {G:World->(Nat->Prop)->Prop} (hG:GOk G)
end
section
open Go Tryz
set_option maxRecDepth 100000
variable {G:World->(Nat->Prop)->Prop} (hG:GOk G)
theorem enterWh:Enters prog 165 f165 (qd f165):=⟨func165,by kernel_rfl,rfl⟩
theorem kWh (x:Rat) (n:Nat) (W:Nat):evF prog [(62,g76 W),(101,h108),(114,h113)] [] {} f165 [.q x n] [] ql=
 Tr.br (bz (qt x)&&bz (qu x)&&decide ((0:Nat)<val (qu x))) (.br (qo x) (.br (!decide (rmB (qt x) (qu x)=ByteArray.mk #[])) (.br (bz (quB (qt x) (qu x))&&bz (ByteArray.mk #[(1:UInt8)])) (.br (qg (M76 (adB (quB (qt x) (qu x)) (ByteArray.mk #[(1:UInt8)])) (ByteArray.mk #[(1:UInt8)]) W)) (.ok (.ret (.q (mkq (qo x) (adB (quB (qt x) (qu x)) (ByteArray.mk #[(1:UInt8)])) (ByteArray.mk #[(1:UInt8)])) W) [])) (.no 1)) (.no 1)) (.br (qg (M76 (quB (qt x) (qu x)) (ByteArray.mk #[(1:UInt8)]) W)) (.ok (.ret (.q (mkq (qo x) (quB (qt x) (qu x)) (ByteArray.mk #[(1:UInt8)])) W) [])) (.no 1))) (.br (qg (M76 (quB (qt x) (qu x)) (ByteArray.mk #[(1:UInt8)]) W)) (.ok (.ret (.q (mkq (qo x) (quB (qt x) (qu x)) (ByteArray.mk #[(1:UInt8)])) W) [])) (.no 1))) (.no 1):=by kernel_rfl
def gWh:Spec:=fun args hs K=>match args,hs with
 | [.q x n],[]=>.br (Nat.ble n 790000) (K (.q (x.floor:Rat) (n+1)) []) (.no 1)
 | _,_=>.no 1
theorem floor_z (x:Rat):(x.floor:Rat)=if qo x=true/\x.num.natAbs%x.den≠0 then mkz (qo x) (x.num.natAbs/x.den+1) 1 else mkz (qo x) (x.num.natAbs/x.den) 1:=by
 have hd:=x.den_pos
 have hf:x.floor=x.num/(x.den:Int):=by
  rw[Rat.floor_def]
 rw[hf]
 have e:=Nat.div_add_mod x.num.natAbs x.den
 have hm:=Nat.mod_lt x.num.natAbs hd
 generalize hq:x.num.natAbs/x.den=q at*
 generalize hr:x.num.natAbs%x.den=r at*
 have hD:(0:Int)<(x.den:Int):=by omega
 by_cases hn:qo x=true
 ·have hneg:x.num<0:=of_decide_eq_true hn
  have hx:x.num = -((x.den:Int)*q+r):=by
   have:(x.num.natAbs:Int)=(x.den:Int)*q+r:=by rw[<-e];simp
   omega
  by_cases h0:r=0
  ·rw[if_neg (fun h=>h.2 h0),hn,mkz_int,hx,h0]
   congr 1
   show -((x.den:Int)*q+(0:Nat))/(x.den:Int) = -(q:Int)
   rw[show -((x.den:Int)*q+((0:Nat):Int))=(x.den:Int)*(-(q:Int)) by simp[Int.mul_neg]]
   exact Int.mul_ediv_cancel_left _ (by omega)
  ·rw[if_pos ⟨hn,h0⟩,hn,mkz_int,hx]
   congr 1
   show -((x.den:Int)*q+r)/(x.den:Int) = -((q+1:Nat):Int)
   rw[show -((x.den:Int)*q+(r:Int))=((x.den:Int)-r)+(x.den:Int)*(-(q+1:Int)) by rw[Int.mul_neg,Int.mul_add];omega]
   rw[Int.add_mul_ediv_left _ _ (by omega),Int.ediv_eq_zero_of_lt (by omega) (by omega)]
   omega
 ·have hnn:0<=x.num:=by
   have:¬ x.num<0:=fun h=>hn (kF h)
   omega
  rw[if_neg (fun h=>hn h.1),show qo x=false by simpa using hn,mkz_int]
  congr 1
  have hx:x.num=(x.den:Int)*q+r:=by
   have:(x.num.natAbs:Int)=(x.den:Int)*q+r:=by rw[<-e];simp
   omega
  show x.num/(x.den:Int)=(q:Int)
  rw[hx,Int.add_comm,Int.add_mul_ediv_left _ _ (by omega),Int.ediv_eq_zero_of_lt (by omega) (by omega)]
  omega
theorem one1:(⟨#[1]⟩:ByteArray)=nb 1:=by kernel_rfl
theorem emp0:(⟨#[]⟩:ByteArray)=nb 0:=by kernel_rfl
theorem M76_nb {a d W:Nat} (h0:0<d) (ha:a<2^W) (hd:d<2^W) (h1:0<W) (h8:W<=800000):qg (M76 (nb a) (nb d) W)=true:=
 decP_iff.2 ⟨by rw[qE],by rw[qE],by rw[qE];exact h0,by rw[qE];exact ha,by rw[qE];exact hd,h1,h8⟩
include hG in
theorem gkWh (hT:qp G):qc prog G 165 gWh:=by
 intro args hs K y h
 unfold gWh at h
 split at h
 case h_2=>cases h
 rename_i x n
 obtain⟨hc,hr⟩:=k8 h
 rw[kH]at hc
 refine⟨_,_,?_,hr⟩
 refine pc_assume _ q1_sz fun hq => ?_
 obtain⟨s1,s2,s3⟩:=sz_lt hq
 have hd:=x.den_pos
 have p1:2^n<2^(n+1):=Nat.pow_lt_pow_right (by omega) (by omega)
 have p0:1<2^(n+1):=Nat.lt_of_le_of_lt (Nat.one_le_two_pow) p1
 have hqle:x.num.natAbs/x.den<=x.num.natAbs:=Nat.div_le_self _ _
 refine qj hG (.cons (gk76 hG hT (n+1)) (.cons (hk108 hG) (.cons (hk113 hG) .nil))) mix enterWh (L:=[]) (pol:={}) (kA (by kernel_rfl)) ?_
 rw[kWh x n (n+1)]
 simp only[rnum_eq,rden_eq,one1,emp0,quB_nb,rmB_nb,adB_nb,val_nb,mkq_nb]
 rw[floor_z]
 have b0:(bz (nb x.num.natAbs)&&bz (nb x.den)&&decide (0<x.den))=true:=by
  rw[qF s1 (by omega),qF s2 (by omega),kF hd];rfl
 have b1:(bz (nb (x.num.natAbs/x.den))&&bz (nb 1))=true:=by
  rw[qF (k:=x.num.natAbs/x.den) (n:=n) (by omega) (by omega),qF (k:=1) (n:=n+1) p0 (by omega)];rfl
 have m1:qg (M76 (nb (x.num.natAbs/x.den)) (nb 1) (n+1))=true:=M76_nb (by omega) (by omega) p0 (by omega) (by omega)
 have m2:qg (M76 (nb (x.num.natAbs/x.den+1)) (nb 1) (n+1))=true:=M76_nb (by omega) (by omega) p0 (by omega) (by omega)
 have nbz:∀ k:Nat,(nb k=nb 0)↔k=0:=fun k=>⟨fun h=>by have:=congrArg (fun b:ByteArray=>bv b.data.toList) h;simpa [qE]using this,fun h=>by rw[h]⟩
 rw[k5 b0]
 cases hn:qo x with
 | false=>
  rw[k6 rfl,k5 m1,if_neg (by simp),k7]
 | true=>
  rw[k5 rfl]
  by_cases h0:x.num.natAbs%x.den=0
  ·rw[k6 (by rw[kF ((nbz _).2 h0)];rfl),k5 m1,if_neg (fun h=>h.2 h0),k7]
  ·rw[k5 (by rw[kG (fun h=>h0 ((nbz _).1 h))];rfl),k5 b1,k5 m2,if_pos ⟨rfl,h0⟩,k7]
theorem enterDn:Enters prog 216 f216 (qd f216):=⟨func216,by kernel_rfl,rfl⟩
theorem enterUp:Enters prog 217 f217 (qd f217):=⟨func217,by kernel_rfl,rfl⟩
def isMil (a b:ByteArray):Prop:=a=nb 1000000/\b=nb 1
def gMil:Spec:=fun args hs K=>match args,hs with
 | [.q x n,.agg [.bl false,.s a,.s b]],[]=>.br (qg (isMil a b)) (.br (Nat.ble (n+20) 800000) (K (.q (x*1000000) (n+20)) []) (.no 1)) (.no 1)
 | _,_=>.no 1
theorem kDn (x:Rat) (n:Nat) (W:Nat):evF prog [(75,gMil),(62,g76 W),(100,s107),(165,gWh)] [] {} f216 [.q x n,.i .i64 1000000] [] ql=
 Tr.br (decide ((if (1:Int)>(1000000:Int)then (1:Int)else (1000000:Int))<=9223372036854775807)) (.br (qg (isMil (nb (if (1:Int)>(1000000:Int)then (1:Int)else (1000000:Int)).toNat) (ByteArray.mk #[(1:UInt8)]))) (.br ((n+20).ble 800000) (.br ((n+20).ble 790000) (.br (qg (M76 (qt (↑(x*1000000).floor:Rat)) (nb (if (1:Int)>(1000000:Int)then (1:Int)else (1000000:Int)).toNat) W)) (.ok (.ret (.q (mkq (qo (↑(x*1000000).floor:Rat)) (qt (↑(x*1000000).floor:Rat)) (nb (if (1:Int)>(1000000:Int)then (1:Int)else (1000000:Int)).toNat)) W) [])) (.no 1)) (.no 1)) (.no 1)) (.no 1)) (.no 1):=by kernel_rfl
def gDn:Spec:=fun args hs K=>match args,hs with
 | [.q x n,.i .i64 1000000],[]=>.br (Nat.ble n 700000) (K (.q (dnR x) (n+42)) []) (.no 1)
 | _,_=>.no 1
def gUp:Spec:=fun args hs K=>match args,hs with
 | [.q x n,.i .i64 1000000],[]=>.br (Nat.ble n 700000) (K (.q (upR x) (n+42)) []) (.no 1)
 | _,_=>.no 1
theorem kUp (x:Rat) (n:Nat):evF prog [(102,g83),(216,gDn)] [] {} f217 [.q x n,.i .i64 1000000] [] ql=
 Tr.br (n.ble 800000) (.br (n.ble 700000) (.br ((n+42).ble 800000) (.ok (.ret (.q (-dnR (-x)) (n+42)) [])) (.no 1)) (.no 1)) (.no 1):=by kernel_rfl
theorem mil_sz:sz (1000000:Rat)<=20:=by decide +kernel
include hG in
theorem gkMil (hT:qp G):qc prog G 75 gMil:=by
 intro args hs K y h
 unfold gMil at h
 split at h
 case h_2=>cases h
 rename_i x n a b
 obtain⟨hc,hr⟩:=k8 h
 obtain⟨hb,hr⟩:=k8 hr
 obtain⟨rfl,rfl⟩:=decP_iff.1 hc
 refine⟨_,_,?_,hr⟩
 have hv:VLe (.agg [.bl false,.s (nb 1000000),.s (nb 1)]) (.q 1000000 20):=by
  have key:∀ (w:World) (S:Nat->Prop) (μ:Mu) (cs:List Value),RepC w S μ (.agg [.bl false,.s (nb 1000000),.s (nb 1)]) cs->RepC w S μ (.q 1000000 20) cs:=by
   intro w S μ cs hc
   cases hc with
   | agg _ _ _ h1=>
    cases h1 with
    | cons _ _ _ c1 d1 h2 h3=>
     cases h2
     cases h3 with
     | cons _ _ _ c2 d2 h4 h5=>
      cases h4
      cases h5 with
      | cons _ _ _ c3 d3 h6 h7=>
       cases h6
       cases h7
       exact .q _ (1000000:Rat) 20 mil_sz
  refine⟨rfl,fun w S μ=>⟨key w S μ,fun x hx => ?_⟩⟩
  cases hx with
  | cell _ _ _ hv _=>cases hv
  | agg _ _ cs hv hc=>exact .agg _ _ _ rfl (key w S μ cs hc)
 exact PC.args (.cons (.refl _) (.cons hv .nil)) (pc_spec (gk43 hG hT) (r:=.q (x*1000000) (n+20)) (hs':=[]) ((k5 hb).trans rfl))
theorem mk_mil (k:Int):mkz (qo (k:Rat)) ((k:Rat).num.natAbs) 1000000=(k:Rat)/1000000:=by
 unfold mkz
 rw[sg_num]
 show mkRat k 1000000=_
 rw[Rat.mkRat_eq_div]
 rfl
theorem ab_up (x:Rat):x<=((x.num.natAbs:Int):Rat):=by
 rw[Rat.le_iff]
 have h:=Nat.le_mul_of_pos_right x.num.natAbs x.den_pos
 have h2:((x.num.natAbs*x.den:Nat):Int)=(x.num.natAbs:Int)*(x.den:Int):=by simp
 show x.num*((1:Nat):Int)<=(x.num.natAbs:Int)*(x.den:Int)
 rw[<-h2]
 omega
theorem ab_dn (x:Rat) : -((x.num.natAbs:Int):Rat)<=x:=by
 have h:=ab_up (-x)
 rw[neg_natAbs]at h
 grind
theorem fl_bd (x:Rat) (c:Int) (hc:0<=c):(x*(c:Rat)).floor.natAbs<=x.num.natAbs*c.natAbs:=by
 have hc':(0:Rat)<=(c:Rat):=Rat.intCast_le_intCast.2 hc
 have h1:=Rat.mul_le_mul_of_nonneg_right (ab_up x) hc'
 have h2:=Rat.mul_le_mul_of_nonneg_right (ab_dn x) hc'
 have e1:((x.num.natAbs:Int):Rat)*(c:Rat)=(((x.num.natAbs:Int)*c:Int):Rat):=by rw[Rat.intCast_mul]
 have e2 : -((x.num.natAbs:Int):Rat)*(c:Rat)=((-((x.num.natAbs:Int)*c):Int):Rat):=by rw[Rat.intCast_neg,Rat.intCast_mul];grind
 rw[e1]at h1
 rw[e2]at h2
 have f1:=Rat.intCast_le_intCast.1 (Rat.le_trans (Rat.floor_le _) h1)
 have f2:=Rat.le_floor_iff.2 h2
 have e3:((x.num.natAbs*c.natAbs:Nat):Int)=(x.num.natAbs:Int)*c:=by
  rw[Int.natCast_mul,Int.natAbs_of_nonneg hc]
 omega
include hG in
theorem gkDn (hT:qp G):qc prog G 216 gDn:=by
 intro args hs K y h
 unfold gDn at h
 split at h
 case h_2=>cases h
 rename_i x n
 obtain⟨hc,hr⟩:=k8 h
 rw[kH]at hc
 refine⟨_,_,?_,hr⟩
 refine pc_assume (sz x<=n) (fun w S μ vs h=>by cases h with|cons _ _ _ _ _ h _=>exact q_szV h) fun hq => ?_
 obtain⟨s1,s2,s3⟩:=sz_lt hq
 have hz:=fl_bd x 1000000 (by decide)
 have p20:(1000000:Nat)<2^20:=by decide
 have hb:(x*((1000000:Int):Rat)).floor.natAbs<2^(n+42):=by
  refine Nat.lt_of_le_of_lt hz ?_
  show x.num.natAbs*1000000<_
  have a1:x.num.natAbs*1000000<2^n*2^20:=Nat.mul_lt_mul_of_lt_of_le s1 (Nat.le_of_lt p20) (by decide)
  rw[<-Nat.pow_add]at a1
  exact Nat.lt_of_lt_of_le a1 (Nat.pow_le_pow_right (by omega) (by omega))
 have hd:(1000000:Nat)<2^(n+42):=Nat.lt_of_lt_of_le p20 (Nat.pow_le_pow_right (by omega) (by omega))
 refine qj hG (.cons (gkMil hG hT) (.cons (gk76 hG hT (n+42)) (.cons (ok107 hG) (.cons (gkWh hG hT) .nil)))) mix enterDn (L:=[]) (pol:={}) (kA (by kernel_rfl)) ?_
 rw[kDn x n (n+42)]
 rw[dnR,qh,<-mk_mil]
 have hi:(if (1:Int)>1000000 then (1:Int)else 1000000).toNat=1000000:=by decide
 simp only[hi,rnum_eq,mkq_nb]
 have hb':((x*1000000).floor:Rat).num.natAbs<2^(n+42):=hb
 rw[k5 (by decide),k5 (decP_iff.2 ⟨rfl,one1⟩),k5 (by rw[kH];omega),k5 (by rw[kH];omega),k5 (M76_nb (by omega) hb' hd (by omega) (by omega)),k7]
include hG in
theorem gkUp (hT:qp G):qc prog G 217 gUp:=by
 intro args hs K y h
 unfold gUp at h
 split at h
 case h_2=>cases h
 rename_i x n
 obtain⟨hc,hr⟩:=k8 h
 rw[kH]at hc
 refine⟨_,_,?_,hr⟩
 refine qj hG (.cons (gk83 hG hT) (.cons (gkDn hG hT) .nil)) mix enterUp (L:=[]) (pol:={}) (kA (by kernel_rfl)) ?_
 rw[kUp x n,upR,qh,k5 (by rw[kH];omega),k5 (by rw[kH];omega),k5 (by rw[kH];omega),k7]
theorem enOf:Enters prog 155 f155 (qd f155):=⟨func155,by kernel_rfl,rfl⟩
theorem enGd:Enters prog 199 f199 (qd f199):=⟨func199,by kernel_rfl,rfl⟩
theorem enFt:Enters prog 164 f164 (qd f164):=⟨func164,by kernel_rfl,rfl⟩
theorem enHs:Enters prog 195 f195 (qd f195):=⟨func195,by kernel_rfl,rfl⟩
theorem enJn:Enters prog 125 f125 (qd f125):=⟨func125,by kernel_rfl,rfl⟩
theorem enAd:Enters prog 163 f163 (qd f163):=⟨func163,by kernel_rfl,rfl⟩
theorem enSb:Enters prog 161 f161 (qd f161):=⟨func161,by kernel_rfl,rfl⟩
theorem enAr:Enters prog 198 f198 (qd f198):=⟨func198,by kernel_rfl,rfl⟩
theorem enMu:Enters prog 162 f162 (qd f162):=⟨func162,by kernel_rfl,rfl⟩
theorem enSq:Enters prog 193 f193 (qd f193):=⟨func193,by kernel_rfl,rfl⟩
theorem enOu:Enters prog 196 f196 (qd f196):=⟨func196,by kernel_rfl,rfl⟩
def eqN (args:List PV) (n m:Nat):Prop:=(∃ a b c d,args=[.agg [.q a n,.q b n],.agg [.q c m,.q d m]])/\1<=n/\1<=m/\n+m<=50000
def eqN1 (n m:Nat):Prop:=n=m/\1<=n/\n<=25000
def spR (a b:Rat) (n:Nat):PV:=.agg [.q a n,.q b n]
def gOf:Spec:=fun args hs K=>match args,hs with
 | [.q x n],[]=>.br (Nat.ble n 400000) (K (.agg [.q x n,.q x n]) []) (.no 1)
 | _,_=>.no 1
theorem kOf (x:Rat) (n:Nat):evF prog [(121,v80)] [] {} f155 [.q x n] [] ql=
 Tr.br (qg (x=x/\n=n/\n<=400000)) (.ok (.ret (.agg [.q x n,.q x n]) [])) (.no 1):=by kernel_rfl
def gGd:Spec:=evF prog [(23,g27),(104,g109)] [] {} f199
def gFt:Spec:=fun args hs K=>match args,hs with
 | [.agg [.q a n,.q b m]],[]=>.br (Nat.ble 1 n&&Nat.ble 1 m&&Nat.ble (n+m) 800000) (K (.agg [.q (qk a b).lo n,.q (qk a b).hi m]) []) (.no 1)
 | _,_=>.no 1
theorem kFt (a b:Rat) (n m:Nat):evF prog [(155,gOf),(53,g71),(199,gGd)] [] {} f164 [.agg [.q a n,.q b m]] [] ql=
 Tr.br (n.ble 800000) (.br (m.ble 800000) (.br ((n+m).ble 800000) (.br (!decide (rcmp a b<=0)) (.br (decide ((-72057594037927936:Int)<0)&&decide ((0:Int)<=9223372036854775807)) (.br (((Int.natAbs (0:Int)).log2+1).ble 400000) (.ok (.ret (.agg [.q (↑(0:Int):Rat) 1,.q (↑(0:Int):Rat) 1]) [])) (.no 1)) (.no 1)) (.ok (.ret (.agg [.q a n,.q b m]) []))) (.no 1)) (.no 1)) (.no 1):=by kernel_rfl
def gHs:Spec:=fun args hs K=>match args,hs with
 | [.agg [.q a n,.q b m],.q x k],[]=>.br (Nat.ble 1 n&&Nat.ble 1 m&&Nat.ble (n+m+k) 400000) (K (.b (hasB (qk a b) x)) []) (.no 1)
 | _,_=>.no 1
theorem kHs (a b x:Rat) (n m k:Nat):evF prog [(164,gFt),(23,g27)] [] {} f195 [.agg [.q a n,.q b m],.q x k] [] ql=
 Tr.br (Nat.ble 1 n&&Nat.ble 1 m&&(n+m).ble 800000) (.br ((n+k).ble 800000) (.br (decide (rcmp (qk a b).lo x<=0)) (.br ((k+m).ble 800000) (.ok (.ret (.b (decide (rcmp x (qk a b).hi<=0))) [])) (.no 1)) (.ok (.ret (.bl false) []))) (.no 1)) (.no 1):=by kernel_rfl
def gJn:Spec:=fun args hs K=>match args,hs with
 | [.agg [.q a n,.q b _],.agg [.q c m,.q d _]],[]=>.br (qg (eqN args n m)) (K (.agg [.q (joinS (qk a b) (qk c d)).lo (Nat.max n m),.q (joinS (qk a b) (qk c d)).hi (Nat.max n m)]) []) (.no 1)
 | _,_=>.no 1
def gAd:Spec:=fun args hs K=>match args,hs with
 | [.agg [.q a n,.q b _],.agg [.q c m,.q d _]],[]=>.br (qg (eqN args n m)) (K (.agg [.q (addS (qk a b) (qk c d)).lo (n+m+1),.q (addS (qk a b) (qk c d)).hi (n+m+1)]) []) (.no 1)
 | _,_=>.no 1
def gSb:Spec:=fun args hs K=>match args,hs with
 | [.agg [.q a n,.q b _],.agg [.q c m,.q d _]],[]=>.br (qg (eqN args n m)) (K (.agg [.q (subS (qk a b) (qk c d)).lo (n+m+1),.q (subS (qk a b) (qk c d)).hi (n+m+1)]) []) (.no 1)
 | _,_=>.no 1
def gMu:Spec:=fun args hs K=>match args,hs with
 | [.agg [.q a n,.q b _],.agg [.q c m,.q d _]],[]=>.br (qg (eqN args n m)) (K (.agg [.q (mulS (qk a b) (qk c d)).lo (n+m),.q (mulS (qk a b) (qk c d)).hi (n+m)]) []) (.no 1)
 | _,_=>.no 1
def gSq:Spec:=fun args hs K=>match args,hs with
 | [.agg [.q a n,.q b m]],[]=>.br (qg (eqN1 n m)) (K (.agg [.q (sqS (qk a b)).lo (n+n),.q (sqS (qk a b)).hi (n+n)]) []) (.no 1)
 | _,_=>.no 1
def gOu:Spec:=fun args hs K=>match args,hs with
 | [.agg [.q a n,.q b m],.i .i64 1000000],[]=>.br (qg (eqN1 n m)) (K (.agg [.q (dnR (qk a b).lo) (n+42),.q (upR (qk a b).hi) (n+42)]) []) (.no 1)
 | _,_=>.no 1
def gAr:Spec:=fun args hs K=>match args,hs with
 | [.lst 3 (.rats w [a,b,c,d])],[]=>.br (Nat.ble 1 w&&Nat.ble w 200000) (K (.agg [.q (mnR (mnR (mnR a b) c) d) w,.q (mxR (mxR (mxR a b) c) d) w]) []) (.no 1)
 | [.lst 3 (.rats w [a,b])],[]=>.br (Nat.ble 1 w&&Nat.ble w 200000) (K (.agg [.q (mnR a b) w,.q (mxR a b) w]) []) (.no 1)
 | _,_=>.no 1
def OFt:Orc:=[(122,g86),(121,g80),(25,g21),(75,g43),(54,g29),(164,gFt),(198,gAr)]
theorem kJn (a b c d:Rat) (n m:Nat):evF prog OFt [] {} f125 [spR a b n,spR c d m] [] ql=
 Tr.br (Nat.ble 1 n&&Nat.ble 1 n&&(n+n).ble 800000) (.br (Nat.ble 1 m&&Nat.ble 1 m&&(m+m).ble 800000) (.br ((n+m).ble 400000) (.br ((n+m).ble 400000) (.ok (.ret (.agg [.q (mnR (qk a b).lo (qk c d).lo) (n.max m),.q (mxR (qk a b).hi (qk c d).hi) (n.max m)]) [])) (.no 1)) (.no 1)) (.no 1)) (.no 1):=by kernel_rfl
theorem kAd (a b c d:Rat) (n m:Nat):evF prog OFt [] {} f163 [spR a b n,spR c d m] [] ql=
 Tr.br (Nat.ble 1 n&&Nat.ble 1 n&&(n+n).ble 800000) (.br (Nat.ble 1 m&&Nat.ble 1 m&&(m+m).ble 800000) (.br ((n+m+1).ble 800000) (.br ((n+m+1).ble 800000) (.ok (.ret (.agg [.q ((qk a b).lo+(qk c d).lo) (n+m+1),.q ((qk a b).hi+(qk c d).hi) (n+m+1)]) [])) (.no 1)) (.no 1)) (.no 1)) (.no 1):=by kernel_rfl
theorem kSb (a b c d:Rat) (n m:Nat):evF prog OFt [] {} f161 [spR a b n,spR c d m] [] ql=
 Tr.br (Nat.ble 1 n&&Nat.ble 1 n&&(n+n).ble 800000) (.br (Nat.ble 1 m&&Nat.ble 1 m&&(m+m).ble 800000) (.br ((n+m+1).ble 800000) (.br ((n+m+1).ble 800000) (.ok (.ret (.agg [.q ((qk a b).lo-(qk c d).hi) (n+m+1),.q ((qk a b).hi-(qk c d).lo) (n+m+1)]) [])) (.no 1)) (.no 1)) (.no 1)) (.no 1):=by kernel_rfl
theorem kMu (a b c d:Rat) (n m:Nat):evF prog OFt [] {} f162 [spR a b n,spR c d m] [] ql=
 Tr.br (Nat.ble 1 n&&Nat.ble 1 n&&(n+n).ble 800000) (.br (Nat.ble 1 m&&Nat.ble 1 m&&(m+m).ble 800000) (.br ((n+m).ble 800000) (.br ((n+m).ble 800000) (.br ((n+m).ble 800000) (.br ((n+m).ble 800000) (.br (Nat.ble 1 ((n+m).max ((n+m).max ((n+m).max ((n+m).max (0:Nat)))))&&((n+m).max ((n+m).max ((n+m).max ((n+m).max (0:Nat))))).ble 200000) (.ok (.ret (.agg [.q (mnR (mnR (mnR ((qk a b).lo*(qk c d).lo) ((qk a b).lo*(qk c d).hi)) ((qk a b).hi*(qk c d).lo)) ((qk a b).hi*(qk c d).hi)) ((n+m).max ((n+m).max ((n+m).max ((n+m).max (0:Nat))))),.q (mxR (mxR (mxR ((qk a b).lo*(qk c d).lo) ((qk a b).lo*(qk c d).hi)) ((qk a b).hi*(qk c d).lo)) ((qk a b).hi*(qk c d).hi)) ((n+m).max ((n+m).max ((n+m).max ((n+m).max (0:Nat)))))]) [])) (.no 1)) (.no 1)) (.no 1)) (.no 1)) (.no 1)) (.no 1)) (.no 1):=by kernel_rfl
theorem kSq (a b:Rat) (n:Nat):evF prog [(195,gHs),(53,g71),(75,g43),(164,gFt),(198,gAr)] [] {} f193 [spR a b n] [] ql=
 Tr.br (Nat.ble 1 n&&Nat.ble 1 n&&(n+n).ble 800000) (.br ((n+n).ble 800000) (.br ((n+n).ble 800000) (.br (Nat.ble 1 ((n+n).max ((n+n).max (0:Nat)))&&((n+n).max ((n+n).max (0:Nat))).ble 200000) (.br (decide ((-72057594037927936:Int)<0)&&decide ((0:Int)<=9223372036854775807)) (.br (Nat.ble 1 n&&Nat.ble 1 n&&(n+n+((Int.natAbs (0:Int)).log2+1)).ble 400000) (.br (hasB (qk (qk a b).lo (qk a b).hi) (↑(0:Int):Rat)) (.br (decide ((-72057594037927936:Int)<0)&&decide ((0:Int)<=9223372036854775807)) (.ok (.ret (.agg [.q (↑(0:Int):Rat) 1,.q (mxR ((qk a b).lo*(qk a b).lo) ((qk a b).hi*(qk a b).hi)) ((n+n).max ((n+n).max (0:Nat)))]) [])) (.no 1)) (.ok (.ret (.agg [.q (mnR ((qk a b).lo*(qk a b).lo) ((qk a b).hi*(qk a b).hi)) ((n+n).max ((n+n).max (0:Nat))),.q (mxR ((qk a b).lo*(qk a b).lo) ((qk a b).hi*(qk a b).hi)) ((n+n).max ((n+n).max (0:Nat)))]) []))) (.no 1)) (.no 1)) (.no 1)) (.no 1)) (.no 1)) (.no 1):=by kernel_rfl
theorem kOu (a b:Rat) (n:Nat):evF prog [(164,gFt),(216,gDn),(217,gUp)] [] {} f196 [spR a b n,.i .i64 1000000] [] ql=
 Tr.br (Nat.ble 1 n&&Nat.ble 1 n&&(n+n).ble 800000) (.br (n.ble 700000) (.br (n.ble 700000) (.ok (.ret (.agg [.q (dnR (qk a b).lo) (n+42),.q (upR (qk a b).hi) (n+42)]) [])) (.no 1)) (.no 1)) (.no 1):=by kernel_rfl
def bAr:Code:=(qi (qd f198)).getD 0 .skip
def polAr:Pol:={live:=[(3,[2,3,11,12,13])]}
def OAr:Orc:=[(122,g86),(155,gOf),(121,g80)]
def lAr:qA:=unr prog OAr [] polAr f198.ntmps 0 [2,3,11,12,13] bAr 4
theorem kAr4 (w:Nat) (a b c d:Rat):(evF prog OAr [(3,lAr)] polAr f198 [.lst 3 (.rats w [a,b,c,d])] [] ql).run=
 (Tr.br (ix ((0:Int)) ((↑[a,b,c,d].length:Int))) (.br (w.ble 400000) (.br (decide ((0:Int)<=1)&&decide (1<=(↑[a,b,c,d].length:Int))) (.br (decide (0<(↑[b,c,d].length:Int))) (.br (ix ((0:Int)) ((↑[b,c,d].length:Int))) (.br ((w+w).ble 400000) (.br ((w+w).ble 400000) (.br (decide (1<(↑[b,c,d].length:Int))) (.br (ix ((1:Int)) ((↑[b,c,d].length:Int))) (.br ((w.max w+w).ble 400000) (.br ((w.max w+w).ble 400000) (.br (decide (2<(↑[b,c,d].length:Int))) (.br (ix ((2:Int)) ((↑[b,c,d].length:Int))) (.br (((w.max w).max w+w).ble 400000) (.br (((w.max w).max w+w).ble 400000) (.br (decide (3<(↑[b,c,d].length:Int))) (.br (ix ((3:Int)) ((↑[b,c,d].length:Int))) (.br ((((w.max w).max w).max w+w).ble 400000) (.br ((((w.max w).max w).max w+w).ble 400000) (.no 16) (.no 1)) (.no 1)) (.no 5004)) (.ok (.ret (.agg [.q (mnR (mnR (mnR ([a,b,c,d].getD 0 0) ((List.take ([a,b,c,d].length-1) (List.drop 1 [a,b,c,d])).getD (0:Nat) (0:Rat))) ((List.take ([a,b,c,d].length-1) (List.drop 1 [a,b,c,d])).getD (1:Nat) (0:Rat))) ((List.take ([a,b,c,d].length-1) (List.drop 1 [a,b,c,d])).getD (2:Nat) (0:Rat))) (((w.max w).max w).max w),.q (mxR (mxR (mxR ([a,b,c,d].getD 0 0) ((List.take ([a,b,c,d].length-1) (List.drop 1 [a,b,c,d])).getD (0:Nat) (0:Rat))) ((List.take ([a,b,c,d].length-1) (List.drop 1 [a,b,c,d])).getD (1:Nat) (0:Rat))) ((List.take ([a,b,c,d].length-1) (List.drop 1 [a,b,c,d])).getD (2:Nat) (0:Rat))) (((w.max w).max w).max w)]) []))) (.no 1)) (.no 1)) (.no 5004)) (.ok (.ret (.agg [.q (mnR (mnR ([a,b,c,d].getD 0 0) ((List.take ([a,b,c,d].length-1) (List.drop 1 [a,b,c,d])).getD (0:Nat) (0:Rat))) ((List.take ([a,b,c,d].length-1) (List.drop 1 [a,b,c,d])).getD (1:Nat) (0:Rat))) ((w.max w).max w),.q (mxR (mxR ([a,b,c,d].getD 0 0) ((List.take ([a,b,c,d].length-1) (List.drop 1 [a,b,c,d])).getD (0:Nat) (0:Rat))) ((List.take ([a,b,c,d].length-1) (List.drop 1 [a,b,c,d])).getD (1:Nat) (0:Rat))) ((w.max w).max w)]) []))) (.no 1)) (.no 1)) (.no 5004)) (.ok (.ret (.agg [.q (mnR ([a,b,c,d].getD 0 0) ((List.take ([a,b,c,d].length-1) (List.drop 1 [a,b,c,d])).getD (0:Nat) (0:Rat))) (w.max w),.q (mxR ([a,b,c,d].getD 0 0) ((List.take ([a,b,c,d].length-1) (List.drop 1 [a,b,c,d])).getD (0:Nat) (0:Rat))) (w.max w)]) []))) (.no 1)) (.no 1)) (.no 5004)) (.ok (.ret (.agg [.q ([a,b,c,d].getD 0 0) w,.q ([a,b,c,d].getD 0 0) w]) []))) (.no 3003)) (.no 1)) (.no 2005)).run:=by kernel_rfl
theorem kAr2 (w:Nat) (a b:Rat):(evF prog OAr [(3,lAr)] polAr f198 [.lst 3 (.rats w [a,b])] [] ql).run=
 (Tr.br (ix ((0:Int)) ((↑[a,b].length:Int))) (.br (w.ble 400000) (.br (decide ((0:Int)<=1)&&decide (1<=(↑[a,b].length:Int))) (.br (decide (0<(↑[b].length:Int))) (.br (ix ((0:Int)) ((↑[b].length:Int))) (.br ((w+w).ble 400000) (.br ((w+w).ble 400000) (.br (decide (1<(↑[b].length:Int))) (.br (ix ((1:Int)) ((↑[b].length:Int))) (.br ((w.max w+w).ble 400000) (.br ((w.max w+w).ble 400000) (.br (decide (2<(↑[b].length:Int))) (.br (ix ((2:Int)) ((↑[b].length:Int))) (.br (((w.max w).max w+w).ble 400000) (.br (((w.max w).max w+w).ble 400000) (.br (decide (3<(↑[b].length:Int))) (.br (ix ((3:Int)) ((↑[b].length:Int))) (.br ((((w.max w).max w).max w+w).ble 400000) (.br ((((w.max w).max w).max w+w).ble 400000) (.no 16) (.no 1)) (.no 1)) (.no 5004)) (.ok (.ret (.agg [.q (mnR (mnR (mnR ([a,b].getD 0 0) ((List.take ([a,b].length-1) (List.drop 1 [a,b])).getD (0:Nat) (0:Rat))) ((List.take ([a,b].length-1) (List.drop 1 [a,b])).getD (1:Nat) (0:Rat))) ((List.take ([a,b].length-1) (List.drop 1 [a,b])).getD (2:Nat) (0:Rat))) (((w.max w).max w).max w),.q (mxR (mxR (mxR ([a,b].getD 0 0) ((List.take ([a,b].length-1) (List.drop 1 [a,b])).getD (0:Nat) (0:Rat))) ((List.take ([a,b].length-1) (List.drop 1 [a,b])).getD (1:Nat) (0:Rat))) ((List.take ([a,b].length-1) (List.drop 1 [a,b])).getD (2:Nat) (0:Rat))) (((w.max w).max w).max w)]) []))) (.no 1)) (.no 1)) (.no 5004)) (.ok (.ret (.agg [.q (mnR (mnR ([a,b].getD 0 0) ((List.take ([a,b].length-1) (List.drop 1 [a,b])).getD (0:Nat) (0:Rat))) ((List.take ([a,b].length-1) (List.drop 1 [a,b])).getD (1:Nat) (0:Rat))) ((w.max w).max w),.q (mxR (mxR ([a,b].getD 0 0) ((List.take ([a,b].length-1) (List.drop 1 [a,b])).getD (0:Nat) (0:Rat))) ((List.take ([a,b].length-1) (List.drop 1 [a,b])).getD (1:Nat) (0:Rat))) ((w.max w).max w)]) []))) (.no 1)) (.no 1)) (.no 5004)) (.ok (.ret (.agg [.q (mnR ([a,b].getD 0 0) ((List.take ([a,b].length-1) (List.drop 1 [a,b])).getD (0:Nat) (0:Rat))) (w.max w),.q (mxR ([a,b].getD 0 0) ((List.take ([a,b].length-1) (List.drop 1 [a,b])).getD (0:Nat) (0:Rat))) (w.max w)]) []))) (.no 1)) (.no 1)) (.no 5004)) (.ok (.ret (.agg [.q ([a,b].getD 0 0) w,.q ([a,b].getD 0 0) w]) []))) (.no 3003)) (.no 1)) (.no 2005)).run:=by kernel_rfl

theorem one_q0 {n:Nat} (h:1<=n):VLe (.q ((0:Int):Rat) 1) (.q 0 n):=qH h
theorem fitS_no {a b:Rat} (h:¬ a<=b):qk a b=⟨0,0,Rat.le_refl⟩:=by unfold qk;rw[dif_neg h]
include hG in
theorem gkOf (hT:qp G):qc prog G 155 gOf:=by
 intro args hs K y h
 unfold gOf at h
 split at h
 case h_2=>cases h
 rename_i x n
 obtain⟨hc,hr⟩:=k8 h
 rw[kH]at hc
 refine⟨_,_,qj hG (.cons (vk80 hG hT) .nil) mix enOf (L:=[]) (pol:={}) (kA (by kernel_rfl)) ?_,hr⟩
 rw[kOf,k5 (decP_iff.2 ⟨rfl,rfl,hc⟩),k7]
include hG in
theorem gkGd (hT:qp G):qc prog G 199 gGd:=spec_ev hG (.cons (gk27 hG hT) (.cons (gk109 hG hT) .nil)) mix enGd (fun _=>kA (by kernel_rfl))
theorem ble3 {a b c:Nat} {n m k:Nat} (h:(Nat.ble a n&&Nat.ble b m&&Nat.ble k c)=true):a<=n/\b<=m/\k<=c:=by
 simp only[kD,kH]at h;exact⟨h.1.1,h.1.2,h.2⟩
include hG in
theorem gkFt (hT:qp G):qc prog G 164 gFt:=by
 intro args hs K y h
 unfold gFt at h
 split at h
 case h_2=>cases h
 rename_i a n b m
 obtain⟨hc,hr⟩:=k8 h
 obtain⟨h1,h2,h3⟩:=ble3 hc
 by_cases g:a<=b
 ·refine⟨_,_,qj hG (.cons (gkOf hG hT) (.cons (gk71 hG) (.cons (gkGd hG hT) .nil))) mix enFt (L:=[]) (pol:={}) (kA (by kernel_rfl)) ?_,hr⟩
  rw[kFt,fitS_lo g,fitS_hi g,k5 (by rw[kH];omega),k5 (by rw[kH];omega),k5 (by rw[kH];omega),k6 (by rw[kF (rcmp_le.2 g)];rfl),k7]
 ·refine⟨_,_,(qj hG (.cons (gkOf hG hT) (.cons (gk71 hG) (.cons (gkGd hG hT) .nil))) mix enFt (L:=[]) (pol:={}) (kA (by kernel_rfl)) (r:=.agg [.q ((0:Int):Rat) 1,.q ((0:Int):Rat) 1]) (hs':=[]) ?_).le (rle_of_vle (fun _=>rfl) (fun _=>rfl) (VLe.agg (qM (one_q0 h1) (qM (one_q0 h2) vll0)))) (.refl _),by rw[fitS_no g]at hr;exact hr⟩
  rw[kFt,k5 (by rw[kH];omega),k5 (by rw[kH];omega),k5 (by rw[kH];omega),k5 (by rw[kG (fun h=>g (rcmp_le.1 h))];rfl),k5 (by decide),k5 (by decide),k7]
include hG in
theorem gkHs (hT:qp G):qc prog G 195 gHs:=by
 intro args hs K y h
 unfold gHs at h
 split at h
 case h_2=>cases h
 rename_i a n b m x k
 obtain⟨hc,hr⟩:=k8 h
 obtain⟨h1,h2,h3⟩:=ble3 hc
 by_cases g:(qk a b).lo<=x
 ·refine⟨_,_,(qj hG (.cons (gkFt hG hT) (.cons (gk27 hG hT) .nil)) mix enHs (L:=[]) (pol:={}) (kA (by kernel_rfl)) (r:=.b (hasB (qk a b) x)) (hs':=[]) ?_),hr⟩
  rw[kHs,k5 (by simp only[kD,kH];omega),k5 (by rw[kH];omega),k5 (kF (rcmp_le.2 g)),k5 (by rw[kH];omega),k7]
  unfold hasB
  rw[kF g,Bool.true_and]
  congr 4
  exact propext rcmp_le
 ·refine⟨_,_,(qj hG (.cons (gkFt hG hT) (.cons (gk27 hG hT) .nil)) mix enHs (L:=[]) (pol:={}) (kA (by kernel_rfl)) (r:=.bl false) (hs':=[]) ?_).le (rle_bl (y:=hasB (qk a b) x) (by unfold hasB;rw[kG g];rfl)) (.refl _),hr⟩
  rw[kHs,k5 (by simp only[kD,kH];omega),k5 (by rw[kH];omega),k6 (kG (fun h=>g (rcmp_le.1 h))),k7]
include hG in
theorem orcAr (hT:qp G):OrcOK prog G OAr:=.cons (gk86 hG hT) (.cons (gkOf hG hT) (.cons (gk80 hG hT) .nil))
include hG in
theorem gkAr (hT:qp G):qc prog G 198 gAr:=by
 have hl:=fun m:Nat=>qN (P:=prog) (G:=G) (pol:=polAr) (n:=f198.ntmps) (m:=0) (L:=[(3,lAr)]) (c:=qd f198) (b:=bAr) (live:=[2,3,11,12,13]) (sp:=lAr) (by kernel_rfl) (by kernel_rfl) (by kernel_rfl) (unr_ok hG (orcAr hG hT) mix (kA (by kernel_rfl)) 4)
 intro args hs K y h
 unfold gAr at h
 split at h
 case h_3=>cases h
 ·rename_i w a b c d
  obtain⟨hc,hr⟩:=k8 h
  simp only[kD,kH]at hc
  refine⟨_,_,qj hG (orcAr hG hT) mix enAr (hs:=[]) (L:=[(3,lAr)]) (pol:=polAr) (hl 0) ?_,hr⟩
  rw[kAr4]
  simp only[Nat.max_self]
  repeat first|rw[k5 (by first|(simp only[kD,Bool.or_eq_true,kE,kH,Nat.blt_eq,kI,kJ,kK,kM];omega)|exact kG (by simp)|exact decP_iff.2 ⟨rfl,trivial⟩|exact decP_iff.2 rfl|exact kF rfl|decide)]|rw[k6 (by first|(simp only[Bool.and_eq_false_iff,Bool.not_eq_false',kE,kM];omega)|exact kG (by simp)|exact congrArg (!·) (kF rfl)|decide)]
  rw[k7]
  rfl
 ·rename_i w a b
  obtain⟨hc,hr⟩:=k8 h
  simp only[kD,kH]at hc
  refine⟨_,_,qj hG (orcAr hG hT) mix enAr (hs:=[]) (L:=[(3,lAr)]) (pol:=polAr) (hl 0) ?_,hr⟩
  rw[kAr2]
  simp only[Nat.max_self]
  repeat first|rw[k5 (by first|(simp only[kD,Bool.or_eq_true,kE,kH,Nat.blt_eq,kI,kJ,kK,kM];omega)|exact kG (by simp)|exact decP_iff.2 ⟨rfl,trivial⟩|exact decP_iff.2 rfl|exact kF rfl|decide)]|rw[k6 (by first|(simp only[Bool.and_eq_false_iff,Bool.not_eq_false',kE,kM];omega)|exact kG (by simp)|exact congrArg (!·) (kF rfl)|decide)]
  rw[k7]
  rfl
include hG in
theorem orcFt (hT:qp G):OrcOK prog G OFt:=.cons (gk86 hG hT) (.cons (gk80 hG hT) (.cons (gk21 hG hT) (.cons (gk43 hG hT) (.cons (gk29 hG hT) (.cons (gkFt hG hT) (.cons (gkAr hG hT) .nil))))))
theorem mx4 (k:Nat):k.max (k.max (k.max (k.max 0)))=k:=by simp[Nat.max_def]
theorem mx2 (k:Nat):k.max (k.max 0)=k:=by simp[Nat.max_def]
include hG in
theorem gkJn (hT:qp G):qc prog G 125 gJn:=by
 intro args hs K y h
 unfold gJn at h
 split at h
 case h_2=>cases h
 rename_i a n b n' c m d m'
 obtain⟨hc,hr⟩:=k8 h
 obtain⟨⟨a0,b0,c0,d0,he⟩,h1,h2,h3⟩:=decP_iff.1 hc
 cases he
 refine⟨_,_,qj hG (orcFt hG hT) mix enJn (L:=[]) (pol:={}) (kA (by kernel_rfl)) ?_,hr⟩
 refine(congrArg Tr.run (kJn a b c d n m)).trans ?_
 repeat first|rw[k5 (by first|(simp only[kD,Bool.or_eq_true,kE,kH,Nat.blt_eq,kI,kJ,kK,kM];omega)|exact decP_iff.2 ⟨rfl,trivial⟩|exact decP_iff.2 rfl|exact kF rfl|decide)]|rw[k6 (by first|(simp only[Bool.and_eq_false_iff,Bool.not_eq_false',kE,kM];omega)|exact congrArg (!·) (kF rfl)|decide)]
 rw[k7]
 rfl
include hG in
theorem gkAd (hT:qp G):qc prog G 163 gAd:=by
 intro args hs K y h
 unfold gAd at h
 split at h
 case h_2=>cases h
 rename_i a n b n' c m d m'
 obtain⟨hc,hr⟩:=k8 h
 obtain⟨⟨a0,b0,c0,d0,he⟩,h1,h2,h3⟩:=decP_iff.1 hc
 cases he
 refine⟨_,_,qj hG (orcFt hG hT) mix enAd (L:=[]) (pol:={}) (kA (by kernel_rfl)) ?_,hr⟩
 refine(congrArg Tr.run (kAd a b c d n m)).trans ?_
 repeat first|rw[k5 (by first|(simp only[kD,Bool.or_eq_true,kE,kH,Nat.blt_eq,kI,kJ,kK,kM];omega)|exact decP_iff.2 ⟨rfl,trivial⟩|exact decP_iff.2 rfl|exact kF rfl|decide)]|rw[k6 (by first|(simp only[Bool.and_eq_false_iff,Bool.not_eq_false',kE,kM];omega)|exact congrArg (!·) (kF rfl)|decide)]
 rw[k7]
 rfl
include hG in
theorem gkSb (hT:qp G):qc prog G 161 gSb:=by
 intro args hs K y h
 unfold gSb at h
 split at h
 case h_2=>cases h
 rename_i a n b n' c m d m'
 obtain⟨hc,hr⟩:=k8 h
 obtain⟨⟨a0,b0,c0,d0,he⟩,h1,h2,h3⟩:=decP_iff.1 hc
 cases he
 refine⟨_,_,qj hG (orcFt hG hT) mix enSb (L:=[]) (pol:={}) (kA (by kernel_rfl)) ?_,hr⟩
 refine(congrArg Tr.run (kSb a b c d n m)).trans ?_
 repeat first|rw[k5 (by first|(simp only[kD,Bool.or_eq_true,kE,kH,Nat.blt_eq,kI,kJ,kK,kM];omega)|exact decP_iff.2 ⟨rfl,trivial⟩|exact decP_iff.2 rfl|exact kF rfl|decide)]|rw[k6 (by first|(simp only[Bool.and_eq_false_iff,Bool.not_eq_false',kE,kM];omega)|exact congrArg (!·) (kF rfl)|decide)]
 rw[k7]
 rfl
include hG in
theorem gkMu (hT:qp G):qc prog G 162 gMu:=by
 intro args hs K y h
 unfold gMu at h
 split at h
 case h_2=>cases h
 rename_i a n b n' c m d m'
 obtain⟨hc,hr⟩:=k8 h
 obtain⟨⟨a0,b0,c0,d0,he⟩,h1,h2,h3⟩:=decP_iff.1 hc
 cases he
 refine⟨_,_,qj hG (orcFt hG hT) mix enMu (L:=[]) (pol:={}) (kA (by kernel_rfl)) ?_,hr⟩
 refine(congrArg Tr.run (kMu a b c d n m)).trans ?_
 simp only[mx4]
 repeat first|rw[k5 (by first|(simp only[kD,Bool.or_eq_true,kE,kH,Nat.blt_eq,kI,kJ,kK,kM];omega)|exact decP_iff.2 ⟨rfl,trivial⟩|exact decP_iff.2 rfl|exact kF rfl|decide)]|rw[k6 (by first|(simp only[Bool.and_eq_false_iff,Bool.not_eq_false',kE,kM];omega)|exact congrArg (!·) (kF rfl)|decide)]
 rw[k7]
 rfl
include hG in
theorem gkSq (hT:qp G):qc prog G 193 gSq:=by
 intro args hs K y h
 unfold gSq at h
 split at h
 case h_2=>cases h
 rename_i a n b m
 obtain⟨hc,hr⟩:=k8 h
 obtain⟨rfl,h1,h2⟩:=decP_iff.1 hc
 have lg0':(Int.natAbs (0:Int)).log2=0:=by decide
 by_cases g:hasB (qk a b) ((0:Int):Rat)=true
 ·have g':(qk a b).lo<=0/\0<=(qk a b).hi:=hasB_iff.1 g
  refine⟨_,_,(qj hG (.cons (gkHs hG hT) (.cons (gk71 hG) (.cons (gk43 hG hT) (.cons (gkFt hG hT) (.cons (gkAr hG hT) .nil))))) mix enSq (L:=[]) (pol:={}) (kA (by kernel_rfl)) (r:=.agg [.q ((0:Int):Rat) 1,.q (mxR ((qk a b).lo*(qk a b).lo) ((qk a b).hi*(qk a b).hi)) (n+n)]) (hs':=[]) ?_).le (rle_of_vle (fun _=>rfl) (fun _=>rfl) (VLe.agg (qM (qH (m:=n+n) (by omega)) (qM (.refl _) vll0)))) (.refl _),?_⟩
  ·refine(congrArg Tr.run (kSq a b n)).trans ?_
   simp only[mx2,qP,lg0']
   repeat first|rw[k5 (by first|(simp only[kD,Bool.or_eq_true,kE,kH,Nat.blt_eq,kI,kJ,kK,kM];omega)|exact g|exact decP_iff.2 ⟨rfl,trivial⟩|exact decP_iff.2 rfl|exact kF rfl|decide)]|rw[k6 (by first|(simp only[Bool.and_eq_false_iff,Bool.not_eq_false',kE,kM];omega)|exact g|exact congrArg (!·) (kF rfl)|decide)]
   rw[k7]
  ·rw[show(sqS (qk a b)).lo=((0:Int):Rat)from if_pos g']at hr
   exact hr
 ·have g':¬ ((qk a b).lo<=0/\0<=(qk a b).hi):=fun h=>g (hasB_iff.2 h)
  refine⟨_,_,qj hG (.cons (gkHs hG hT) (.cons (gk71 hG) (.cons (gk43 hG hT) (.cons (gkFt hG hT) (.cons (gkAr hG hT) .nil))))) mix enSq (L:=[]) (pol:={}) (kA (by kernel_rfl)) (r:=.agg [.q (mnR ((qk a b).lo*(qk a b).lo) ((qk a b).hi*(qk a b).hi)) (n+n),.q (mxR ((qk a b).lo*(qk a b).lo) ((qk a b).hi*(qk a b).hi)) (n+n)]) (hs':=[]) ?_,?_⟩
  ·refine(congrArg Tr.run (kSq a b n)).trans ?_
   simp only[mx2,qP,lg0']
   repeat first|rw[k5 (by first|(simp only[kD,Bool.or_eq_true,kE,kH,Nat.blt_eq,kI,kJ,kK,kM];omega)|exact(by simpa using g)|exact decP_iff.2 ⟨rfl,trivial⟩|exact decP_iff.2 rfl|exact kF rfl|decide)]|rw[k6 (by first|(simp only[Bool.and_eq_false_iff,Bool.not_eq_false',kE,kM];omega)|exact(by simpa using g)|exact congrArg (!·) (kF rfl)|decide)]
   rw[k7]
  ·rw[show(sqS (qk a b)).lo=mnR ((qk a b).lo*(qk a b).lo) ((qk a b).hi*(qk a b).hi)from if_neg g']at hr
   exact hr
include hG in
theorem gkOu (hT:qp G):qc prog G 196 gOu:=by
 intro args hs K y h
 unfold gOu at h
 split at h
 case h_2=>cases h
 rename_i a n b m
 obtain⟨hc,hr⟩:=k8 h
 obtain⟨rfl,h1,h2⟩:=decP_iff.1 hc
 refine⟨_,_,qj hG (.cons (gkFt hG hT) (.cons (gkDn hG hT) (.cons (gkUp hG hT) .nil))) mix enOu (L:=[]) (pol:={}) (kA (by kernel_rfl)) ?_,hr⟩
 refine(congrArg Tr.run (kOu a b n)).trans ?_
 repeat first|rw[k5 (by first|(simp only[kD,Bool.or_eq_true,kE,kH,Nat.blt_eq,kI,kJ,kK,kM];omega)|exact decP_iff.2 ⟨rfl,trivial⟩|exact decP_iff.2 rfl|exact kF rfl|decide)]|rw[k6 (by first|(simp only[Bool.and_eq_false_iff,Bool.not_eq_false',kE,kM];omega)|exact congrArg (!·) (kF rfl)|decide)]
 rw[k7]
end
section
open Go
set_option maxRecDepth 100000
variable {G:World->(Nat->Prop)->Prop} (hG:GOk G)
def c71:Spec:=fun args hs K=>match args,hs with
 | [.i .i64 n],[]=>.br (decide (-1000000000<n)&&decide (n<1000000000)) (K (.q (n:Rat) 64) []) (.no 1)
 | _,_=>.no 1
include hG in
theorem ck71:qc Tryz.prog G 53 c71:=by
 intro args hs K x h
 unfold c71 at h
 split at h
 case h_2=>cases h
 rename_i n
 obtain⟨hc,hr⟩:=k8 h
 simp only[kD,kE]at hc
 refine⟨_,_,(pc_spec (gk71 hG) (args:=[.i .i64 n]) (r:=.q (n:Rat) (Nat.log2 n.natAbs+1)) (hs':=[]) ?_).le (q_rle rfl ?_) (.refl _),hr⟩
 ·show(Tr.br _ _ _).run=_
  rw[k5 (by simp only[kD,kE];omega)]
  rfl
 ·have h1:n.natAbs<2^63:=by omega
  by_cases h0:n.natAbs=0
  ·rw[h0];decide
  ·have:=(Nat.log2_lt h0).2 h1
   omega
def n70 (w:Nat) (xs:List Rat) (n i:Int):LS:=⟨[.nil,.lst 3 (.rats w xs),.i .i64 n,.i .i64 i],[]⟩
def x70 (w W:Nat) (xs ys:List Rat) (n i:Int):LS:=⟨[.sl 0 3 0 ys.length,.lst 3 (.rats w xs),.i .i64 n,.i .i64 i],[some ⟨3,.rats W ys⟩]⟩
def fin70 (w:Nat) (xs:List Rat):LS:=x70 w (w+64+1) xs xs (xs.length:Nat) (xs.length:Nat)
theorem mx0 (a:Nat):Nat.max a (Nat.max a 0)=a:=by
 show max a (max a 0)=a
 omega
theorem add00 (x:Rat):x+((0:Int):Rat)=x:=Rat.add_zero x
theorem getD_range_map (xs:List Rat):(List.range xs.length).map (fun j=>xs.getD j 0)=xs:=by
 apply List.ext_getElem
 ·simp
 ·intro j h1 h2
  simp[List.getElem?_eq_getElem h2]
def nz72 (y:Rat):Prop:=¬ y=0
def c72:Spec:=fun args hs K=>match args,hs with
 | [.q x n,.q y m],[]=>.br (qg (nz72 y)) (.br (Nat.ble (n+m) 800000) (K (.tup [.q (x/y) (n+m),.i .i64 0]) []) (.no 1)) (.no 1)
 | _,_=>.no 1
include hG in
theorem ck72 (hT:qp G):qc Tryz.prog G 86 c72:=by
 intro args hs K x h
 unfold c72 at h
 split at h
 case h_2=>cases h
 rename_i x n y m
 obtain⟨hc,hr⟩:=k8 h
 obtain⟨hb,hr⟩:=k8 hr
 exact⟨_,_,pc_spec (gk72 hG hT) ((k5 hb).trans ((k6 (kG (decP_iff.1 hc))).trans rfl)),hr⟩
end
section
open Go Tryz
set_option maxRecDepth 100000
variable {G:World->(Nat->Prop)->Prop} (hG:GOk G)
theorem enOn:Enters prog 197 f197 (qd f197):=⟨func197,by kernel_rfl,rfl⟩
theorem enCu:Enters prog 160 f160 (qd f160):=⟨func160,by kernel_rfl,rfl⟩
theorem enCs:Enters prog 158 f158 (qd f158):=⟨func158,by kernel_rfl,rfl⟩
theorem enCc:Enters prog 194 f194 (qd f194):=⟨func194,by kernel_rfl,rfl⟩
theorem enSn:Enters prog 159 f159 (qd f159):=⟨func159,by kernel_rfl,rfl⟩
def gOn:Spec:=evF prog [(53,g71)] [] {} f197
theorem kCu (a b:Rat) (n:Nat):evF prog [(122,g86),(121,g80),(196,gOu),(197,gOn)] [] {} f160 [spR a b n] [] ql=
 Tr.br (qg (eqN1 n n)) (.br (decide ((-72057594037927936:Int)<(-1))&&decide ((-1:Int)<=9223372036854775807)) (.br (decide ((-72057594037927936:Int)<1)&&decide ((1:Int)<=9223372036854775807)) (.br ((n+42+((-1:Int).natAbs.log2+1)).ble 400000) (.br (decide ((-72057594037927936:Int)<(-1))&&decide ((-1:Int)<=9223372036854775807)) (.br (decide ((-72057594037927936:Int)<1)&&decide ((1:Int)<=9223372036854775807)) (.br ((n+42+((Int.natAbs (1:Int)).log2+1)).ble 400000) (.ok (.ret (.agg [.q (mxR (dnR (qk a b).lo) (↑(-1:Int):Rat)) ((n+42).max ((-1:Int).natAbs.log2+1)),.q (mnR (upR (qk a b).hi) (↑(1:Int):Rat)) ((n+42).max ((Int.natAbs (1:Int)).log2+1))]) [])) (.no 1)) (.no 1)) (.no 1)) (.no 1)) (.no 1)) (.no 1)) (.no 1):=by kernel_rfl
def okC (a b:Rat) (n m:Nat):Prop:=eqN1 n m/\cutL (qk a b)<=cutH (qk a b)
def gCu:Spec:=fun args hs K=>match args,hs with
 | [.agg [.q a n,.q b m]],[]=>.br (qg (okC a b n m)) (K (.agg [.q (cutL (qk a b)) 300,.q (cutH (qk a b)) 300]) []) (.no 1)
 | _,_=>.no 1
def gCc:Spec:=fun args hs K=>match args,hs with
 | [.q a n],[]=>.br (qg (nz72 (1+a))) (.br (Nat.ble n 50000) (K (.q (cf a) (2*n+4)) []) (.no 1)) (.no 1)
 | _,_=>.no 1
theorem kCc (a:Rat) (n:Nat):evF prog [(53,g71),(25,g21),(54,g29),(86,c72)] [] {} f194 [.q a n] [] ql=
 Tr.br (decide ((-72057594037927936:Int)<1)&&decide ((1:Int)<=9223372036854775807)) (.br (((Int.natAbs (1:Int)).log2+1+n+1).ble 800000) (.br (decide ((-72057594037927936:Int)<1)&&decide ((1:Int)<=9223372036854775807)) (.br (((Int.natAbs (1:Int)).log2+1+n+1).ble 800000) (.br (qg (nz72 ((↑(1:Int):Rat)+a))) (.br (((Int.natAbs (1:Int)).log2+1+n+1+((Int.natAbs (1:Int)).log2+1+n+1)).ble 800000) (.ok (.ret (.q (((↑(1:Int):Rat)-a)/((↑(1:Int):Rat)+a)) ((Int.natAbs (1:Int)).log2+1+n+1+((Int.natAbs (1:Int)).log2+1+n+1))) [])) (.no 1)) (.no 1)) (.no 1)) (.no 1)) (.no 1)) (.no 1):=by kernel_rfl
def gCs:Spec:=fun args hs K=>match args,hs with
 | [.agg [.q a n,.q b m]],[]=>.br (qg (eqN1 n m)) (K (.agg [.q (cosS (qk a b)).lo (4*n+4),.q (cosS (qk a b)).hi (4*n+4)]) []) (.no 1)
 | _,_=>.no 1
theorem kCs (a b:Rat) (n:Nat):evF prog [(193,gSq),(194,gCc)] [] {} f158 [spR a b n] [] ql=
 Tr.br (qg (eqN1 n n)) (.br (qg (nz72 ((1:Rat)+(sqS (qk a b)).hi))) (.br ((n+n).ble 50000) (.br (qg (nz72 ((1:Rat)+(sqS (qk a b)).lo))) (.br ((n+n).ble 50000) (.ok (.ret (.agg [.q (cf (sqS (qk a b)).hi) ((2:Nat)*(n+n)+4),.q (cf (sqS (qk a b)).lo) ((2:Nat)*(n+n)+4)]) [])) (.no 1)) (.no 1)) (.no 1)) (.no 1)) (.no 1):=by kernel_rfl
def bSn:Code:=(qi (qd f159)).getD 0 .skip
def polSn:Pol:={live:=[(4,[1,2,3,21,22,23])]}
def OSn:Orc:=[(195,gHs),(157,g134),(155,gOf),(53,c71),(135,g50),(125,gJn)]
def zSp:PV:=.agg [.agg [.bl false,.s ⟨#[]⟩,.s ⟨#[]⟩],.agg [.bl false,.s ⟨#[]⟩,.s ⟨#[]⟩]]
def stSn (T R:Sp) (n k:Nat) (i:Int):LS:=⟨[.ptr 0 6 0 0 [],.ptr 1 6 0 0 [],.ptr 2 6 0 0 [],.lst 1 (.ints .i64 [-1,1]),.i .i64 2,.i .i64 i],[some ⟨6,.vals [spR T.lo T.hi n]⟩,some ⟨6,.vals [zSp]⟩,some ⟨6,.vals [spR R.lo R.hi k]⟩]⟩
theorem tSn0 (T R:Sp):(qe prog OSn [] polSn f159.ntmps 0 [1,2,3,21,22,23] bSn (stSn T R 260 1044 0)).run=
 (Tr.br (hasB (qk T.lo T.hi) (↑(-1:Int):Rat)) (.br (qg (eqN [.agg [.q R.lo 1044,.q R.hi 1044],.agg [.q (↑(-1:Int):Rat) 64,.q (↑(-1:Int):Rat) 64]] (1044:Nat) (64:Nat))) (.ok (.out .normal (LS.mk [.ptr 0 6 0 0 [],.ptr 1 6 0 0 [],.ptr 2 6 0 0 [],.lst 1 (.ints .i64 [(-1:Int),(1:Int)]),.i .i64 2,.i .i64 1] [some (.mk 6 (.vals [.agg [.q T.lo 260,.q T.hi 260]])),some (.mk 6 (.vals [.agg [.agg [.bl false,.s (ByteArray.mk #[]),.s (ByteArray.mk #[])],.agg [.bl false,.s (ByteArray.mk #[]),.s (ByteArray.mk #[])]]])),some (.mk 6 (.vals [.agg [.q (joinS (qk R.lo R.hi) (qk (↑(-1:Int):Rat) (↑(-1:Int):Rat))).lo 1044,.q (joinS (qk R.lo R.hi) (qk (↑(-1:Int):Rat) (↑(-1:Int):Rat))).hi 1044]]))]))) (.no 1)) (.ok (.out .normal (LS.mk [.ptr 0 6 0 0 [],.ptr 1 6 0 0 [],.ptr 2 6 0 0 [],.lst 1 (.ints .i64 [(-1:Int),(1:Int)]),.i .i64 2,.i .i64 1] [some (.mk 6 (.vals [.agg [.q T.lo 260,.q T.hi 260]])),some (.mk 6 (.vals [.agg [.agg [.bl false,.s (ByteArray.mk #[]),.s (ByteArray.mk #[])],.agg [.bl false,.s (ByteArray.mk #[]),.s (ByteArray.mk #[])]]])),some (.mk 6 (.vals [.agg [.q R.lo 1044,.q R.hi 1044]]))])))).run:=by kernel_rfl
theorem tSn1 (T R:Sp):(qe prog OSn [] polSn f159.ntmps 0 [1,2,3,21,22,23] bSn (stSn T R 260 1044 1)).run=
 (Tr.br (hasB (qk T.lo T.hi) (↑(1:Int):Rat)) (.br (qg (eqN [.agg [.q R.lo 1044,.q R.hi 1044],.agg [.q (↑(1:Int):Rat) 64,.q (↑(1:Int):Rat) 64]] (1044:Nat) (64:Nat))) (.ok (.out .normal (LS.mk [.ptr 0 6 0 0 [],.ptr 1 6 0 0 [],.ptr 2 6 0 0 [],.lst 1 (.ints .i64 [(-1:Int),(1:Int)]),.i .i64 2,.i .i64 2] [some (.mk 6 (.vals [.agg [.q T.lo 260,.q T.hi 260]])),some (.mk 6 (.vals [.agg [.agg [.bl false,.s (ByteArray.mk #[]),.s (ByteArray.mk #[])],.agg [.bl false,.s (ByteArray.mk #[]),.s (ByteArray.mk #[])]]])),some (.mk 6 (.vals [.agg [.q (joinS (qk R.lo R.hi) (qk (↑(1:Int):Rat) (↑(1:Int):Rat))).lo 1044,.q (joinS (qk R.lo R.hi) (qk (↑(1:Int):Rat) (↑(1:Int):Rat))).hi 1044]]))]))) (.no 1)) (.ok (.out .normal (LS.mk [.ptr 0 6 0 0 [],.ptr 1 6 0 0 [],.ptr 2 6 0 0 [],.lst 1 (.ints .i64 [(-1:Int),(1:Int)]),.i .i64 2,.i .i64 2] [some (.mk 6 (.vals [.agg [.q T.lo 260,.q T.hi 260]])),some (.mk 6 (.vals [.agg [.agg [.bl false,.s (ByteArray.mk #[]),.s (ByteArray.mk #[])],.agg [.bl false,.s (ByteArray.mk #[]),.s (ByteArray.mk #[])]]])),some (.mk 6 (.vals [.agg [.q R.lo 1044,.q R.hi 1044]]))])))).run:=by kernel_rfl
theorem tSn2 (T R:Sp):(qe prog OSn [] polSn f159.ntmps 0 [1,2,3,21,22,23] bSn (stSn T R 260 1044 2)).run=
 (Tr.ok (.out (.exit 0) (LS.mk [.ptr 0 6 0 0 [],.ptr 1 6 0 0 [],.ptr 2 6 0 0 [],.lst 1 (.ints .i64 [(-1:Int),(1:Int)]),.i .i64 2,.i .i64 2] [some (.mk 6 (.vals [.agg [.q T.lo 260,.q T.hi 260]])),some (.mk 6 (.vals [.agg [.agg [.bl false,.s (ByteArray.mk #[]),.s (ByteArray.mk #[])],.agg [.bl false,.s (ByteArray.mk #[]),.s (ByteArray.mk #[])]]])),some (.mk 6 (.vals [.agg [.q R.lo 1044,.q R.hi 1044]]))]))).run:=by kernel_rfl
theorem kSn (T R0 R:Sp) (a b:Rat):(evF prog OSn [(4,qy (stSn T R0 260 1044 0) (.exit 0) (stSn T R 260 1044 2))] polSn f159 [spR a b 260] [] ql).run=
 (Tr.br (qg (eqN [.agg [.q a 260,.q b 260],.agg [.q a 260,.q b 260]] (260:Nat) (260:Nat))) (.br (qg (eqN [.agg [.q (qB false (joinS (qk a b) (qk a b)).lo) 1044,.q (qB false (joinS (qk a b) (qk a b)).lo) 1044],.agg [.q (qB false (joinS (qk a b) (qk a b)).hi) 1044,.q (qB false (joinS (qk a b) (qk a b)).hi) 1044]] (1044:Nat) (1044:Nat))) (.br (qg (isLS (LS.mk [.ptr 0 6 0 0 [],.ptr 1 6 0 0 [],.ptr 2 6 0 0 [],.lst 1 (.ints .i64 [(-1:Int),(1:Int)]),.i .i64 2,.i .i64 0] [some (.mk 6 (.vals [.agg [.q T.lo 260,.q T.hi 260]])),some (.mk 6 (.vals [.agg [.agg [.bl false,.s (ByteArray.mk #[]),.s (ByteArray.mk #[])],.agg [.bl false,.s (ByteArray.mk #[]),.s (ByteArray.mk #[])]]])),some (.mk 6 (.vals [.agg [.q R0.lo 1044,.q R0.hi 1044]]))]) (LS.mk [.ptr 0 6 0 0 [],.ptr 1 6 0 0 [],.ptr 2 6 0 0 [],.lst 1 (.ints .i64 [(-1:Int),(1:Int)]),.i .i64 2,.i .i64 0] [some (.mk 6 (.vals [.agg [.q (joinS (qk a b) (qk a b)).lo 260,.q (joinS (qk a b) (qk a b)).hi 260]])),some (.mk 6 (.vals [.agg [.agg [.bl false,.s (ByteArray.mk #[]),.s (ByteArray.mk #[])],.agg [.bl false,.s (ByteArray.mk #[]),.s (ByteArray.mk #[])]]])),some (.mk 6 (.vals [.agg [.q (joinS (qk (qB false (joinS (qk a b) (qk a b)).lo) (qB false (joinS (qk a b) (qk a b)).lo)) (qk (qB false (joinS (qk a b) (qk a b)).hi) (qB false (joinS (qk a b) (qk a b)).hi))).lo 1044,.q (joinS (qk (qB false (joinS (qk a b) (qk a b)).lo) (qB false (joinS (qk a b) (qk a b)).lo)) (qk (qB false (joinS (qk a b) (qk a b)).hi) (qB false (joinS (qk a b) (qk a b)).hi))).hi 1044]]))]))) (.ok (.ret (.agg [.q R.lo 1044,.q R.hi 1044]) [])) (.no 1)) (.no 1)) (.no 1)).run:=by kernel_rfl
theorem join_self (A:Sp):joinS A A=A:=by
 obtain⟨a,b,h⟩:=A
 unfold joinS mnR mxR
 simp[Rat.le_refl]
theorem fitS_self (x:Rat):qk x x=ofS x:=by unfold qk;rw[dif_pos Rat.le_refl];rfl
theorem sz_unit {z:Rat} (hd:z.den<=1000000) (h1 : -1<=z) (h2:z<=1):sz z<=300:=by
 have a1:z.num<=z.den:=by
  have:=(Rat.le_iff _ _).1 h2
  have e:(1:Rat).num=1:=rfl
  have e2:(1:Rat).den=1:=rfl
  rw[e,e2]at this
  omega
 have a2 : -(z.den:Int)<=z.num:=by
  have:=(Rat.le_iff _ _).1 h1
  have e:(-1:Rat).num = -1:=rfl
  have e2:(-1:Rat).den=1:=rfl
  rw[e,e2]at this
  omega
 have lg:∀ k:Nat,k<=1000000->Nat.log2 k<=20:=fun k hk=>by
  by_cases h0:k=0
  ·subst h0;decide
  ·have:=(Nat.log2_lt (k:=20) h0).2 (by omega)
   omega
 have b1:=lg z.num.natAbs (by omega)
 have b2:=lg z.den hd
 unfold sz
 omega
theorem dn_den (x:Rat):(dnR x).den<=1000000:=by
 rw[dnR,qh,<-mk_mil,mkz_den (by decide)]
 exact Nat.div_le_self _ _
theorem up_den (x:Rat):(upR x).den<=1000000:=by
 rw[upR,qh,neg_den];exact dn_den _
theorem cut_bd {A:Sp} (h:cutL A<=cutH A):(-1<=cutL A/\cutL A<=1)/\(-1<=cutH A/\cutH A<=1):=by
 have h1 : -1<=cutL A:=by rw[cutL,qh];exact mxR_r _ _
 have h2:cutH A<=1:=by rw[cutH,qh];exact mnR_r _ _
 exact⟨⟨h1,Rat.le_trans h h2⟩,⟨Rat.le_trans h1 h,h2⟩⟩
theorem cutL_sz {A:Sp} (h:cutL A<=cutH A):sz (cutL A)<=300:=by
 obtain⟨h1,h2⟩:=(cut_bd h).1
 refine sz_unit ?_ h1 h2
 rw[cutL,qh,mxR]
 split
 ·exact dn_den _
 ·decide
theorem cutH_sz {A:Sp} (h:cutL A<=cutH A):sz (cutH A)<=300:=by
 obtain⟨h1,h2⟩:=(cut_bd h).2
 refine sz_unit ?_ h1 h2
 rw[cutH,qh,mnR]
 split
 ·exact up_den _
 ·decide
include hG in
theorem gkOn:qc prog G 197 gOn:=spec_ev hG (.cons (gk71 hG) .nil) mix enOn (fun _=>kA (by kernel_rfl))
include hG in
theorem gkCu (hT:qp G):qc prog G 160 gCu:=by
 intro args hs K y h
 unfold gCu at h
 split at h
 case h_2=>cases h
 rename_i a n b m
 obtain⟨hc,hr⟩:=k8 h
 obtain⟨⟨rfl,h1,h2⟩,ho⟩:=decP_iff.1 hc
 refine⟨_,_,(qj hG (.cons (gk86 hG hT) (.cons (gk80 hG hT) (.cons (gkOu hG hT) (.cons (gkOn hG) .nil)))) mix enCu (L:=[]) (pol:={}) (kA (by kernel_rfl)) (r:=.agg [.q (mxR (dnR (qk a b).lo) (-1)) ((n+42).max ((-1:Int).natAbs.log2+1)),.q (mnR (upR (qk a b).hi) 1) ((n+42).max ((Int.natAbs (1:Int)).log2+1))]) (hs':=[]) ?_).le
  (rle_of_vle (fun _=>rfl) (fun _=>rfl) (VLe.agg (qM (?_:VLe _ (.q (cutL (qk a b)) 300)) (qM (?_:VLe _ (.q (cutH (qk a b)) 300)) vll0)))) (.refl _),hr⟩
 ·refine(congrArg Tr.run (kCu a b n)).trans ?_
  have l1:(-1:Int).natAbs.log2=0:=by decide
  have l2:(Int.natAbs (1:Int)).log2=0:=by decide
  repeat first|rw[k5 (by first|(simp only[kD,Bool.or_eq_true,kE,kH,Nat.blt_eq,kI,kJ,kK,kM];omega)|exact decP_iff.2 ⟨rfl,h1,h2⟩|(rw[l1,kH];omega)|(rw[l2,kH];omega)|exact decP_iff.2 ⟨rfl,trivial⟩|exact decP_iff.2 rfl|exact kF rfl|decide)]|rw[k6 (by first|(simp only[Bool.and_eq_false_iff,Bool.not_eq_false',kE,kM];omega)|exact decP_iff.2 ⟨rfl,h1,h2⟩|(rw[l1,kH];omega)|(rw[l2,kH];omega)|exact congrArg (!·) (kF rfl)|decide)]
  rw[k7]
  rfl
 ·rw[show mxR (dnR (qk a b).lo) (-1)=cutL (qk a b) by rw[cutL,qh]]
  exact vle_qq (cutL_sz ho)
 ·rw[show mnR (upR (qk a b).hi) 1=cutH (qk a b) by rw[cutH,qh]]
  exact vle_qq (cutH_sz ho)
include hG in
theorem gkCc (hT:qp G):qc prog G 194 gCc:=by
 intro args hs K y h
 unfold gCc at h
 split at h
 case h_2=>cases h
 rename_i a n
 obtain⟨hz,hr⟩:=k8 h
 obtain⟨hc,hr⟩:=k8 hr
 rw[kH]at hc
 have l2:(Int.natAbs (1:Int)).log2=0:=by decide
 refine⟨_,_,(qj hG (.cons (gk71 hG) (.cons (gk21 hG hT) (.cons (gk29 hG hT) (.cons (ck72 hG hT) .nil)))) mix enCc (L:=[]) (pol:={}) (kA (by kernel_rfl)) (r:=.q (cf a) (0+1+n+1+(0+1+n+1))) (hs':=[]) ?_).le (q_rle rfl (by omega)) (.refl _),hr⟩
 refine(congrArg Tr.run (kCc a n)).trans ?_
 simp only[l2]
 repeat first|rw[k5 (by first|(simp only[kD,Bool.or_eq_true,kE,kH,Nat.blt_eq,kI,kJ,kK,kM];omega)|exact hz|exact decP_iff.2 ⟨rfl,trivial⟩|exact decP_iff.2 rfl|exact kF rfl|decide)]|rw[k6 (by first|(simp only[Bool.and_eq_false_iff,Bool.not_eq_false',kE,kM];omega)|exact hz|exact congrArg (!·) (kF rfl)|decide)]
 rw[k7]
 rfl
theorem nz_1 {a:Rat} (h:0<=a):qg (nz72 (1+a))=true:=by
 refine decP_iff.2 ?_
 intro e
 have:(0:Rat)<1+a:=by grind
 rw[e]at this
 exact absurd this (by decide)
include hG in
theorem gkCs (hT:qp G):qc prog G 158 gCs:=by
 intro args hs K y h
 unfold gCs at h
 split at h
 case h_2=>cases h
 rename_i a n b m
 obtain⟨hc,hr⟩:=k8 h
 obtain⟨rfl,h1,h2⟩:=decP_iff.1 hc
 have p1:=nz_1 (show 0<=(sqS (qk a b)).lo from sqL_nn (qk a b))
 have p2:=nz_1 (Rat.le_trans (sqL_nn (qk a b)) (sqS (qk a b)).ok)
 refine⟨_,_,(qj hG (.cons (gkSq hG hT) (.cons (gkCc hG hT) .nil)) mix enCs (L:=[]) (pol:={}) (kA (by kernel_rfl)) (r:=.agg [.q (cosS (qk a b)).lo (2*(n+n)+4),.q (cosS (qk a b)).hi (2*(n+n)+4)]) (hs':=[]) ?_),by rw[show 2*(n+n)+4=4*n+4 by omega];exact hr⟩
 refine(congrArg Tr.run (kCs a b n)).trans ?_
 rw[k5 hc,k5 p2,k5 (by rw[kH];omega),k5 p1,k5 (by rw[kH];omega),k7]
 rfl
include hG in
theorem orcSn (hT:qp G):OrcOK prog G OSn:=.cons (gkHs hG hT) (.cons (gk134 hG hT) (.cons (gkOf hG hT) (.cons (ck71 hG) (.cons (gk50 hG hT) (.cons (gkJn hG hT) .nil)))))
include hG in
theorem goesSn (hT:qp G) (T:Sp):Goes (Rnd prog G f159.ntmps 0 [1,2,3,21,22,23] bSn) (stSn T (sinS0 T) 260 1044 0) (.exit 0) (stSn T (sinS T) 260 1044 2):=by
 have r0:Rnd prog G f159.ntmps 0 [1,2,3,21,22,23] bSn (stSn T (sinS0 T) 260 1044 0) .normal (stSn T (sinS1 T) 260 1044 1):=by
  refine qb hG (orcSn hG hT) mix (L:=[]) (pol:=polSn) (O:=OSn) (kA (by kernel_rfl)) (Nat.zero_le _) ?_
  rw[tSn0]
  simp only[qP,fitS_self]
  by_cases h:hasB T ((-1:Int):Rat)=true
  ·rw[k5 h,k5 (decP_iff.2 ⟨⟨_,_,_,_,rfl⟩,by omega,by omega,by omega⟩),k7,show sinS1 T=joinS (sinS0 T) (ofS ((-1:Int):Rat))from if_pos h]
   rfl
  ·rw[k6 (by simpa using h),k7,show sinS1 T=sinS0 T from if_neg h]
   rfl
 have r1:Rnd prog G f159.ntmps 0 [1,2,3,21,22,23] bSn (stSn T (sinS1 T) 260 1044 1) .normal (stSn T (sinS T) 260 1044 2):=by
  refine qb hG (orcSn hG hT) mix (L:=[]) (pol:=polSn) (O:=OSn) (kA (by kernel_rfl)) (Nat.zero_le _) ?_
  rw[tSn1]
  simp only[qP,fitS_self]
  by_cases h:hasB T ((1:Int):Rat)=true
  ·rw[k5 h,k5 (decP_iff.2 ⟨⟨_,_,_,_,rfl⟩,by omega,by omega,by omega⟩),k7,show sinS T=joinS (sinS1 T) (ofS ((1:Int):Rat))from if_pos h]
   rfl
  ·rw[k6 (by simpa using h),k7,show sinS T=sinS1 T from if_neg h]
   rfl
 refine .more _ _ _ _ r0 (.more _ _ _ _ r1 (.last _ _ _ ?_ (by simp)))
 refine qb hG (orcSn hG hT) mix (L:=[]) (pol:=polSn) (O:=OSn) (kA (by kernel_rfl)) (Nat.zero_le _) ?_
 rw[tSn2,k7]
 rfl
def gSn:Spec:=fun args hs K=>match args,hs with
 | [.agg [.q a 260,.q b 260]],[]=>K (.agg [.q (sinS (qk a b)).lo 1044,.q (sinS (qk a b)).hi 1044]) []
 | _,_=>.no 1
include hG in
theorem gkSn (hT:qp G):qc prog G 159 gSn:=by
 intro args hs K y h
 unfold gSn at h
 split at h
 case h_2=>cases h
 rename_i a b
 have g:=goesSn hG hT (qk a b)
 refine⟨_,_,qj hG (orcSn hG hT) mix enSn (hs:=[]) (pol:=polSn) (L:=[(4,qy (stSn (qk a b) (sinS0 (qk a b)) 260 1044 0) (.exit 0) (stSn (qk a b) (sinS (qk a b)) 260 1044 2))]) (qN (b:=bSn) (live:=[1,2,3,21,22,23]) (m:=0) (by kernel_rfl) (by kernel_rfl) (by kernel_rfl) (qv g)) ?_,h⟩
 refine(kSn (qk a b) (sinS0 (qk a b)) (sinS (qk a b)) a b).trans ?_
 simp only[join_self,fitS_self]
 rw[k5 (decP_iff.2 ⟨⟨_,_,_,_,rfl⟩,by omega,by omega,by omega⟩),k5 (decP_iff.2 ⟨⟨_,_,_,_,rfl⟩,by omega,by omega,by omega⟩)]
 refine Eq.trans (k5 ?_) ?_
 ·exact decP_iff.2 rfl
 ·rw[k7]
end
section
open Go Tryz
set_option maxRecDepth 100000
variable {G:World->(Nat->Prop)->Prop} (hG:GOk G)
def isB (F:Sp->Sp->Sp) (args:List PV) (n m:Nat) (r:Sp) (w:Nat):Prop:=(∃ A B:Sp,args=[spR A.lo A.hi n,spR B.lo B.hi m]/\r=F A B)/\1<=n/\1<=m/\n+m<w/\w<=50000
def isU (F:Sp->Sp) (args:List PV) (n:Nat) (r:Sp):Prop:=∃ A:Sp,args=[spR A.lo A.hi n]/\r=F A
def isC (args:List PV) (n:Nat) (r:Sp) (w:Nat):Prop:=(∃ A:Sp,args=[spR A.lo A.hi n]/\r=cutS A/\cutL A<=cutH A)/\1<=n/\n<=25000/\300<=w
abbrev Tab2:=Nat->Nat->Option (Sp × Nat)
abbrev Tab1:=Nat->Option (Sp × Nat)
def vB (F:Sp->Sp->Sp) (tab:Tab2):Spec:=fun args hs K=>match args,hs with
 | [.agg [.q a n,.q b n'],.agg [.q c m,.q d m']],[]=>match tab n m with
  | some (r,w)=>.br (qg (isB F [.agg [.q a n,.q b n'],.agg [.q c m,.q d m']] n m r w)) (K (.agg [.q r.lo w,.q r.hi w]) []) (.no 1)
  | none=>.no 1
 | _,_=>.no 1
def vU (F:Sp->Sp) (r:Sp) (w:Nat):Spec:=fun args hs K=>match args,hs with
 | [.agg [.q a 260,.q b n']],[]=>.br (qg (isU F [.agg [.q a 260,.q b n']] 260 r)) (K (.agg [.q r.lo w,.q r.hi w]) []) (.no 1)
 | _,_=>.no 1
def vCut (tab:Tab1):Spec:=fun args hs K=>match args,hs with
 | [.agg [.q a n,.q b n']],[]=>match tab n with
  | some (r,w)=>.br (qg (isC [.agg [.q a n,.q b n']] n r w)) (K (.agg [.q r.lo w,.q r.hi w]) []) (.no 1)
  | none=>.no 1
 | _,_=>.no 1
def tb (n m:Nat) (r:Sp) (w:Nat) (t:Tab2):Tab2:=fun a b=>match Nat.beq a n&&Nat.beq b m with|true=>some (r,w)|false=>t a b
def tn:Tab2:=fun _ _=>none
def tc (n:Nat) (r:Sp) (w:Nat) (t:Tab1):Tab1:=fun a=>match Nat.beq a n with|true=>some (r,w)|false=>t a
theorem enSp:Enters prog 123 f123 (qd f123):=⟨func123,by kernel_rfl,rfl⟩
def bSp:Code:=(qi (qd f123)).getD 0 .skip
def polSp:Pol:={live:=[(8,[1,8,9,43,44,45])]}
def nowP (l:Lz) (W:Nat):PV:=.agg [.agg [.q l.X.lo W,.q l.X.hi W],.agg [.q l.Y.lo W,.q l.Y.hi W],.agg [.q l.C.lo 300,.q l.C.hi 300],.agg [.q l.S.lo 301,.q l.S.hi 301]]
def spsC (n:Nat) (Q:Nat->Sp):Cont:=.fn n (fun j=>.agg [.q (Q j).lo 260,.q (Q j).hi 260])
def stSp (n:Nat) (Q:Nat->Sp) (lk:Nat->Lk) (l:Lz) (W:Nat) (o:PV) (bs:List (Option Blk)) (i:Int):LS:=
 ⟨[.lst 6 (spsC n Q),.ptr 0 24 0 0 [],o,.lst 16 (.fn n (fun j=>lkPV (lk j))),.i .i64 n,.i .i64 i],some ⟨24,.vals [nowP l W]⟩::bs⟩
def RSp (W:Nat) (c s m1 m2 d1 C m3 m4 d2 S m5 m6 x y:Sp):Orc:=
 [(155,gOf),(158,vU cosS c 1044),(159,vU sinS s 1045),(160,vCut (tc 2901 C 300 (tc 2902 S 301 (fun _=>none)))),(161,vB subS (tb 1401 1402 d1 2901 tn)),
  (162,vB mulS (tb 300 1044 m1 1401 (tb 301 1045 m2 1402 (tb 301 1044 m3 1403 (tb 300 1045 m4 1404 (tb 64 300 m5 401 (tb 64 301 m6 402 tn))))))),
  (163,vB addS (tb 1403 1404 d2 2902 (tb W 401 x (W+403) (tb W 402 y (W+403) tn))))]
def wdSp:Nat->Nat
 | 0=>260
 | 1=>663
 | 2=>1066
 | _=>1469
def oSp:Nat->PV
 | 0=>.nil
 | k+1=>.sl 1 24 0 (k+1)
def lsSp (P:Nat->Lz) (k:Nat):List PV:=(List.range k).map fun j=>nowP (P j) (wdSp j)
def bkSp (P:Nat->Lz):Nat->List (Option Blk)
 | 0=>[]
 | k+1=>[some ⟨24,.vals (lsSp P (k+1))⟩]
def stSpk (n:Nat) (Q:Nat->Sp) (lk:Nat->Lk) (P:Nat->Lz) (l:Lz) (k:Nat) (i:Int):LS:=stSp n Q lk l (wdSp k) (oSp k) (bkSp P k) i
def stSpn (n:Nat) (Q:Nat->Sp) (lk:Nat->Lk) (P:Nat->Lz) (l l':Lz) (x y:Sp) (k:Nat) (i:Int):LS:=stSp n Q lk ⟨x,y,l'.C,l'.S⟩ (wdSp (k+1)) (oSp (k+1)) [some ⟨24,.vals (lsSp P k++[nowP l' (wdSp k)])⟩] i
theorem lsSp_s (P:Nat->Lz) (k:Nat):lsSp P (k+1)=lsSp P k++[nowP (P k) (wdSp k)]:=by
 unfold lsSp
 rw[List.range_succ,List.map_append]
 rfl
theorem wdSp_bd (k:Nat):1<=wdSp k/\wdSp k<=1469:=by unfold wdSp;split<;>exact⟨by decide,by decide⟩
def pvSp (A:Sp) (w:Nat):PV:=.agg [.q A.lo w,.q A.hi w]
def puSp (x:Rat):PV:=.agg [.q x 64,.q x 64]
def brSp (p:Prop) (t:Tr):Tr:=.br (qg p) t (.no 1)
def trSpk (n:Nat) (Q:Sp) (L:Rat) (l:Lz) (W:Nat) (i:Int) (c s m1 m2 d1 C m3 m4 d2 S m5 m6 x y:Sp) (nt ex:LS):Tr:=
 .br (decide (i<(n:Int))) (.br (decide ((0:Int)<=i)&&decide (i<(n:Int))) (.br (decide ((0:Int)<=i)&&decide (i<(n:Int))) (brSp (isU cosS [pvSp Q 260] 260 c) (.br (decide ((0:Int)<=i)&&decide (i<(n:Int))) (brSp (isU sinS [pvSp Q 260] 260 s)
  (brSp (isB mulS [pvSp l.C 300,pvSp c 1044] 300 1044 m1 1401) (brSp (isB mulS [pvSp l.S 301,pvSp s 1045] 301 1045 m2 1402) (brSp (isB subS [pvSp m1 1401,pvSp m2 1402] 1401 1402 d1 2901) (brSp (isC [pvSp d1 2901] 2901 C 300)
  (brSp (isB mulS [pvSp l.S 301,pvSp c 1044] 301 1044 m3 1403) (brSp (isB mulS [pvSp l.C 300,pvSp s 1045] 300 1045 m4 1404) (brSp (isB addS [pvSp m3 1403,pvSp m4 1404] 1403 1404 d2 2902) (brSp (isC [pvSp d2 2902] 2902 S 301)
  (brSp (isB mulS [puSp L,pvSp C 300] 64 300 m5 401) (brSp (isB addS [pvSp l.X W,pvSp m5 401] W 401 x (W+403)) (brSp (isB mulS [puSp L,pvSp S 301] 64 301 m6 402) (brSp (isB addS [pvSp l.Y W,pvSp m6 402] W 402 y (W+403))
  (.br (ovf (i+1)) (.ok (.out .normal nt)) (.no 1))))))))))))))) (.no 1))) (.no 1)) (.no 1)) (.ok (.out (.exit 0) ex))
theorem tSp (n:Nat) (Q:Nat->Sp) (lk:Nat->Lk) (P:Nat->Lz) (l:Lz) (i:Int) (c s m1 m2 d1 C m3 m4 d2 S m5 m6 x y:Sp):∀ k,k<3->(qe prog (RSp (wdSp k) c s m1 m2 d1 C m3 m4 d2 S m5 m6 x y) [] polSp f123.ntmps 0 [1,8,9,43,44,45] bSp (stSpk n Q lk P l k i)).run=
  (trSpk n (Q i.toNat) (lk i.toNat).len l (wdSp k) i c s m1 m2 d1 C m3 m4 d2 S m5 m6 x y (stSpn n Q lk P l ⟨l.X,l.Y,C,S⟩ x y k (i+1)) (stSpk n Q lk P l k i)).run
 | 0,_=>by kernel_rfl
 | 1,_=>by kernel_rfl
 | 2,_=>by kernel_rfl
 | k+3,h=>by omega
theorem tSpx (n:Nat) (Q:Nat->Sp) (lk:Nat->Lk) (P:Nat->Lz) (l:Lz) (i:Int):∀ k,k<4->(qe prog [] [] polSp f123.ntmps 0 [1,8,9,43,44,45] bSp (stSpk n Q lk P l k i)).run=
  (Tr.br (decide (i<(n:Int))) (.br (decide ((0:Int)<=i)&&decide (i<(n:Int))) (.br (decide ((0:Int)<=i)&&decide (i<(n:Int))) (.no 1) (.no 1)) (.no 1)) (.ok (.out (.exit 0) (stSpk n Q lk P l k i)))).run
 | 0,_=>by kernel_rfl
 | 1,_=>by kernel_rfl
 | 2,_=>by kernel_rfl
 | 3,_=>by kernel_rfl
 | k+4,h=>by omega
def gC0 (F:Rat->Rat) (w:Nat):Spec:=fun args hs K=>match args,hs with
 | [.agg [.bl false,.q t 64]],[]=>K (.q (F t) w) []
 | _,_=>.no 1
def gO0:Spec:=fun args hs K=>match args,hs with
 | [.q z 64],[]=>K (.agg [.q z 260,.q z 260]) []
 | [.q z 300],[]=>K (.agg [.q z 300,.q z 300]) []
 | [.q z 301],[]=>K (.agg [.q z 301,.q z 301]) []
 | _,_=>.no 1
def OSp (A:Am) (k:Int):Orc:=[(156,gC0 (qQ false) 300),(157,gC0 (qB false) 301),(57,cst [qm A,.i .i64 k] True (.i .i64 0)),(155,gO0)]
theorem eSp (A:Am) (Q:Nat->Sp) (P:Nat->Lz) (l:Lz):∀ k,1<=k->k<4->(evF prog (OSp A A.n) [(8,qy (stSpk A.n Q A.lk P (lz0 ⟨A.bx,A.by_,false,A.t⟩) 0 0) (.exit 0) (stSpk A.n Q A.lk P l k k))] polSp f123 [qm A,.lst 6 (spsC A.n Q)] [] ql).run=
  (brSp (isA [qm A,.i .i64 A.n] True [qm A,.i .i64 A.n]) (brSp (isLS (stSpk A.n Q A.lk P (lz0 ⟨A.bx,A.by_,false,A.t⟩) 0 0) (stSpk A.n Q A.lk P (lz0 ⟨A.bx,A.by_,false,A.t⟩) 0 0)) (.ok (.ret (.tup [.fr 24 (.vals (lsSp P k++[nowP l (wdSp k)])),.i .i64 0]) [])))).run
 | 1,_,_=>by kernel_rfl
 | 2,_,_=>by kernel_rfl
 | 3,_,_=>by kernel_rfl
 | 0,h,_=>absurd h (by decide)
 | k+4,_,h=>by omega
theorem brSp_t {p:Prop} {t:Tr} {x:Option Res} (h:p) (ht:t.run=x):(brSp p t).run=x:=(k5 (decP_iff.2 h)).trans ht
theorem sp_rle {r:Sp} {n w:Nat} (h:n<=w):RLe (.agg [.q r.lo n,.q r.hi n]) (.agg [.q r.lo w,.q r.hi w]):=rle_of_vle (fun _=>rfl) (fun _=>rfl) (VLe.agg (qM (qH h) (qM (qH h) vll0)))
theorem vB_ok {g:Nat} {F:Sp->Sp->Sp} {tab:Tab2} {sp:Spec} (h:qc prog G g sp) (e:∀ (A B:Sp) (n m:Nat),1<=n->1<=m->n+m<=50000->∃ w0,w0<=n+m+1/\(sp [spR A.lo A.hi n,spR B.lo B.hi m] [] ql).run=some (.ret (.agg [.q (F A B).lo w0,.q (F A B).hi w0]) [])):
  qc prog G g (vB F tab):=by
 intro args hs K y hh
 unfold vB at hh
 split at hh
 case h_2=>cases hh
 rename_i a n b n' c m d m'
 split at hh
 case h_2=>cases hh
 rename_i r w ht
 obtain⟨hc,hr⟩:=k8 hh
 obtain⟨⟨A,B,he,rfl⟩,h1,h2,h3,h4⟩:=decP_iff.1 hc
 obtain⟨w0,hw,hrun⟩:=e A B n m h1 h2 (by omega)
 exact⟨_,_,by rw[he];exact(pc_spec h hrun).le (sp_rle (by omega)) (.refl _),hr⟩
theorem vU_ok {g:Nat} {F:Sp->Sp} {r:Sp} {w:Nat} {sp:Spec} (hw:1044<=w) (h:qc prog G g sp) (e:∀ (A:Sp),(sp [spR A.lo A.hi 260] [] ql).run=some (.ret (.agg [.q (F A).lo 1044,.q (F A).hi 1044]) [])):qc prog G g (vU F r w):=by
 intro args hs K y hh
 unfold vU at hh
 split at hh
 case h_2=>cases hh
 rename_i a b n'
 obtain⟨hc,hr⟩:=k8 hh
 obtain⟨A,he,rfl⟩:=decP_iff.1 hc
 exact⟨_,_,by rw[he];exact(pc_spec h (e A)).le (sp_rle hw) (.refl _),hr⟩
include hG in
theorem vCut_ok (hT:qp G) {tab:Tab1}:qc prog G 160 (vCut tab):=by
 intro args hs K y hh
 unfold vCut at hh
 split at hh
 case h_2=>cases hh
 rename_i a n b n'
 split at hh
 case h_2=>cases hh
 rename_i r w ht
 obtain⟨hc,hr⟩:=k8 hh
 obtain⟨⟨A,he,rfl,ho⟩,h1,h2,h3⟩:=decP_iff.1 hc
 have p:=pc_spec (gkCu hG hT) (args:=[spR A.lo A.hi n]) (r:=.agg [.q (cutL A) 300,.q (cutH A) 300]) (hs:=[]) (hs':=[]) (by
  show(Tr.br _ _ _).run=_
  rw[k5 (decP_iff.2 ⟨⟨rfl,h1,h2⟩,by rw[qP];exact ho⟩),qP];rfl)
 refine⟨_,_,?_,hr⟩
 rw[he]
 refine p.le ?_ (.refl _)
 have e1:(cutS A).lo=cutL A:=fitS_lo ho
 have e2:(cutS A).hi=cutH A:=fitS_hi ho
 rw[<-e1,<-e2]
 exact sp_rle h3
include hG in
theorem orcRSp (hT:qp G) (W:Nat) (c s m1 m2 d1 C m3 m4 d2 S m5 m6 x y:Sp):OrcOK prog G (RSp W c s m1 m2 d1 C m3 m4 d2 S m5 m6 x y):=by
 refine .cons (gkOf hG hT) (.cons (vU_ok (by omega) (gkCs hG hT) fun A => ?_) (.cons (vU_ok (by omega) (gkSn hG hT) fun A => ?_) (.cons (vCut_ok hG hT) (.cons (vB_ok (gkSb hG hT) fun A B n m h1 h2 h3 => ?_) (.cons (vB_ok (gkMu hG hT) fun A B n m h1 h2 h3 => ?_) (.cons (vB_ok (gkAd hG hT) fun A B n m h1 h2 h3 => ?_) .nil))))))
 ·refine(k5 (decP_iff.2 ⟨rfl,by omega,by omega⟩)).trans ?_
  rw[qP];rfl
 ·show some (Res.ret (.agg [.q (sinS (qk A.lo A.hi)).lo 1044,.q (sinS (qk A.lo A.hi)).hi 1044]) [])=_
  rw[qP]
 ·refine⟨_,Nat.le_refl _,(k5 (decP_iff.2 ⟨⟨_,_,_,_,rfl⟩,h1,h2,h3⟩)).trans ?_⟩
  rw[qP,qP];rfl
 ·refine⟨n+m,by omega,(k5 (decP_iff.2 ⟨⟨_,_,_,_,rfl⟩,h1,h2,h3⟩)).trans ?_⟩
  rw[qP,qP];rfl
 ·refine⟨_,Nat.le_refl _,(k5 (decP_iff.2 ⟨⟨_,_,_,_,rfl⟩,h1,h2,h3⟩)).trans ?_⟩
  rw[qP,qP];rfl
section
variable (n:Nat) (Q:Nat->Sp) (lk:Nat->Lk) (l:Lz)
def okL (l:Lz) (Q:Sp):Prop:=cutL (lcC Q l)<=cutH (lcC Q l)/\cutL (lcS Q l)<=cutH (lcS Q l)
def nx_ (L:Rat) (Q:Sp) (l:Lz):Lz:=lstep L (lturn Q l)
include hG in
theorem rSpk (hT:qp G) (P:Nat->Lz) (k:Nat) (hk:k<3) (hi:k<n) (hn:n<=3) (ho:okL l (Q k)) (hP:P k=lturn (Q k) l):Rnd prog G f123.ntmps 0 [1,8,9,43,44,45] bSp (stSpk n Q lk P l k (k:Nat)) .normal
  (stSpk n Q lk P (nx_ (lk k).len (Q k) l) (k+1) ((k+1:Nat):Int)):=by
 have e:stSpn n Q lk P l ⟨l.X,l.Y,cutS (lcC (Q k) l),cutS (lcS (Q k) l)⟩ (addS l.X (mulS (ofS (lk k).len) (cutS (lcC (Q k) l)))) (addS l.Y (mulS (ofS (lk k).len) (cutS (lcS (Q k) l)))) k (((k:Nat):Int)+1)=stSpk n Q lk P (nx_ (lk k).len (Q k) l) (k+1) ((k+1:Nat):Int):=by
  show stSp n Q lk _ (wdSp (k+1)) (oSp (k+1)) _ _=stSp n Q lk _ (wdSp (k+1)) (oSp (k+1)) [some ⟨24,.vals (lsSp P (k+1))⟩] _
  rw[lsSp_s,hP]
  rfl
 have w0:=wdSp_bd k
 rw[<-e]
 refine qb hG (orcRSp hG hT (wdSp k) (cosS (Q k)) (sinS (Q k)) (mulS l.C (cosS (Q k))) (mulS l.S (sinS (Q k))) (lcC (Q k) l) (cutS (lcC (Q k) l)) (mulS l.S (cosS (Q k))) (mulS l.C (sinS (Q k))) (lcS (Q k) l) (cutS (lcS (Q k) l)) (mulS (ofS (lk k).len) (cutS (lcC (Q k) l))) (mulS (ofS (lk k).len) (cutS (lcS (Q k) l))) (addS l.X (mulS (ofS (lk k).len) (cutS (lcC (Q k) l)))) (addS l.Y (mulS (ofS (lk k).len) (cutS (lcS (Q k) l))))) mix (L:=[]) (pol:=polSp) (kA (by kernel_rfl)) (Nat.zero_le _) ((tSp n Q lk P l k _ _ _ _ _ _ _ _ _ _ _ _ _ _ k hk).trans ?_)
 rw[Int.toNat_natCast]
 have ix:(decide ((0:Int)<=(k:Nat))&&decide (((k:Nat):Int)<(n:Int)))=true:=by simp only[kD,kE];omega
 have m:∀ {A B r:Sp} {F:Sp->Sp->Sp} {a b w:Nat},r=F A B->1<=a->1<=b->a+b<w->w<=50000->isB F [pvSp A a,pvSp B b] a b r w:=fun {A B} _ _ _ _ _ h h1 h2 h3 h4=>⟨⟨A,B,rfl,h⟩,h1,h2,h3,h4⟩
 unfold trSpk
 rw[k5 (kF (by omega)),k5 ix,k5 ix]
 refine brSp_t ⟨_,rfl,rfl⟩ ((k5 ix).trans (brSp_t ⟨_,rfl,rfl⟩ (brSp_t (m rfl (by decide) (by decide) (by decide) (by decide)) (brSp_t (m rfl (by decide) (by decide) (by decide) (by decide)) (brSp_t (m rfl (by decide) (by decide) (by decide) (by decide)) (brSp_t ⟨⟨_,rfl,rfl,ho.1⟩,by decide,by decide,by decide⟩
  (brSp_t (m rfl (by decide) (by decide) (by decide) (by decide)) (brSp_t (m rfl (by decide) (by decide) (by decide) (by decide)) (brSp_t (m rfl (by decide) (by decide) (by decide) (by decide)) (brSp_t ⟨⟨_,rfl,rfl,ho.2⟩,by decide,by decide,by decide⟩
  (brSp_t (m (A:=ofS _) rfl (by decide) (by decide) (by decide) (by decide)) (brSp_t (m rfl w0.1 (by decide) (by omega) (by omega)) (brSp_t (m (A:=ofS _) rfl (by decide) (by decide) (by decide) (by decide)) (brSp_t (m rfl w0.1 (by decide) (by omega) (by omega)) ((k5 (by simp only[ovf,kD,kE];omega)).trans rfl)))))))))))))))
end
theorem okL_of {b:Fr} {Q:Nat->Sp} {L:Nat->Rat} (i:Nat):okL (lzE b Q L i) (Q i):=by
 have h:=lzE_has (b:=b) (Q:=Q) (q:=fun j=>(Q j).lo) (L:=L) i fun j _=>(Q j).has_lo
 obtain⟨c,s⟩:=lc_has h (Q i).has_lo
 have bd:=cs_bd (thH (endR b (fun j=>(Q j).lo) L i).h (endR b (fun j=>(Q j).lo) L i).t false (Q i).lo) (thT (endR b (fun j=>(Q j).lo) L i).h (endR b (fun j=>(Q j).lo) L i).t false (Q i).lo)
 exact⟨cut_ok c bd.1.1 bd.1.2,cut_ok s bd.2.1 bd.2.2⟩
include hG in
theorem gC0_c (hT:qp G):qc prog G 156 (gC0 (qQ false) 300):=by
 intro args hs K y h
 unfold gC0 at h
 split at h
 case h_2=>cases h
 exact⟨_,_,(pc_spec (gk133 hG hT) (args:=[.agg [.bl false,.q _ 64]]) (hs:=[]) (r:=.q (qQ false _) (4*64+4)) (hs':=[]) rfl).le (q_rle rfl (by omega)) (.refl _),h⟩
include hG in
theorem gC0_s (hT:qp G):qc prog G 157 (gC0 (qB false) 301):=by
 intro args hs K y h
 unfold gC0 at h
 split at h
 case h_2=>cases h
 exact⟨_,_,(pc_spec (gk134 hG hT) (args:=[.agg [.bl false,.q _ 64]]) (hs:=[]) (r:=.q (qB false _) (4*64+4)) (hs':=[]) rfl).le (q_rle rfl (by omega)) (.refl _),h⟩
include hG in
theorem gO0_ok (hT:qp G):qc prog G 155 gO0:=by
 intro args hs K y h
 unfold gO0 at h
 split at h
 case h_4=>cases h
 ·exact⟨_,_,(pc_spec (gkOf hG hT) (args:=[.q _ 64]) (hs:=[]) (r:=.agg [.q _ 64,.q _ 64]) (hs':=[]) rfl).le (rle_of_vle (fun _=>rfl) (fun _=>rfl) (VLe.agg (qM (qH (by omega)) (qM (qH (by omega)) vll0)))) (.refl _),h⟩
 ·exact⟨_,_,pc_spec (gkOf hG hT) (args:=[.q _ 300]) (hs:=[]) (hs':=[]) rfl,h⟩
 ·exact⟨_,_,pc_spec (gkOf hG hT) (args:=[.q _ 301]) (hs:=[]) (hs':=[]) rfl,h⟩
include hG in
theorem pcHas (A:Am) (hA:armB A=true):PC prog G 57 [qm A,.i .i64 A.n] [] (.i .i64 0) []:=
 pc_spec (ok85 hG) (k5 (decP_iff.2 ⟨qm A,A,rfl,.refl _,hA⟩))
def nowW (l:Lz):PV:=.agg [.agg [.q l.X.lo 1500,.q l.X.hi 1500],.agg [.q l.Y.lo 1500,.q l.Y.hi 1500],.agg [.q l.C.lo 301,.q l.C.hi 301],.agg [.q l.S.lo 301,.q l.S.hi 301]]
theorem sp_vle {r:Sp} {n w:Nat} (h:n<=w):VLe (.agg [.q r.lo n,.q r.hi n]) (.agg [.q r.lo w,.q r.hi w]):=VLe.agg (qM (qH h) (qM (qH h) vll0))
theorem now_le {l:Lz} {W:Nat} (h:W<=1500):VLe (nowP l W) (nowW l):=VLe.agg (qM (sp_vle h) (qM (sp_vle h) (qM (sp_vle (by omega)) (qM (sp_vle (by omega)) vll0))))
def lzs (A:Am) (Q:Nat->Sp) (i:Nat):Lz:=lzA (bsF A) Q (fun j=>(A.lk j).len) A.n i
include hG in
theorem pcSp (hT:qp G) (A:Am) (hA:armB A=true) (Q:Nat->Sp):
  PC prog G 123 [qm A,.lst 6 (spsC A.n Q)] [] (.tup [.fr 24 (.fn (A.n+1) (fun i=>nowW (lzs A Q i))),.i .i64 0]) []:=by
 obtain⟨a1,a2,a3,a4,h1,h3,a7⟩:=armB_c hA
 have orc:OrcOK prog G (OSp A A.n):=.cons (gC0_c hG hT) (.cons (gC0_s hG hT) (.cons (qS (pcHas hG A hA)) (.cons (gO0_ok hG hT) .nil)))
 have g:=Goes.count (R:=Rnd prog G f123.ntmps 0 [1,8,9,43,44,45] bSp) (fun k=>stSpk A.n Q A.lk (lzF (bsF A) Q (fun j=>(A.lk j).len)) (lzE (bsF A) Q (fun j=>(A.lk j).len) k) k ((k:Nat):Int)) (e:=.exit 0) (ls':=stSpk A.n Q A.lk (lzF (bsF A) Q (fun j=>(A.lk j).len)) (lzE (bsF A) Q (fun j=>(A.lk j).len) A.n) A.n ((A.n:Nat):Int)) (by simp) A.n 0
  (fun k _ hk=>rSpk hG A.n Q A.lk (lzE (bsF A) Q (fun j=>(A.lk j).len) k) hT _ k (by omega) (by omega) h3 (okL_of k) rfl)
  (by
   rw[Nat.zero_add]
   refine qb hG .nil mix (L:=[]) (pol:=polSp) (kA (by kernel_rfl)) (Nat.zero_le _) ((tSpx A.n Q A.lk _ _ _ A.n (by omega)).trans ?_)
   rw[k6 (kG (by omega)),k7])
 refine(qj hG orc mix enSp (hs:=[]) (pol:=polSp) (L:=[(8,qy (stSpk A.n Q A.lk (lzF (bsF A) Q (fun j=>(A.lk j).len)) (lz0 ⟨A.bx,A.by_,false,A.t⟩) 0 0) (.exit 0) (stSpk A.n Q A.lk (lzF (bsF A) Q (fun j=>(A.lk j).len)) (lzE (bsF A) Q (fun j=>(A.lk j).len) A.n) A.n A.n))])
  (qN (b:=bSp) (live:=[1,8,9,43,44,45]) (m:=0) (by kernel_rfl) (by kernel_rfl) (by kernel_rfl) (qv g)) ((eSp A Q _ _ A.n h1 (by omega)).trans (brSp_t ⟨rfl,trivial⟩ (brSp_t rfl k7)))).le ?_ (.refl _)
 refine frs_le0 _ _ _ _ (by rw[List.length_append,lsSp,List.length_map,List.length_range];rfl) fun i v hi => ?_
 have hlt:i<A.n+1:=by
  have:=(List.getElem?_eq_some_iff.1 hi).1
  rw[List.length_append,lsSp,List.length_map,List.length_range]at this
  exact this
 have hw:∀ j,wdSp j<=1500:=fun j=>by have:=(wdSp_bd j).2;omega
 by_cases h:i<A.n
 ·rw[List.getElem?_append_left (by rw[lsSp,List.length_map,List.length_range];exact h),lsSp,List.getElem?_map,List.getElem?_range h]at hi
  obtain rfl:=Option.some.inj hi
  exact⟨rfl,by show VLe _ (nowW (lzA _ _ _ A.n i));rw[lzA,if_pos h];exact now_le (hw i)⟩
 ·obtain rfl:i=A.n:=by omega
  rw[List.getElem?_append_right (by rw[lsSp,List.length_map,List.length_range];exact Nat.le_refl _),lsSp,List.length_map,List.length_range,Nat.sub_self]at hi
  obtain rfl:=Option.some.inj hi
  exact⟨rfl,by show VLe _ (nowW (lzA _ _ _ A.n A.n));rw[lzA,if_neg (by omega)];exact now_le (hw _)⟩
end
section
open Go
set_option maxRecDepth 100000
variable {G:World->(Nat->Prop)->Prop} (hG:GOk G)
def spn (p q:List Rat) (j:Nat):Sp:=⟨mnR (p.getD j 0) (q.getD j 0),mxR (p.getD j 0) (q.getD j 0),mn_mx _ _⟩
theorem ratsK_sz (e:Nat) {n m:Nat} (xs:List Rat) (h:∀ i,i<xs.length->sz (xs.getD i 0)<=m):KLe ⟨e,.rats n xs⟩ ⟨e,.rats m xs⟩:=by
 intro w S μ a z hb
 obtain⟨c,T,cs,h1,h2,h3,h4,h5,h6⟩:=hb
 exact⟨c,T,cs,h1,h2,h3,fun i hi=>((vle_qq (n:=n) (h i hi)).2 w S _).1 _ (h4 i hi),h5,h6⟩
theorem frrats_sz (e:Nat) {n m:Nat} (xs:List Rat) (h:∀ i,i<xs.length->sz (xs.getD i 0)<=m):RLe (.fr e (.rats n xs)) (.fr e (.rats m xs)):=⟨fun _=>.refl _,fun _=>KsLe.one (ratsK_sz e xs h)⟩
def BdL (p:List Rat):Prop:=∀ j,j<p.length->Prof.Bd (p.getD j 0) 30000000 8000000
include hG in
theorem pArm (l:PV) (hl:okW l=true):PC Tryz.prog G 13 [.w l] [] (armFr (armD l)) []:=by
 obtain⟨r,hs',p,e⟩:=ok15 hG [.w l] [] (fun r hs'=>.ok (.ret r hs')) (.ret (armFr (armD l)) []) (by show(Tr.br _ _ _).run=_;rw[k5 hl];rfl)
 cases e
 exact p
theorem cf_BdL {A:Am} (h:limX A=true) (m:PV):BdL (cfL A.lk m A.n):=fun j hj=>cfL_bd h (by rw[cfL_len]at hj;exact hj)
end
section
open Go Tryz
set_option maxRecDepth 100000
variable {G:World->(Nat->Prop)->Prop} (hG:GOk G)
theorem enBo:Enters prog 126 f126 (qd f126):=⟨func126,by kernel_rfl,rfl⟩
def gBo:Spec:=evF prog [] [] {} f126
include hG in
theorem gkBo:qc prog G 126 gBo:=spec_ev hG .nil mix enBo (fun _=>kA (by kernel_rfl))
end
section
open Go
set_option maxRecDepth 100000
variable {G:World->(Nat->Prop)->Prop} (hG:GOk G)
def R9:Orc:=[(25,g21),(23,g27)]
def nowL (c s:Nat) (l:Lz):PV:=.agg [spR l.X.lo l.X.hi 1500,spR l.Y.lo l.Y.hi 1500,spR l.C.lo l.C.hi c,spR l.S.lo l.S.hi s]
def nowI:Nat->Lz->PV
 | 0,l=>nowL 310 320 l
 | 1,l=>nowL 311 321 l
 | _,l=>nowL 312 322 l
theorem KLe.ff {e n:Nat} {f g:Nat->PV} (h:∀ i,i<n->noRef 8 (f i)=true/\VLe (f i) (g i)):KLe ⟨e,.fn n f⟩ ⟨e,.fn n g⟩:=by
 intro w S μ a z hb
 obtain⟨c,T,cs,h1,h2,h3,h4,h5,h6⟩:=hb
 refine⟨c,T,cs,h1,h2,h3,fun i hi => ?_,h5,h6⟩
 have h7:=h4 i hi
 simp only[Cont.get,qD]at h7 ⊢
 exact((h i hi).2.2 w S qR).1 _ h7
theorem nowI_le (l:Lz):∀ i,VLe (nowW l) (nowI i l)
 | 0=>VLe.agg (qM (sp_vle (by omega)) (qM (sp_vle (by omega)) (qM (sp_vle (by omega)) (qM (sp_vle (by omega)) vll0))))
 | 1=>VLe.agg (qM (sp_vle (by omega)) (qM (sp_vle (by omega)) (qM (sp_vle (by omega)) (qM (sp_vle (by omega)) vll0))))
 | _+2=>VLe.agg (qM (sp_vle (by omega)) (qM (sp_vle (by omega)) (qM (sp_vle (by omega)) (qM (sp_vle (by omega)) vll0))))
def hld (n:Nat) (B:Nat->Sp) (ls:List Rat):Prop:=∀ j,j<n->(B j).hi<=ls.getD j 0 /\ -(B j).lo<=ls.getD j 0
end
section
open Go Tryz
set_option maxRecDepth 100000
variable {G:World->(Nat->Prop)->Prop} (hG:GOk G)
theorem enAt:Enters prog 124 f124 (qd f124):=⟨func124,by kernel_rfl,rfl⟩
def RAt (m1 m2 m3 m4 d s x y:Sp):Orc:=
 [(155,gOf),(161,vB subS (tb 400 401 d 802 tn)),(162,vB mulS (tb 64 310 m1 400 (tb 65 320 m2 401 (tb 64 320 m3 402 (tb 65 310 m4 403 tn))))),(163,vB addS (tb 402 403 s 810 (tb 1500 802 x 2320 (tb 1500 810 y 2320 tn))))]
theorem eAt (l:Lz) (u v:Rat) (m1 m2 m3 m4 d s x y:Sp):(evF prog (RAt m1 m2 m3 m4 d s x y) [] {} f124 [nowL 310 320 l,.agg [.q u 64,.q v 65]] [] ql).run=
 (Tr.br (qg (isB mulS [.agg [.q u 64,.q u 64],.agg [.q l.C.lo 310,.q l.C.hi 310]] (64:Nat) (310:Nat) m1 (400:Nat))) (.br (qg (isB mulS [.agg [.q v 65,.q v 65],.agg [.q l.S.lo 320,.q l.S.hi 320]] (65:Nat) (320:Nat) m2 (401:Nat))) (.br (qg (isB subS [.agg [.q m1.lo 400,.q m1.hi 400],.agg [.q m2.lo 401,.q m2.hi 401]] (400:Nat) (401:Nat) d (802:Nat))) (.br (qg (isB addS [.agg [.q l.X.lo 1500,.q l.X.hi 1500],.agg [.q d.lo 802,.q d.hi 802]] (1500:Nat) (802:Nat) x (2320:Nat))) (.br (qg (isB mulS [.agg [.q u 64,.q u 64],.agg [.q l.S.lo 320,.q l.S.hi 320]] (64:Nat) (320:Nat) m3 (402:Nat))) (.br (qg (isB mulS [.agg [.q v 65,.q v 65],.agg [.q l.C.lo 310,.q l.C.hi 310]] (65:Nat) (310:Nat) m4 (403:Nat))) (.br (qg (isB addS [.agg [.q m3.lo 402,.q m3.hi 402],.agg [.q m4.lo 403,.q m4.hi 403]] (402:Nat) (403:Nat) s (810:Nat))) (.br (qg (isB addS [.agg [.q l.Y.lo 1500,.q l.Y.hi 1500],.agg [.q s.lo 810,.q s.hi 810]] (1500:Nat) (810:Nat) y (2320:Nat))) (.ok (.ret (.tup [.agg [.q x.lo 2320,.q x.hi 2320],.agg [.q y.lo 2320,.q y.hi 2320]]) [])) (.no 1)) (.no 1)) (.no 1)) (.no 1)) (.no 1)) (.no 1)) (.no 1)) (.no 1)).run:=by kernel_rfl
def sp2 (S:Sp):PV:=.agg [.q S.lo 2320,.q S.hi 2320]
def q2 (x y:Rat):PV:=.agg [.q x 64,.q y 64]
theorem enBs:Enters prog 72 f72 (qd f72):=⟨func72,by kernel_rfl,rfl⟩
def bBs:Code:=(qi (qd f72)).getD 0 .skip
def iBs:Code:=(qi (qd f72)).getD 1 .skip
def polBs:Pol:={live:=[(6,[6,8,27,28,29]),(10,[6,8,9,11,12,27,28,29,48,49,50])]}
def stBs (N:Nat) (lz:Nat->Lz) (n:Nat) (lk:Nat->Lk) (o:PV) (bs:List (Option Blk)) (i:Int):LS:=⟨[.lst 24 (.fn N (fun j=>nowW (lz j))),o,.lst 16 (.fn n (fun j=>lkPV (lk j))),.i .i64 n,.i .i64 i],bs⟩
def shC (d:Lk):Cont:=.fn (d.np-1) (fun j=>q2 (d.px (j+1)) (d.py (j+1)))
def inS (N:Nat) (lz:Nat->Lz) (n:Nat) (lk:Nat->Lk) (o:PV) (i:Int) (a b:Nat) (d:Lk) (k:Int) (bs:List (Option Blk)):LS:=
 ⟨[.lst 24 (.fn N (fun j=>nowW (lz j))),o,.i .i64 i,.ptr a 6 0 0 [],.ptr b 6 0 0 [],.lst 16 (.fn n (fun j=>lkPV (lk j))),.i .i64 n,.i .i64 i,.lst 6 (shC d),.i .i64 ((d.np-1:Nat):Int),.i .i64 k],bs⟩
def bX (x:Sp):Option Blk:=some ⟨6,.vals [sp2 x]⟩
def bx2 (x y:Sp):PV:=.agg [.agg [.q x.lo 2320,.q y.lo 2320],.agg [.q x.hi 2320,.q y.hi 2320]]
def RIn (l:Lz) (x y:Rat) (u v:Sp):Orc:=[(124,cst [nowW l,q2 x y] True (.tup [sp2 u,sp2 v])),(125,gJn)]
def RBs (l:Lz) (x y:Rat) (u v:Sp):Orc:=[(126,gBo),(124,cst [nowW l,q2 x y] True (.tup [sp2 u,sp2 v]))]
def trI (i k:Int) (N:Nat) (d:Lk) (l:Lz) (x y u v:Sp) (L:Int->Sp->Sp->LS):Tr:=
 .br (decide (k<((d.np-1:Nat):Int))) (.br (decide ((0:Int)<=k)&&decide (k<((d.np-1:Nat):Int))) (.br (decide ((0:Int)<=i)&&decide (i<(N:Int)))
  (.br (qg (isA [nowW l,q2 (d.px (k.toNat+1)) (d.py (k.toNat+1))] True [nowW l,q2 (d.px (k.toNat+1)) (d.py (k.toNat+1))]))
  (.br (qg (eqN [sp2 x,sp2 u] 2320 2320)) (.br (qg (eqN [sp2 y,sp2 v] 2320 2320)) (.br (ovf (k+1))
   (.ok (.out .normal (L (k+1) (joinS (qk x.lo x.hi) (qk u.lo u.hi)) (joinS (qk y.lo y.hi) (qk v.lo v.hi)))))
  (.no 1)) (.no 1)) (.no 1)) (.no 1)) (.no 1)) (.no 1)) (.ok (.out (.exit 2) (L k x y)))
include hG in
theorem orcRAt (hT:qp G) (m1 m2 m3 m4 d s x y:Sp):OrcOK prog G (RAt m1 m2 m3 m4 d s x y):=by
 refine .cons (gkOf hG hT) (.cons (vB_ok (gkSb hG hT) fun A B n m h1 h2 h3 => ?_) (.cons (vB_ok (gkMu hG hT) fun A B n m h1 h2 h3 => ?_) (.cons (vB_ok (gkAd hG hT) fun A B n m h1 h2 h3 => ?_) .nil)))
 ·refine⟨_,Nat.le_refl _,(k5 (decP_iff.2 ⟨⟨_,_,_,_,rfl⟩,h1,h2,h3⟩)).trans ?_⟩
  rw[qP,qP];rfl
 ·refine⟨n+m,by omega,(k5 (decP_iff.2 ⟨⟨_,_,_,_,rfl⟩,h1,h2,h3⟩)).trans ?_⟩
  rw[qP,qP];rfl
 ·refine⟨_,Nat.le_refl _,(k5 (decP_iff.2 ⟨⟨_,_,_,_,rfl⟩,h1,h2,h3⟩)).trans ?_⟩
  rw[qP,qP];rfl
include hG in
theorem pcAt (hT:qp G) (l:Lz) (u v:Rat):PC prog G 124 [nowW l,q2 u v] [] (.tup [sp2 (atX l u v),sp2 (atY l u v)]) []:=by
 refine PC.args (.cons (nowI_le l 0) (.cons (VLe.agg (qM (.refl _) (qM (qH (show 64<=65 by omega)) vll0))) .nil)) ?_
 refine qj hG (orcRAt hG hT (mulS (ofS u) l.C) (mulS (ofS v) l.S) (mulS (ofS u) l.S) (mulS (ofS v) l.C) (subS (mulS (ofS u) l.C) (mulS (ofS v) l.S)) (addS (mulS (ofS u) l.S) (mulS (ofS v) l.C)) (atX l u v) (atY l u v)) mix enAt (hs:=[]) (L:=[]) (pol:={}) (kA (by kernel_rfl)) ?_
 refine(eAt l u v _ _ _ _ _ _ _ _).trans ?_
 repeat (refine Eq.trans (k5 ?_) ?_;first|exact decP_iff.2 ⟨⟨_,_,rfl,rfl⟩,by decide,by decide,by decide,by decide⟩|exact decP_iff.2 ⟨⟨ofS _,_,rfl,rfl⟩,by decide,by decide,by decide,by decide⟩)
 rw[k7];rfl
def gX (l:Lz) (d:Lk) (j:Nat):Sp:=atX l (d.px j) (d.py j)
def gY (l:Lz) (d:Lk) (j:Nat):Sp:=atY l (d.px j) (d.py j)
include hG in
theorem goesIn (hT:qp G) (N:Nat) (lz:Nat->Lz) (n:Nat) (lk:Nat->Lk) (o:PV) (i a b:Nat) (d:Lk) (B:List (Option Blk)) (hi:i<N) (hp:1<=d.np) (hp8:d.np<=8)
  (hk:∀ (k:Int) (x y u v:Sp),(qe prog (RIn (lz i) (d.px (k.toNat+1)) (d.py (k.toNat+1)) u v) [] polBs f72.ntmps 0 [6,8,9,11,12,27,28,29,48,49,50] iBs (inS N lz n lk o i a b d k (B++[bX x,bX y]))).run=
   (trI i k N d (lz i) x y u v fun k x y=>inS N lz n lk o i a b d k (B++[bX x,bX y])).run):
  Goes (Rnd prog G f72.ntmps 0 [6,8,9,11,12,27,28,29,48,49,50] iBs) (inS N lz n lk o i a b d 0 (B++[bX (gX (lz i) d 0),bX (gY (lz i) d 0)])) (.exit 2)
   (inS N lz n lk o i a b d ((d.np-1:Nat):Int) (B++[bX (jnS (gX (lz i) d) (d.np-1)),bX (jnS (gY (lz i) d) (d.np-1))])):=by
 have rd:∀ (k:Nat) (x y:Sp) (e:Exit) (ls:LS),(trI i ((k:Nat):Int) N d (lz i) x y (gX (lz i) d (k+1)) (gY (lz i) d (k+1)) fun k x y=>inS N lz n lk o i a b d k (B++[bX x,bX y])).run=some (.out e ls)->
   Rnd prog G f72.ntmps 0 [6,8,9,11,12,27,28,29,48,49,50] iBs (inS N lz n lk o i a b d k (B++[bX x,bX y])) e ls:=fun k x y e ls h=>by
  refine qb hG (.cons (qS (pcAt hG hT (lz i) (d.px (k+1)) (d.py (k+1)))) (.cons (gkJn hG hT) .nil)) mix (L:=[]) (pol:=polBs) (O:=RIn (lz i) (d.px (k+1)) (d.py (k+1)) (gX (lz i) d (k+1)) (gY (lz i) d (k+1))) (kA (by kernel_rfl)) (Nat.zero_le _) ?_
  exact(hk ((k:Nat):Int) x y _ _).trans h
 have w:=Goes.count (R:=Rnd prog G f72.ntmps 0 [6,8,9,11,12,27,28,29,48,49,50] iBs) (fun k=>inS N lz n lk o i a b d ((k:Nat):Int) (B++[bX (jnS (gX (lz i) d) k),bX (jnS (gY (lz i) d) k)])) (e:=.exit 2) (ls':=inS N lz n lk o i a b d ((d.np-1:Nat):Int) (B++[bX (jnS (gX (lz i) d) (d.np-1)),bX (jnS (gY (lz i) d) (d.np-1))])) (by simp) (d.np-1) 0
  (fun k _ hk1=>by
   refine rd k _ _ _ _ ?_
   unfold trI
   rw[k5 (kF (by omega)),k5 (by simp only[kD,kE];omega),k5 (by simp only[kD,kE];omega),k5 (decP_iff.2 ⟨rfl,trivial⟩),k5 (decP_iff.2 ⟨⟨_,_,_,_,rfl⟩,by decide,by decide,by decide⟩),k5 (decP_iff.2 ⟨⟨_,_,_,_,rfl⟩,by decide,by decide,by decide⟩),
    k5 (by simp only[ovf,kD,kE];omega),k7]
   simp only[qP]
   rfl)
  (by
   refine rd _ _ _ _ _ ?_
   unfold trI
   rw[Nat.zero_add,k6 (kG (by omega)),k7])
 exact w
def trO (i:Int) (N n:Nat) (d:Lk) (v:PV) (S0 ex nx:LS):Tr:=
 .br (decide (i<(n:Int))) (.br (decide ((0:Int)<=i)&&decide (i<(n:Int))) (.br (decide ((0:Int)<=i)&&decide (i<(N:Int))) (.br (decide ((0:Int)<=0)&&decide ((0:Int)<(d.np:Int)))
  (.br (qg (isA [v,q2 (d.px 0) (d.py 0)] True [v,q2 (d.px 0) (d.py 0)])) (.br (decide ((0:Int)<=1)&&decide ((1:Int)<=(d.np:Int))) (.br (qg (isLS S0 S0)) (.br (ovf (i+1)) (.ok (.out .normal nx))
  (.no 1)) (.no 1)) (.no 1)) (.no 1)) (.no 1)) (.no 1)) (.no 1)) (.ok (.out (.exit 0) ex))
include hG in
theorem rdO (hT:qp G) (N:Nat) (lz:Nat->Lz) (n:Nat) (lk:Nat->Lk) (i:Nat) (hi:i<n) (hN:n<=N) (hn:n<=3) (hp:1<=(lk i).np) (o:PV) (B:List (Option Blk)) (S0 S1 nx:LS)
  (hg:Goes (Rnd prog G f72.ntmps 0 [6,8,9,11,12,27,28,29,48,49,50] iBs) S0 (.exit 2) S1)
  (hr:(qe prog (RBs (lz i) ((lk i).px 0) ((lk i).py 0) (gX (lz i) (lk i) 0) (gY (lz i) (lk i) 0)) [(10,qy S0 (.exit 2) S1)] polBs f72.ntmps 0 [6,8,27,28,29] bBs (stBs N lz n lk o B i)).run=(trO i N n (lk i) (nowW (lz i)) S0 (stBs N lz n lk o B i) nx).run):
  Rnd prog G f72.ntmps 0 [6,8,27,28,29] bBs (stBs N lz n lk o B i) .normal nx:=by
 refine qb hG (.cons (gkBo hG) (.cons (qS (pcAt hG hT (lz i) ((lk i).px 0) ((lk i).py 0))) .nil)) mix (L:=[(10,qy S0 (.exit 2) S1)]) (pol:=polBs) (O:=RBs (lz i) ((lk i).px 0) ((lk i).py 0) (gX (lz i) (lk i) 0) (gY (lz i) (lk i) 0))
  (qN (b:=iBs) (live:=[6,8,9,11,12,27,28,29,48,49,50]) (m:=0) (by kernel_rfl) (by kernel_rfl) (by kernel_rfl) (qv hg)) (Nat.zero_le _) ?_
 refine hr.trans ?_
 unfold trO
 rw[k5 (kF (by omega)),k5 (by simp only[kD,kE];omega),k5 (by simp only[kD,kE];omega),k5 (by simp only[kD,kE];omega),k5 (decP_iff.2 ⟨rfl,trivial⟩),k5 (by simp only[kD,kE];omega),k5 qK,
  k5 (by simp only[ovf,kD,kE];omega),k7]
def jX (lz:Nat->Lz) (lk:Nat->Lk) (i:Nat):Sp:=jnS (gX (lz i) (lk i)) ((lk i).np-1)
def jY (lz:Nat->Lz) (lk:Nat->Lk) (i:Nat):Sp:=jnS (gY (lz i) (lk i)) ((lk i).np-1)
def jB (lz:Nat->Lz) (lk:Nat->Lk) (i:Nat):PV:=bx2 (jX lz lk i) (jY lz lk i)
def OBs (A:Am) (n:Nat) (Q:Nat->Sp) (lz:Nat->Lz):Orc:=[(123,cst [armQ A n,.lst 6 (spsC n Q)] True (.tup [.fr 24 (.fn (n+1) (fun i=>nowW (lz i))),.i .i64 0]))]
include hG in
theorem pcBs1 (A:Am) (n:Nat) (Q:Nat->Sp) (lz:Nat->Lz) (ys:List PV) (k:Nat) (h11:PC prog G 123 [armQ A n,.lst 6 (spsC n Q)] [] (.tup [.fr 24 (.fn (n+1) (fun i=>nowW (lz i))),.i .i64 0]) [])
  (hg:Goes (Rnd prog G f72.ntmps 0 [6,8,27,28,29] bBs) (stBs (n+1) lz n A.lk .nil [] 0) (.exit 0) (stBs (n+1) lz n A.lk (.sl 0 12 0 k) [some ⟨12,.vals ys⟩] n))
  (hr:(evF prog (OBs A n Q lz) [(6,qy (stBs (n+1) lz n A.lk .nil [] 0) (.exit 0) (stBs (n+1) lz n A.lk (.sl 0 12 0 k) [some ⟨12,.vals ys⟩] n))] polBs f72 [armQ A n,.lst 6 (spsC n Q)] [] ql).run=
   (Tr.br (qg (isA [armQ A n,.lst 6 (spsC n Q)] True [armQ A n,.lst 6 (spsC n Q)])) (.br (qg (isLS (stBs (n+1) lz n A.lk .nil [] 0) (stBs (n+1) lz n A.lk .nil [] 0))) (.ok (.ret (.tup [.fr 12 (.vals ys),.i .i64 0]) [])) (.no 1)) (.no 1)).run):
  PC prog G 72 [armQ A n,.lst 6 (spsC n Q)] [] (.tup [.fr 12 (.vals ys),.i .i64 0]) []:=by
 refine qj hG (.cons (qS h11) .nil) mix enBs (hs:=[]) (pol:=polBs) (L:=[(6,qy (stBs (n+1) lz n A.lk .nil [] 0) (.exit 0) (stBs (n+1) lz n A.lk (.sl 0 12 0 k) [some ⟨12,.vals ys⟩] n))])
  (lps1n (b:=bBs) (b':=iBs) (live:=[6,8,27,28,29]) (m:=0) (by kernel_rfl) (by kernel_rfl) (by kernel_rfl) (by kernel_rfl) (qv hg)) ?_
 refine hr.trans ?_
 rw[k5 (decP_iff.2 ⟨rfl,trivial⟩),k5 qK,k7]
include hG in
theorem rdX (O:Orc) (hO:OrcOK prog G O) (st:LS) (S0 S1:LS) (hg:Goes (Rnd prog G f72.ntmps 0 [6,8,9,11,12,27,28,29,48,49,50] iBs) S0 (.exit 2) S1)
  (hr:(qe prog O [(10,qy S0 (.exit 2) S1)] polBs f72.ntmps 0 [6,8,27,28,29] bBs st).run=some (.out (.exit 0) st)):Rnd prog G f72.ntmps 0 [6,8,27,28,29] bBs st (.exit 0) st:=
 qb hG hO mix (L:=[(10,qy S0 (.exit 2) S1)]) (pol:=polBs) (O:=O) (qN (b:=iBs) (live:=[6,8,9,11,12,27,28,29,48,49,50]) (m:=0) (by kernel_rfl) (by kernel_rfl) (by kernel_rfl) (qv hg)) (Nat.zero_le _) hr
include hG in
theorem pcBs (hT:qp G) (A:Am) (hA:armB A=true) (hS:shp A) (Q:Nat->Sp):
  PC prog G 72 [qm A,.lst 6 (spsC A.n Q)] [] (.tup [.fr 12 (.fn A.n (jB (lzs A Q) A.lk)),.i .i64 0]) []:=by
 have p11:=pcSp hG hT A hA Q
 obtain⟨a1,a2,a3,a4,h1,h3,a7⟩:=armB_c hA
 generalize lzs A Q=lz at*
 have ha:qm A=armQ A A.n:=rfl
 rw[ha]at p11 ⊢
 unfold shp at hS
 have g0:∀ n,1<=n->n=A.n->_:=fun n hn he=>goesIn hG hT (n+1) lz n A.lk .nil 0 0 1 (A.lk 0) [] (by omega) (by have:=hS 0 (by omega);omega) (by have:=hS 0 (by omega);omega) (fun k x y u v=>by kernel_rfl)
 have g1:∀ n,2<=n->n=A.n->_:=fun n hn he=>goesIn hG hT (n+1) lz n A.lk (.sl 0 12 0 1) 1 1 2 (A.lk 1) [some ⟨12,.vals [jB lz A.lk 0]⟩] (by omega) (by have:=hS 1 (by omega);omega) (by have:=hS 1 (by omega);omega) (fun k x y u v=>by kernel_rfl)
 have g2:∀ n,3<=n->n=A.n->_:=fun n hn he=>goesIn hG hT (n+1) lz n A.lk (.sl 0 12 0 2) 2 1 2 (A.lk 2) [some ⟨12,.vals [jB lz A.lk 0,jB lz A.lk 1]⟩] (by omega) (by have:=hS 2 (by omega);omega) (by have:=hS 2 (by omega);omega) (fun k x y u v=>by kernel_rfl)
 have r0:∀ n,(h1:1<=n)->(he:n=A.n)->Rnd prog G f72.ntmps 0 [6,8,27,28,29] bBs (stBs (n+1) lz n A.lk .nil [] 0) .normal (stBs (n+1) lz n A.lk (.sl 0 12 0 1) [some ⟨12,.vals [jB lz A.lk 0]⟩] 1):=fun n hn he=>rdO hG hT (n+1) lz n A.lk 0 (by omega) (by omega) (by omega) (by have:=hS 0 (by omega);omega) .nil [] _ _ _ (g0 n hn he) (by kernel_rfl)
 have r1:∀ n,(h1:2<=n)->(he:n=A.n)->Rnd prog G f72.ntmps 0 [6,8,27,28,29] bBs (stBs (n+1) lz n A.lk (.sl 0 12 0 1) [some ⟨12,.vals [jB lz A.lk 0]⟩] 1) .normal (stBs (n+1) lz n A.lk (.sl 0 12 0 2) [some ⟨12,.vals [jB lz A.lk 0,jB lz A.lk 1]⟩] 2):=fun n hn he=>rdO hG hT (n+1) lz n A.lk 1 (by omega) (by omega) (by omega) (by have:=hS 1 (by omega);omega) _ _ _ _ _ (g1 n hn he) (by kernel_rfl)
 have r2:∀ n,(h1:3<=n)->(he:n=A.n)->Rnd prog G f72.ntmps 0 [6,8,27,28,29] bBs (stBs (n+1) lz n A.lk (.sl 0 12 0 2) [some ⟨12,.vals [jB lz A.lk 0,jB lz A.lk 1]⟩] 2) .normal (stBs (n+1) lz n A.lk (.sl 0 12 0 3) [some ⟨12,.vals [jB lz A.lk 0,jB lz A.lk 1,jB lz A.lk 2]⟩] 3):=fun n hn he=>rdO hG hT (n+1) lz n A.lk 2 (by omega) (by omega) (by omega) (by have:=hS 2 (by omega);omega) _ _ _ _ _ (g2 n hn he) (by kernel_rfl)
 rcases(show A.n=1\/A.n=2\/A.n=3 by omega)with hn|hn|hn
 ·rw[hn]at p11 ⊢
  have hx:=rdX hG [] .nil (stBs 2 lz 1 A.lk (.sl 0 12 0 1) [some ⟨12,.vals [jB lz A.lk 0]⟩] 1) _ _ (g0 1 (by omega) hn.symm) (by kernel_rfl)
  refine(pcBs1 hG A 1 Q lz [jB lz A.lk 0] 1 p11 (.more _ _ _ _ (r0 1 (by omega) hn.symm) (.last _ _ _ hx (by simp))) (by kernel_rfl)).le (frs_le0 _ _ _ _ rfl fun i v hi => ?_) (.refl _)
  match i,hi with
  | 0,hi=>simp at hi;subst hi;exact⟨rfl,.refl _⟩
  | i+1,hi=>simp at hi
 ·rw[hn]at p11 ⊢
  have hx:=rdX hG [] .nil (stBs 3 lz 2 A.lk (.sl 0 12 0 2) [some ⟨12,.vals [jB lz A.lk 0,jB lz A.lk 1]⟩] 2) _ _ (g0 2 (by omega) hn.symm) (by kernel_rfl)
  refine(pcBs1 hG A 2 Q lz [jB lz A.lk 0,jB lz A.lk 1] 2 p11 (.more _ _ _ _ (r0 2 (by omega) hn.symm) (.more _ _ _ _ (r1 2 (by omega) hn.symm) (.last _ _ _ hx (by simp)))) (by kernel_rfl)).le (frs_le0 _ _ _ _ rfl fun i v hi => ?_) (.refl _)
  match i,hi with
  | 0,hi=>simp at hi;subst hi;exact⟨rfl,.refl _⟩
  | 1,hi=>simp at hi;subst hi;exact⟨rfl,.refl _⟩
  | i+2,hi=>simp at hi
 ·rw[hn]at p11 ⊢
  have hx:=rdX hG [] .nil (stBs 4 lz 3 A.lk (.sl 0 12 0 3) [some ⟨12,.vals [jB lz A.lk 0,jB lz A.lk 1,jB lz A.lk 2]⟩] 3) _ _ (g0 3 (by omega) hn.symm) (by kernel_rfl)
  refine(pcBs1 hG A 3 Q lz [jB lz A.lk 0,jB lz A.lk 1,jB lz A.lk 2] 3 p11 (.more _ _ _ _ (r0 3 (by omega) hn.symm) (.more _ _ _ _ (r1 3 (by omega) hn.symm) (.more _ _ _ _ (r2 3 (by omega) hn.symm) (.last _ _ _ hx (by simp))))) (by kernel_rfl)).le (frs_le0 _ _ _ _ rfl fun i v hi => ?_) (.refl _)
  match i,hi with
  | 0,hi=>simp at hi;subst hi;exact⟨rfl,.refl _⟩
  | 1,hi=>simp at hi;subst hi;exact⟨rfl,.refl _⟩
  | 2,hi=>simp at hi;subst hi;exact⟨rfl,.refl _⟩
  | i+3,hi=>simp at hi
end
section
open Go
set_option maxRecDepth 100000
variable {G:World->(Nat->Prop)->Prop} (hG:GOk G)
end
section
open Go
set_option maxRecDepth 100000
theorem pkOf {P:Pg} (h:∀ i k,i<P.n->2<=k->k<P.n->0<trP P i ((i+1)%P.n) ((i+k)%P.n)):pkE P=0:=by
 unfold pkE
 exact if_pos (show pkB P=true from all_r.2 fun i _ hi=>all_r.2 fun j _ hj=>kF (h i (j+2) hi (by omega) (by omega)))
def cor (x y:Sp):Pg:=⟨4,fun k=>match k with|0=>x.lo|1=>x.hi|2=>x.hi|_=>x.lo,fun k=>match k with|0=>y.lo|1=>y.lo|2=>y.hi|_=>y.hi⟩
theorem free_iff {n:Nat} {L:Nat->Pg} {m:Nat} {M:Nat->Pg}:freeB n L m M=true↔∀ i,i<n->∀ j,j<m->frB (L i) (M j)=true:=by
 unfold freeB frI
 rw[all_r]
 exact⟨fun h i hi j hj=>all_r.1 (h i (Nat.zero_le _) hi) j (Nat.zero_le _) hj,fun h i _ hi=>all_r.2 fun j _ hj=>h i hi j hj⟩
def frR (k n:Nat):Rat:=((k:Int):Rat)/((n:Int):Rat)
def btwR (p q:List Rat) (k n j:Nat):Rat:=p.getD j 0+frR k n*(q.getD j 0-p.getD j 0)
def btwL (p q:List Rat) (k n:Nat):List Rat:=(List.range p.length).map (btwR p q k n)
def rowS (p q:List Rat) (n k:Nat):Nat->Sp:=spn (btwL p q k n) (btwL p q (k+1) n)
def bxQ (A:Am) (Q:Nat->Sp) (i:Nat):Pg:=cor (jX (lzs A Q) A.lk i) (jY (lzs A Q) A.lk i)
def motB (A:Am) (p q:List Rat) (n m:Nat) (M:Nat->Pg):Bool:=(List.range n).all fun k=>freeB A.n (bxQ A (rowS p q n k)) m M
theorem btwL_get {p q:List Rat} {k n j:Nat} (h:j<p.length):(btwL p q k n).getD j 0=btwR p q k n j:=getD_map_range _ h
theorem mot_iff {A:Am} {p q:List Rat} {n m:Nat} {M:Nat->Pg}:motB A p q n m M=true↔∀ k,k<n->freeB A.n (bxQ A (rowS p q n k)) m M=true:=by
 unfold motB
 rw[all_r]
 exact⟨fun h k hk=>h k (Nat.zero_le _) hk,fun h k _ hk=>h k hk⟩
end
section
open Go Tryz
set_option maxRecDepth 100000
variable {G:World->(Nat->Prop)->Prop} (hG:GOk G)
theorem PC.seen {P:Program} {G:World->(Nat->Prop)->Prop} {g:Nat} {args:List PV} {hs hs':List Blk} {e:Nat} {c:Cont} (h:PC P G g args hs (.fr e c) hs'):PC P G g args hs (.lst e c) hs':=by
 intro w S μ vs hg hr hh hmu
 refine(h w S μ vs hg hr hh hmu).mono fun v w' hv => ?_
 obtain⟨S',μ',k⟩:=hv
 obtain⟨a,z,m1,m2,m3,m4⟩:=k.nw 0 ⟨e,c⟩ rfl
 have hm:Mono w' w' S' (fun n=>S' n\/n=a):=⟨fun _ h=>.inl h,fun _ _ _=>rfl⟩
 refine⟨fun n=>S' n\/n=a,μ',⟨k.os,k.tape,k.output,k.size,k.old,fun n hn=>.inl (k.subS n hn),fun n hn => ?_,k.mu,?_,fun j kb hj => ?_,(fun j kb hj=>by cases hj),(fun j j' a z z' hj=>by cases hj)⟩⟩
 ·rcases hn with hn|rfl
  ·exact k.newS n hn
  ·exact .inr ⟨m4,m2.lt⟩
 ·have hrep:RepV w' S' μ' (.sl (hs.length+0) e 0 c.len) v:=k.rep
  obtain⟨cc,T,cs,g1,g2,g3,g4,g5,g6⟩:=m2
  cases hrep with
  | agg _ _ _ hv=>cases hv
  | cell _ _ _ hv hc=>
   cases hc with
   | sl _ _ _ _ _ a' z' o cap hb hcap hz ho=>
    rw[m1]at hb
    cases hb
    have o0:o=0:=by rcases ho with ho|ho<;>omega
    subst o0
    refine .cell _ _ _ rfl (.lst _ e c a 0 cap cs hcap (.inr rfl) (fun i hi => ?_) g5 fun i j hi hj => ?_)
    ·exact(g4 i hi).mono hm _ (by cases c<;>exact MuLe.none _)
    ·rw[<-g6 i j hi hj,Nat.zero_add]
     have hlt:i*e+j<cc.size:=by
      have:(i+1)*e<=c.len*e:=Nat.mul_le_mul_right _ hi
      rw[Nat.add_mul,Nat.one_mul]at this
      have:c.len*e<=z:=g3
      omega
     simp[World.cell?,g1]
 ·obtain⟨a',z',e1,e2⟩:=k.wr j kb hj
  exact⟨a',z',e1,e2.mono hm (MuLe.none _) rfl⟩
theorem vw_out {v:PV} (h:isAgg v=false):VLe (.w v) v:=by
 have key:∀ (w:World) (S:Nat->Prop) (μ:Mu) (cs:List Value),RepC w S μ (.w v) cs->RepC w S μ v cs:=by
  intro w S μ cs hc
  cases hc with
  | w _ _ x hx=>exact hx.mono (Mono.refl' w S) _ (MuLe.none _)
 refine⟨h,fun w S μ=>⟨key w S μ,fun x hx => ?_⟩⟩
 cases hx with
 | cell _ _ _ hv hc=>exact .cell _ _ _ h (key w S μ _ hc)
 | agg _ _ _ hv=>cases hv
theorem vw_lst (e:Nat) (c:Cont):VLe (.lst e c) (.w (.lst e c)):=by
 have key:∀ (w:World) (S:Nat->Prop) (μ:Mu) (cs:List Value),RepC w S μ (.lst e c) cs->RepC w S μ (.w (.lst e c)) cs:=by
  intro w S μ cs hc
  cases hc with
  | lst _ _ _ a o cap cs h1 h3 h4 h5 h6=>exact .w _ _ _ (.lst _ _ _ a o cap cs h1 h3 h4 h5 h6)
 refine⟨rfl,fun w S μ=>⟨key w S μ,fun x hx => ?_⟩⟩
 cases hx with
 | cell _ _ _ hv hc=>exact .cell _ _ _ rfl (key w S μ _ hc)
 | agg _ _ _ hv=>cases hv
theorem vw_nil:VLe .nil (.w .nil):=by
 have key:∀ (w:World) (S:Nat->Prop) (μ:Mu) (cs:List Value),RepC w S μ .nil cs->RepC w S μ (.w .nil) cs:=by
  intro w S μ cs hc
  cases hc with
  | nil=>exact .w _ _ _ (.nil _)
 refine⟨rfl,fun w S μ=>⟨key w S μ,fun x hx => ?_⟩⟩
 cases hx with
 | cell _ _ _ hv hc=>exact .cell _ _ _ rfl (key w S μ _ hc)
 | agg _ _ _ hv=>cases hv
theorem rle_vle {u v:PV} (hu:∀ m,unfr m u=(u,[])) (hv:∀ m,unfr m v=(v,[])) (h:VLe u v):RLe u v:=
 ⟨fun m=>by rw[hu,hv];exact h,fun m=>by rw[hu,hv];exact .refl _⟩
theorem enMkG:Enters prog 74 f74 (qd f74):=⟨func74,by kernel_rfl,rfl⟩
theorem eMkG (k n:Int):(evF prog [(53,g71),(86,c72)] [] {} f74 [.i .i64 k,.i .i64 n] [] ql).run=
 (Tr.br (decide ((-72057594037927936:Int)<k)&&decide (k<=9223372036854775807)) (.br (decide ((-72057594037927936:Int)<n)&&decide (n<=9223372036854775807)) (.br (qg (nz72 (n:Rat))) (.br ((k.natAbs.log2+1+(n.natAbs.log2+1)).ble 800000) (.ok (.ret (.tup [.q ((k:Rat)/(n:Rat)) (k.natAbs.log2+1+(n.natAbs.log2+1)),.i .i64 0]) [])) (.no 1)) (.no 1)) (.no 1)) (.no 1)).run:=by kernel_rfl
theorem enBtG:Enters prog 31 f31 (qd f31):=⟨func31,by kernel_rfl,rfl⟩
def bBtG:Code:=(qi (qd f31)).getD 0 .skip
def polBtG:Pol:={live:=[(4,[0,1,9,11,23,24])]}
def OBtG:Orc:=[(25,g21),(54,g29),(75,g43)]
def lBtG:qA:=unr prog OBtG [] polBtG f31.ntmps 0 [0,1,9,11,23,24] bBtG 4
def frW (s:Rat):PV:=.tup [.q s 12,.i .i64 0]
def cfV (q:List Rat):PV:=.lst 3 (.rats 64 q)
def trBtG (s:Rat) (k n:Int) (ys:List Rat):Tr:=.br (qg (isA [.i .i64 k,.i .i64 n] True [.i .i64 k,.i .i64 n])) (.ok (.ret (.fr 3 (.rats 206 ys)) [])) (.no 1)
def bt1 (s x y:Rat):Rat:=x+s*(y-x)
def OBt1 (s:Rat) (k n:Int):Orc:=(74,cst [.i .i64 k,.i .i64 n] True (frW s))::OBtG
theorem eBtG1 (s a x:Rat) (k n:Int):(evF prog (OBt1 s k n) [(4,lBtG)] polBtG f31 [cfV [a],cfV [x],.i .i64 k,.i .i64 n] [] ql).run=(trBtG s k n [bt1 s a x]).run:=by kernel_rfl
theorem eBtG2 (s a b x y:Rat) (k n:Int):(evF prog (OBt1 s k n) [(4,lBtG)] polBtG f31 [cfV [a,b],cfV [x,y],.i .i64 k,.i .i64 n] [] ql).run=(trBtG s k n [bt1 s a x,bt1 s b y]).run:=by kernel_rfl
theorem eBtG3 (s a b c x y z:Rat) (k n:Int):(evF prog (OBt1 s k n) [(4,lBtG)] polBtG f31 [cfV [a,b,c],cfV [x,y,z],.i .i64 k,.i .i64 n] [] ql).run=(trBtG s k n [bt1 s a x,bt1 s b y,bt1 s c z]).run:=by kernel_rfl
theorem lg60 {k:Nat} (h:k<=60):Nat.log2 k+1<=6:=by
 by_cases h0:k=0
 ·subst h0;decide
 ·have:=(Nat.log2_lt (k:=6) h0).2 (by omega)
  omega
include hG in
theorem pcMkG (hT:qp G) (k n:Nat) (h1:1<=n) (hn:n<=60) (hk:k<=n):PC prog G 74 [.i .i64 k,.i .i64 n] [] (frW (frR k n)) []:=by
 have a:=lg60 (k:=k) (by omega)
 have b:=lg60 (k:=n) (by omega)
 have a':Nat.log2 (Int.natAbs (k:Int))+1<=6:=a
 have b':Nat.log2 (Int.natAbs (n:Int))+1<=6:=b
 have h0:¬ ((n:Int):Rat)=0:=fun h=>by have:(n:Int)=0:=Rat.intCast_eq_zero_iff.1 h;omega
 refine(qj hG (.cons (gk71 hG) (.cons (ck72 hG hT) .nil)) mix enMkG (hs:=[]) (L:=[]) (pol:={}) (kA (by kernel_rfl)) ((eMkG k n).trans ?_)).le (rle_vle (fun _=>rfl) (fun _=>rfl) (u:=.tup [.q (frR k n) (Nat.log2 (Int.natAbs (k:Int))+1+(Nat.log2 (Int.natAbs (n:Int))+1)),.i .i64 0]) (VLe.tup (qM (qH (by omega)) (qM (.refl _) vll0)))) (.refl _)
 rw[k5 (by simp only[kD,kE];omega),k5 (by simp only[kD,kE];omega),k5 (decP_iff.2 (show nz72 _ from h0)),k5 (by rw[kH];omega),k7]
 rfl
include hG in
theorem orcBtG (hT:qp G):OrcOK prog G OBtG:=.cons (gk21 hG hT) (.cons (gk29 hG hT) (.cons (gk43 hG hT) .nil))
include hG in
theorem pcBtG (hT:qp G) (p q:List Rat) (h1:1<=p.length) (h3:p.length<=3) (hq:q.length=p.length) (k n:Nat) (hn1:1<=n) (hn:n<=60) (hk:k<=n):
  PC prog G 31 [cfV p,cfV q,.i .i64 k,.i .i64 n] [] (.fr 3 (.rats 206 (btwL p q k n))) []:=by
 have orc:=orcBtG hG hT
 have hl:=qN (P:=prog) (G:=G) (pol:=polBtG) (n:=f31.ntmps) (m:=0) (L:=[(4,lBtG)]) (c:=qd f31) (b:=bBtG) (live:=[0,1,9,11,23,24]) (sp:=lBtG) (by kernel_rfl) (by kernel_rfl) (by kernel_rfl) (unr_ok hG orc mix (kA (by kernel_rfl)) 4)
 have tr:∀ ys,(trBtG (frR k n) k n ys).run=some (.ret (.fr 3 (.rats 206 ys)) []):=fun ys=>by unfold trBtG;rw[k5 (decP_iff.2 ⟨rfl,trivial⟩),k7]
 have oc:OrcOK prog G (OBt1 (frR k n) k n):=.cons (qS (pcMkG hG hT k n hn1 hn hk)) orc
 match p,q,h1,h3,hq with
 | [a],[x],_,_,_=>exact qj hG oc mix enBtG (hs:=[]) (pol:=polBtG) (L:=[(4,lBtG)]) hl ((eBtG1 _ a x k n).trans (tr _))
 | [a,b],[x,y],_,_,_=>exact qj hG oc mix enBtG (hs:=[]) (pol:=polBtG) (L:=[(4,lBtG)]) hl ((eBtG2 _ a b x y k n).trans (tr _))
 | [a,b,c],[x,y,z],_,_,_=>exact qj hG oc mix enBtG (hs:=[]) (pol:=polBtG) (L:=[(4,lBtG)]) hl ((eBtG3 _ a b c x y z k n).trans (tr _))
 | [],_,h,_,_=>exact absurd h (by decide)
 | _::_::_::_::_,_,_,h,_=>simp only[kI]at h;omega
theorem enCor:Enters prog 73 f73 (qd f73):=⟨func73,by kernel_rfl,rfl⟩
theorem enSl:Enters prog 71 f71 (qd f71):=⟨func71,by kernel_rfl,rfl⟩
def bSl:Code:=(qi (qd f71)).getD 0 .skip
def iSl:Code:=(qi (qd f71)).getD 1 .skip
def polSl:Pol:={live:=[(6,[0,1,2,8,9,36,37]),(11,[0,1,2,8,9,11,12,36,37,47,48])],own:=[76]}
def lsB (B:Nat->Int->Rat) (k:Int):Nat->List Rat
 | 1=>[B 0 k]
 | 2=>[B 0 k,B 1 k]
 | 3=>[B 0 k,B 1 k,B 2 k]
 | _=>[]
def isSl (p q:List Rat) (n:Int) (p' q':List Rat) (k m:Int):Prop:=p'=p/\q'=q/\m=n/\0<=k/\k<=n
def vSl (p q:List Rat) (n:Int) (B:Nat->Int->Rat) (L:Nat):Spec:=fun args hs K=>match args,hs with
 | [.lst 3 (.rats 64 p'),.lst 3 (.rats 64 q'),.i .i64 k,.i .i64 m],[]=>.br (qg (isSl p q n p' q' k m)) (K (.fr 3 (.rats 206 (lsB B k L))) []) (.no 1)
 | _,_=>.no 1
def OSl (p q:List Rat) (n:Int) (B:Nat->Int->Rat) (L:Nat):Orc:=[(31,vSl p q n B L),(121,g80),(122,g86)]
def lSi (p q:List Rat) (n:Int) (B:Nat->Int->Rat) (L:Nat):qA:=unr prog (OSl p q n B L) [] polSl f71.ntmps 0 [0,1,2,8,9,11,12,36,37,47,48] iSl 4
def lSo (p q:List Rat) (n:Int) (B:Nat->Int->Rat) (L N:Nat):qA:=unr prog (OSl p q n B L) [(11,lSi p q n B L)] polSl f71.ntmps 0 [0,1,2,8,9,36,37] bSl N
def spW (B:Nat->Int->Rat) (k:Int) (j:Nat):PV:=.agg [.q (mnR (B j k) (B j (k+1))) 206,.q (mxR (B j k) (B j (k+1))) 206]
def rowV (B:Nat->Int->Rat) (L:Nat) (k:Nat):PV:=.lst 6 (.vals ((List.range L).map (spW B k)))
def trSl (p q:List Rat) (n:Int):Nat->Nat->Tr->Tr
 | 0,_,t=>t
 | f+1,k,t=>.br (qg (isSl p q n p q (k:Int) n)) (trSl p q n f (k+1) t) (.no 1)
def enTr (p q:List Rat) (n:Nat) (B:Nat->Int->Rat) (L:Nat):Tr:=trSl p q n (n+1) 0 (.ok (.ret (.tup [.fr 1 (.vals ((List.range n).map (rowV B L))),.i .i64 0]) []))
def runSl (p q:List Rat) (n:Nat) (B:Nat->Int->Rat) (L:Nat):Tr:=evF prog (OSl p q n B L) [(6,lSo p q n B L 7),(11,lSi p q n B L)] polSl f71 [cfV p,cfV q,.i .i64 n] [] ql
theorem eSl1 (a x:Rat) (B:Nat->Int->Rat):∀ n:Nat,1<=n->n<=6->(runSl [a] [x] n B 1).run=(enTr [a] [x] n B 1).run
 | 1,_,_=>by kernel_rfl
 | 2,_,_=>by kernel_rfl
 | 3,_,_=>by kernel_rfl
 | 4,_,_=>by kernel_rfl
 | 5,_,_=>by kernel_rfl
 | 6,_,_=>by kernel_rfl
 | 0,h,_=>absurd h (by decide)
 | n+7,_,h=>by omega
theorem eSl2 (a b x y:Rat) (B:Nat->Int->Rat):∀ n:Nat,1<=n->n<=6->(runSl [a,b] [x,y] n B 2).run=(enTr [a,b] [x,y] n B 2).run
 | 1,_,_=>by kernel_rfl
 | 2,_,_=>by kernel_rfl
 | 3,_,_=>by kernel_rfl
 | 4,_,_=>by kernel_rfl
 | 5,_,_=>by kernel_rfl
 | 6,_,_=>by kernel_rfl
 | 0,h,_=>absurd h (by decide)
 | n+7,_,h=>by omega
theorem eSl3 (a b c x y z:Rat) (B:Nat->Int->Rat):∀ n:Nat,1<=n->n<=6->(runSl [a,b,c] [x,y,z] n B 3).run=(enTr [a,b,c] [x,y,z] n B 3).run
 | 1,_,_=>by kernel_rfl
 | 2,_,_=>by kernel_rfl
 | 3,_,_=>by kernel_rfl
 | 4,_,_=>by kernel_rfl
 | 5,_,_=>by kernel_rfl
 | 6,_,_=>by kernel_rfl
 | 0,h,_=>absurd h (by decide)
 | n+7,_,h=>by omega
theorem eSl (p q:List Rat) (h1:1<=p.length) (h3:p.length<=3) (hq:q.length=p.length) (n:Nat) (n1:1<=n) (n6:n<=6) (B:Nat->Int->Rat) (L:Nat) (hL:L=p.length):(runSl p q n B L).run=(enTr p q n B L).run:=by
 match p,q,h1,h3,hq,hL with
 | [a],[x],_,_,_,hL=>obtain rfl:L=1:=hL;exact eSl1 a x _ n n1 n6
 | [a,b],[x,y],_,_,_,hL=>obtain rfl:L=2:=hL;exact eSl2 a b x y _ n n1 n6
 | [a,b,c],[x,y,z],_,_,_,hL=>obtain rfl:L=3:=hL;exact eSl3 a b c x y z _ n n1 n6
 | [],_,h,_,_,_=>exact absurd h (by decide)
 | _::_::_::_::_,_,_,h,_,_=>simp only[kI]at h;omega
theorem trSl_run (p q:List Rat) (n:Nat) (t:Tr):∀ (f k:Nat),k+f<=n+1->(trSl p q n f k t).run=t.run
 | 0,_,_=>rfl
 | f+1,k,h=>by
  rw[trSl,k5 (decP_iff.2 ⟨rfl,rfl,rfl,by omega,by omega⟩)]
  exact trSl_run p q n t f (k+1) (by omega)
def btB (p q:List Rat) (n:Nat) (j:Nat) (k:Int):Rat:=btwR p q k.toNat n j
theorem lsB_eq (p q:List Rat) (n:Nat) (k:Int) (h1:1<=p.length) (h3:p.length<=3):lsB (btB p q n) k p.length=btwL p q k.toNat n:=by
 unfold btwL
 rcases(show p.length=1\/p.length=2\/p.length=3 by omega)with h|h|h<;>rw[h]<;>rfl
theorem rowV_le (p q:List Rat) (n k:Nat):VLe (rowV (btB p q n) p.length k) (.lst 6 (spsC p.length (rowS p q n k))):=by
 refine VLe.lst (by show((List.range p.length).map _).length=_;simp;rfl) fun j hj => ?_
 have hj':j<p.length:=by
  have:j<((List.range p.length).map (spW (btB p q n) k)).length:=hj
  simpa using this
 have e1:(Cont.vals ((List.range p.length).map (spW (btB p q n) k))).get j=spW (btB p q n) k j:=by
  show((List.range p.length).map (spW (btB p q n) k)).getD j .any=_
  rw[List.getD_eq_getElem?_getD,List.getElem?_map,List.getElem?_range hj']
  rfl
 have e2:(spsC p.length (rowS p q n k)).get j=.agg [.q (mnR (btwR p q k n j) (btwR p q (k+1) n j)) 260,.q (mxR (btwR p q k n j) (btwR p q (k+1) n j)) 260]:=by
  show PV.agg [.q (mnR ((btwL p q k n).getD j 0) ((btwL p q (k+1) n).getD j 0)) 260,.q (mxR ((btwL p q k n).getD j 0) ((btwL p q (k+1) n).getD j 0)) 260]=_
  rw[btwL_get hj',btwL_get hj']
 rw[e1,e2]
 have e3:((k:Int)+1).toNat=k+1:=by omega
 have e4:spW (btB p q n) k j=.agg [.q (mnR (btwR p q k n j) (btwR p q (k+1) n j)) 206,.q (mxR (btwR p q k n j) (btwR p q (k+1) n j)) 206]:=by
  show PV.agg [.q (mnR (btwR p q (k:Int).toNat n j) (btwR p q ((k:Int)+1).toNat n j)) 206,.q (mxR (btwR p q (k:Int).toNat n j) (btwR p q ((k:Int)+1).toNat n j)) 206]=_
  rw[e3]
  rfl
 rw[e4]
 exact VLe.agg (qM (qH (by omega)) (qM (qH (by omega)) vll0))
def rowP (p q:List Rat) (n k:Nat):PV:=.lst 6 (spsC p.length (rowS p q n k))
include hG in
theorem pcSl (hT:qp G) (p q:List Rat) (h1:1<=p.length) (h3:p.length<=3) (hq:q.length=p.length) (n:Nat) (n1:1<=n) (n6:n<=6):
  PC prog G 71 [cfV p,cfV q,.i .i64 n] [] (.tup [.fr 1 (.fn n (rowP p q n)),.i .i64 0]) []:=by
 have k31:qc prog G 31 (vSl p q n (btB p q n) p.length):=by
  intro args hs K x h
  unfold vSl at h
  split at h
  case h_2=>cases h
  rename_i p' q' k m
  obtain⟨hc,hr⟩:=k8 h
  obtain⟨rfl,rfl,rfl,k0,kn⟩:=decP_iff.1 hc
  have pc:=pcBtG hG hT p' q' h1 h3 hq k.toNat n n1 (by omega) (by omega)
  rw[Int.toNat_of_nonneg k0,<-lsB_eq p' q' n k h1 h3]at pc
  exact⟨_,_,pc,hr⟩
 have oc:OrcOK prog G (OSl p q n (btB p q n) p.length):=.cons k31 (.cons (gk80 hG hT) (.cons (gk86 hG hT) .nil))
 have hi:qz prog G f71.ntmps 0 [0,1,2,8,9,11,12,36,37,47,48] iSl (lSi p q n (btB p q n) p.length):=unr_ok hG oc mix (kA (by kernel_rfl)) 4
 have ho:qz prog G f71.ntmps 0 [0,1,2,8,9,36,37] bSl (lSo p q n (btB p q n) p.length 7):=
  unr_ok hG oc mix (qN (b:=iSl) (live:=[0,1,2,8,9,11,12,36,37,47,48]) (sp:=lSi p q n (btB p q n) p.length) (m:=0) (by kernel_rfl) (by kernel_rfl) (by kernel_rfl) hi) 7
 have hl:=lps2 (P:=prog) (G:=G) (pol:=polSl) (n:=f71.ntmps) (m:=0) (L:=[(6,lSo p q n (btB p q n) p.length 7),(11,lSi p q n (btB p q n) p.length)]) (c:=qd f71) (b1:=bSl) (b2:=iSl) (by kernel_rfl) (by kernel_rfl) (by kernel_rfl) (by kernel_rfl) (by kernel_rfl) ho hi
 have e:=eSl p q h1 h3 hq n n1 n6
 refine(qj hG oc mix enSl (hs:=[]) (pol:=polSl) (L:=[(6,lSo p q n (btB p q n) p.length 7),(11,lSi p q n (btB p q n) p.length)]) hl (r:=.tup [.fr 1 (.vals ((List.range n).map (rowV (btB p q n) p.length))),.i .i64 0]) (hs':=[]) ((e (btB p q n) _ rfl).trans ?_)).le (frs_le0 1 n _ _ (by simp) fun i v hi => ?_) (.refl _)
 ·unfold enTr
  rw[trSl_run p q n _ (n+1) 0 (by omega),k7]
 ·rw[List.getElem?_map]at hi
  cases hj:(List.range n)[i]? with
  | none=>rw[hj]at hi;cases hi
  | some j=>
   rw[hj]at hi
   obtain rfl:=Option.some.inj hi
   have hlt:i<n:=by
    have:=(List.getElem?_eq_some_iff.1 hj).1
    simpa using this
   rw[List.getElem?_range hlt]at hj
   obtain rfl:=Option.some.inj hj
   exact⟨rfl,rowV_le p q n i⟩
def isW (V:PV) (m:Nat) (M:Nat->Pg):Prop:=(V=.nil/\m=0)\/(V=lsV m M/\m<=20/\∀ j,j<m->okP (M j)/\pkE (M j)=0)
def lWn:qA:=unr prog [] [] polWk f69.ntmps 0 [2,9,10,11] bWk 1
theorem eWkN:(evF prog [] [(4,lWn)] polWk f69 [.nil] [] ql).run=some (.ret (.i .i64 0) []):=by kernel_rfl
def lFn:qA:=unr prog [] [] polFr f70.ntmps 0 [1,4,6,11,12,13,17,18,19] iFr 1
def soFn (n:Nat) (L:Nat->Pg) (i:Int):LS:=⟨[.nil,.bl false,lsV n L,.i .i64 n,.i .i64 i],[]⟩
theorem tFn (n:Nat) (L:Nat->Pg) (i:Int):(qe prog [] [(5,lFn)] polFr f70.ntmps 0 [1,4,11,12,13] bFr (soFn n L i)).run=
  (Tr.br (decide (i<(n:Int))) (.br (ix (i) ((n:Int))) (.br (ovf (i+1)) (.ok (.out .normal (soFn n L (i+1)))) (.no 1)) (.no 1)) (.ok (.out (.exit 0) (soFn n L i)))).run:=by kernel_rfl
theorem eFn (n:Nat) (L:Nat->Pg):(evF prog [] [(2,qy (soFn n L 0) (.exit 0) (soFn n L n))] polFr f70 [lsV n L,.nil] [] ql).run=(Tr.br (qg (isLS (soFn n L 0) (soFn n L 0))) (.ok (.ret (.bl true) [])) (.no 1)).run:=by kernel_rfl
theorem enMo:Enters prog 30 f30 (qd f30):=⟨func30,by kernel_rfl,rfl⟩
def bMo:Code:=(qi (qd f30)).getD 0 .skip
def iMo:Code:=(qi (qd f30)).getD 1 .skip
def polMo:Pol:={live:=[(10,[3,5,10,11,43,44,45]),(17,[3,5,10,11,19,43,44,45,58,59,60])]}
def corV (a b c d:Rat):PV:=.lst 6 (.vals [.agg [.q a 2320,.q b 2320],.agg [.q c 2320,.q b 2320],.agg [.q c 2320,.q d 2320],.agg [.q a 2320,.q d 2320]])
def gCor:Spec:=fun args hs K=>match args,hs with
 | [.agg [.agg [.q a 2320,.q b 2320],.agg [.q c 2320,.q d 2320]]],[]=>K (corV a b c d) []
 | _,_=>.no 1
theorem eCorR (a b c d:Rat):(evF prog [] [] {} f73 [.agg [.agg [.q a 2320,.q b 2320],.agg [.q c 2320,.q d 2320]]] [] ql).run=some (.ret (corV a b c d) []):=by kernel_rfl
def corS (x y:Sp):PV:=corV x.lo y.lo x.hi y.hi
def lMi:qA:=unr prog [(73,gCor)] [] polMo f30.ntmps 0 [3,5,10,11,19,43,44,45,58,59,60] iMo 4
def moL (L:Nat) (S:Nat->Nat->Sp) (k:Nat):PV:=.lst 6 (spsC L (S k))
def stMo (A:Am) (L:Nat) (V:PV) (n:Nat) (S:Nat->Nat->Sp) (k:Int):LS:=⟨[.w V,.ptr 0 12 0 0 [],.bl false,.i .i64 0,.lst 1 (.fn n (moL L S)),.i .i64 n,.i .i64 k],[some ⟨12,.vals [armQ A L]⟩]⟩
def RMo (A:Am) (L:Nat) (V:PV) (Q:Nat->Sp) (X Y:Nat->Sp) (ws:List PV) (b:Bool):Orc:=
 [(72,cst [armQ A L,.lst 6 (spsC L Q)] True (.tup [.fr 12 (.fn L (fun j=>bx2 (X j) (Y j))),.i .i64 0])),(73,gCor),(70,cst [.lst 1 (.vals ws),.w V] True (.bl b))]
def trMo (A:Am) (L:Nat) (V:PV) (n:Nat) (S:Nat->Nat->Sp) (k:Int) (Q:Nat->Sp) (ws:List PV) (res:Tr):Tr:=
 .br (decide (k<(n:Int))) (.br (decide ((0:Int)<=k)&&decide (k<(n:Int))) (.br (qg (isA [armQ A L,.lst 6 (spsC L Q)] True [armQ A L,.lst 6 (spsC L (S k.toNat))])) (.br (qg (isA [.lst 1 (.vals ws),.w V] True [.lst 1 (.vals ws),.w V])) res (.no 1)) (.no 1)) (.no 1)) (.ok (.out (.exit 0) (stMo A L V n S k)))
def moRd (A:Am) (L:Nat) (V:PV) (n:Nat) (S:Nat->Nat->Sp) (k:Int) (Q X Y:Nat->Sp) (b:Bool):Tr:=qe prog (RMo A L V Q X Y ((List.range L).map fun j=>corS (X j) (Y j)) b) [(17,lMi)] polMo f30.ntmps 0 [3,5,10,11,43,44,45] bMo (stMo A L V n S k)
def moT (A:Am) (L:Nat) (V:PV) (n:Nat) (S:Nat->Nat->Sp) (k:Int) (Q X Y:Nat->Sp):Bool->Tr
 | true=>trMo A L V n S k Q ((List.range L).map fun j=>corS (X j) (Y j)) (.br (ovf (k+1)) (.ok (.out .normal (stMo A L V n S (k+1)))) (.no 1))
 | false=>trMo A L V n S k Q ((List.range L).map fun j=>corS (X j) (Y j)) (.ok (.out .ret (stMo A L V n S k)))
theorem tMo1 (A:Am) (V:PV) (n:Nat) (S:Nat->Nat->Sp) (k:Int) (Q X Y:Nat->Sp):∀ b,(moRd A 1 V n S k Q X Y b).run=(moT A 1 V n S k Q X Y b).run
 | true=>by kernel_rfl
 | false=>by kernel_rfl
theorem tMo2 (A:Am) (V:PV) (n:Nat) (S:Nat->Nat->Sp) (k:Int) (Q X Y:Nat->Sp):∀ b,(moRd A 2 V n S k Q X Y b).run=(moT A 2 V n S k Q X Y b).run
 | true=>by kernel_rfl
 | false=>by kernel_rfl
theorem tMo3 (A:Am) (V:PV) (n:Nat) (S:Nat->Nat->Sp) (k:Int) (Q X Y:Nat->Sp):∀ b,(moRd A 3 V n S k Q X Y b).run=(moT A 3 V n S k Q X Y b).run
 | true=>by kernel_rfl
 | false=>by kernel_rfl
def OMo (A:Am) (V:PV) (p q:List Rat) (n:Nat) (S:Nat->Nat->Sp):Orc:=
 [(57,cst [qm A,.i .i64 p.length] True (.i .i64 0)),(71,cst [cfV p,cfV q,.i .i64 n] True (.tup [.fr 1 (.fn n (moL A.n S)),.i .i64 0])),(69,cst [.w V] True (.i .i64 0))]
def trMf (A:Am) (V:PV) (p q:List Rat) (n:Nat) (S:Nat->Nat->Sp) (b:Bool):Tr:=
 .br (qg (isA [qm A,.i .i64 p.length] True [qm A,.i .i64 p.length])) (.br (qg (isA [cfV p,cfV q,.i .i64 n] True [cfV p,cfV q,.i .i64 n])) (.br (Nat.ble (0+n) n) (.br (qg (isA [.w V] True [.w V])) (.br (qg (isLS (stMo A A.n V n S 0) (stMo A A.n V n S 0))) (.ok (.ret (.tup [.bl b,.i .i64 0]) [])) (.no 1)) (.no 1)) (.no 1)) (.no 1)) (.no 1)
theorem eMoT (A:Am) (V:PV) (p q:List Rat) (n:Nat) (S:Nat->Nat->Sp):(evF prog (OMo A V p q n S) [(10,qy (stMo A A.n V n S 0) (.exit 0) (stMo A A.n V n S n))] polMo f30 [qm A,cfV p,cfV q,.w V,.i .i64 n] [] ql).run=(trMf A V p q n S true).run:=by kernel_rfl
theorem eMoF (A:Am) (V:PV) (p q:List Rat) (n:Nat) (S:Nat->Nat->Sp) (k:Int):(evF prog (OMo A V p q n S) [(10,qy (stMo A A.n V n S 0) .ret (stMo A A.n V n S k))] polMo f30 [qm A,cfV p,cfV q,.w V,.i .i64 n] [] ql).run=(trMf A V p q n S false).run:=by kernel_rfl
include hG in
theorem pcWkW (hT:qp G) {V:PV} {m:Nat} {M:Nat->Pg} (hV:isW V m M):PC prog G 69 [.w V] [] (.i .i64 0) []:=by
 rcases hV with ⟨rfl,_⟩|⟨rfl,hm,hq⟩
 ·refine PC.args (.cons (vw_out rfl) .nil) ?_
  exact qj hG .nil mix enWk (hs:=[]) (pol:=polWk) (L:=[(4,lWn)]) (qN (b:=bWk) (live:=[2,9,10,11]) (sp:=lWn) (m:=0) (by kernel_rfl) (by kernel_rfl) (by kernel_rfl) (unr_ok hG .nil mix (kA (by kernel_rfl)) 1)) eWkN
 ·exact PC.args (.cons (vw_out rfl) .nil) (pcWk hG hT m M hm hq)
include hG in
theorem pcFrN (n:Nat) (L:Nat->Pg) (hn:n<=100):PC prog G 70 [lsV n L,.nil] [] (.bl true) []:=by
 have hi:qz prog G f70.ntmps 0 [1,4,6,11,12,13,17,18,19] iFr lFn:=unr_ok hG .nil mix (kA (by kernel_rfl)) 1
 have rd:∀ (i:Nat) (e:Exit) (ls:LS),(qe prog [] [(5,lFn)] polFr f70.ntmps 0 [1,4,11,12,13] bFr (soFn n L i)).run=some (.out e ls)->Rnd prog G f70.ntmps 0 [1,4,11,12,13] bFr (soFn n L i) e ls:=fun i e ls h=>
  qb hG .nil mix (pol:=polFr) (qN (b:=iFr) (live:=[1,4,6,11,12,13,17,18,19]) (m:=0) (by kernel_rfl) (by kernel_rfl) (by kernel_rfl) hi) (Nat.zero_le _) h
 have g:=Goes.count (R:=Rnd prog G f70.ntmps 0 [1,4,11,12,13] bFr) (fun i=>soFn n L ((i:Nat):Int)) (e:=.exit 0) (ls':=soFn n L n) (by simp) n 0
  (fun i _ hi=>by
   refine rd i _ _ ((tFn n L i).trans ?_)
   rw[k5 (kF (by omega)),k5 (by simp only[kD,kE];omega),k5 (by simp only[ovf,kD,kE];omega),k7]
   rfl)
  (by
   refine rd _ _ _ ((tFn n L _).trans ?_)
   rw[Nat.zero_add,k6 (kG (by omega)),k7])
 have g':Goes (Rnd prog G f70.ntmps 0 [1,4,11,12,13] bFr) (soFn n L 0) (.exit 0) (soFn n L n):=g
 refine qj hG .nil mix enFr (hs:=[]) (pol:=polFr) (L:=[(2,qy (soFn n L 0) (.exit 0) (soFn n L n))]) (lps1n (b:=bFr) (b':=iFr) (live:=[1,4,11,12,13]) (m:=0) (by kernel_rfl) (by kernel_rfl) (by kernel_rfl) (by kernel_rfl) (qv g')) ((eFn n L).trans ?_)
 rw[k5 qK,k7]
include hG in
theorem pcFrW (hT:qp G) (n:Nat) (L:Nat->Pg) (h1:1<=n) (hn:n<=100) (hp:∀ i,i<n->okP (L i)) {V:PV} {m:Nat} {M:Nat->Pg} (hV:isW V m M):PC prog G 70 [lsV n L,.w V] [] (.bl (freeB n L m M)) []:=by
 rcases hV with ⟨rfl,rfl⟩|⟨rfl,hm,hq⟩
 ·have e:freeB n L 0 M=true:=free_iff.2 fun i _ j hj=>absurd hj (by omega)
  rw[e]
  exact PC.args (.cons (.refl _) (.cons (vw_out rfl) .nil)) (pcFrN hG n L hn)
 ·exact PC.args (.cons (.refl _) (.cons (vw_out rfl) .nil)) (pcFr hG hT n L m M h1 hn (by omega) hp fun j hj=>(hq j hj).1)
include hG in
theorem gkCor:qc prog G 73 gCor:=by
 intro args hs K x h
 unfold gCor at h
 split at h
 case h_2=>cases h
 rename_i a b c d
 exact⟨_,_,qj hG .nil mix enCor (hs:=[]) (L:=[]) (pol:={}) (kA (by kernel_rfl)) (eCorR a b c d),h⟩
theorem corS_le (x y:Sp):VLe (corS x y) (pgV (cor x y)):=by
 refine VLe.lst rfl fun i hi => ?_
 have hi':i<4:=hi
 match i,hi' with
 | 0,_=>exact VLe.agg (qM (qH (show 2320<=32138 by omega)) (qM (qH (show 2320<=32138 by omega)) vll0))
 | 1,_=>exact VLe.agg (qM (qH (show 2320<=32138 by omega)) (qM (qH (show 2320<=32138 by omega)) vll0))
 | 2,_=>exact VLe.agg (qM (qH (show 2320<=32138 by omega)) (qM (qH (show 2320<=32138 by omega)) vll0))
 | 3,_=>exact VLe.agg (qM (qH (show 2320<=32138 by omega)) (qM (qH (show 2320<=32138 by omega)) vll0))
 | i+4,h=>omega
theorem corL_le (L:Nat) (X Y:Nat->Sp):VLe (.lst 1 (.vals ((List.range L).map fun j=>corS (X j) (Y j)))) (lsV L fun j=>cor (X j) (Y j)):=by
 refine VLe.lst (by show((List.range L).map _).length=L;simp) fun i hi => ?_
 have hi':i<L:=by
  have:i<((List.range L).map fun j=>corS (X j) (Y j)).length:=hi
  simpa using this
 have e:(Cont.vals ((List.range L).map fun j=>corS (X j) (Y j))).get i=corS (X i) (Y i):=by
  show((List.range L).map fun j=>corS (X j) (Y j)).getD i .any=_
  rw[List.getD_eq_getElem?_getD,List.getElem?_map,List.getElem?_range hi']
  rfl
 rw[e]
 exact corS_le _ _
theorem moT_step (A:Am) (V:PV) (n:Nat) (S:Nat->Nat->Sp) (k:Nat) (X Y:Nat->Sp) (hk:k<n) (hn:n<=60) (L:Nat) (b:Bool):
  (moT A L V n S k (S k) X Y b).run=some (match b with|true=>.out .normal (stMo A L V n S ((k+1:Nat):Int))|false=>.out .ret (stMo A L V n S k)):=by
 cases b with
 | true=>
  unfold moT trMo
  rw[Int.toNat_natCast,k5 (kF (by omega)),k5 (by simp only[kD,kE];omega),k5 (decP_iff.2 ⟨rfl,trivial⟩),k5 (decP_iff.2 ⟨rfl,trivial⟩),k5 (by simp only[ovf,kD,kE];omega),k7]
  rfl
 | false=>
  unfold moT trMo
  rw[Int.toNat_natCast,k5 (kF (by omega)),k5 (by simp only[kD,kE];omega),k5 (decP_iff.2 ⟨rfl,trivial⟩),k5 (decP_iff.2 ⟨rfl,trivial⟩),k7]
theorem moT_end (A:Am) (V:PV) (n:Nat) (S:Nat->Nat->Sp) (Q X Y:Nat->Sp) (L:Nat) (b:Bool):(moT A L V n S n Q X Y b).run=some (.out (.exit 0) (stMo A L V n S n)):=by
 cases b<;>unfold moT trMo<;>rw[k6 (kG (by omega)),k7]
include hG in
theorem pcMo (hT:qp G) (A:Am) (hA:armB A=true) (hS:shp A) (p q:List Rat) (hp:p.length=A.n) (hq:q.length=A.n) {V:PV} {m:Nat} {M:Nat->Pg} (hV:isW V m M) (n:Nat) (n1:1<=n) (n6:n<=6):
  PC prog G 30 [qm A,cfV p,cfV q,.w V,.i .i64 n] [] (.tup [.bl (motB A p q n m M),.i .i64 0]) []:=by
 obtain⟨a1,a2,a3,a4,h1,h3,a7⟩:=armB_c hA
 have pH:PC prog G 57 [qm A,.i .i64 p.length] [] (.i .i64 0) []:=by rw[hp];exact pcHas hG A hA
 have pS:PC prog G 71 [cfV p,cfV q,.i .i64 n] [] (.tup [.fr 1 (.fn n (moL A.n (rowS p q n))),.i .i64 0]) []:=by
  have:=pcSl hG hT p q (by omega) (by omega) (by omega) n n1 n6
  unfold rowP at this
  rw[hp]at this
  exact this
 have pB:∀ Q,PC prog G 72 [armQ A A.n,.lst 6 (spsC A.n Q)] [] (.tup [.fr 12 (.fn A.n (fun j=>bx2 (jX (lzs A Q) A.lk j) (jY (lzs A Q) A.lk j))),.i .i64 0]) []:=fun Q=>pcBs hG hT A hA hS Q
 have pF:∀ Q,PC prog G 70 [.lst 1 (.vals ((List.range A.n).map fun j=>corS (jX (lzs A Q) A.lk j) (jY (lzs A Q) A.lk j))),.w V] [] (.bl (freeB A.n (bxQ A Q) m M)) []:=fun Q=>
  PC.args (.cons (corL_le _ _ _) (.cons (.refl _) .nil)) (pcFrW hG hT A.n (bxQ A Q) h1 (by omega) (fun i _=>⟨by show 3<=4;omega,by show 4<=8;omega⟩) hV)
 have tr:∀ (k:Int) (Q X Y:Nat->Sp) (b:Bool),(moRd A A.n V n (rowS p q n) k Q X Y b).run=(moT A A.n V n (rowS p q n) k Q X Y b).run:=fun k Q X Y b=>by
  rcases(show A.n=1\/A.n=2\/A.n=3 by omega)with hn|hn|hn<;>rw[hn]
  ·exact tMo1 A V n _ k Q X Y b
  ·exact tMo2 A V n _ k Q X Y b
  ·exact tMo3 A V n _ k Q X Y b
 have rd:∀ (k:Int) (Q:Nat->Sp) (e:Exit) (ls:LS),(moT A A.n V n (rowS p q n) k Q (jX (lzs A Q) A.lk) (jY (lzs A Q) A.lk) (freeB A.n (bxQ A Q) m M)).run=some (.out e ls)->
   Rnd prog G f30.ntmps 0 [3,5,10,11,43,44,45] bMo (stMo A A.n V n (rowS p q n) k) e ls:=fun k Q e ls h=>by
  have oc:OrcOK prog G [(73,gCor)]:=.cons (gkCor hG) .nil
  have hi:qz prog G f30.ntmps 0 [3,5,10,11,19,43,44,45,58,59,60] iMo lMi:=unr_ok hG oc mix (kA (by kernel_rfl)) 4
  exact qb hG (.cons (qS (pB Q)) (.cons (gkCor hG) (.cons (qS (pF Q)) .nil))) mix (pol:=polMo) (L:=[(17,lMi)]) (qN (b:=iMo) (live:=[3,5,10,11,19,43,44,45,58,59,60]) (sp:=lMi) (m:=0) (by kernel_rfl) (by kernel_rfl) (by kernel_rfl) hi) (Nat.zero_le _) ((tr k Q _ _ _).trans h)
 obtain⟨w1,w2⟩:=Goes.search (R:=Rnd prog G f30.ntmps 0 [3,5,10,11,43,44,45] bMo) (fun k=>stMo A A.n V n (rowS p q n) ((k:Nat):Int)) (fun k=>stMo A A.n V n (rowS p q n) ((k:Nat):Int)) (fun k=>freeB A.n (bxQ A (rowS p q n k)) m M) n
  (e0:=.exit 0) (e1:=.ret) (fin:=stMo A A.n V n (rowS p q n) n) (by simp) (by simp)
  (fun k hk ok=>by
   refine rd k (rowS p q n k) _ _ ?_
   rw[ok]
   exact moT_step A V n _ k _ _ hk (by omega) A.n true)
  (fun k hk ok=>by
   refine rd k (rowS p q n k) _ _ ?_
   rw[ok]
   exact moT_step A V n _ k _ _ hk (by omega) A.n false)
  (rd n (rowS p q n 0) _ _ (moT_end A V n _ _ _ _ A.n _)) n 0 (by omega)
 have hl:∀ (lQ:qA),qz prog G f30.ntmps 0 [3,5,10,11,43,44,45] bMo lQ->LpsOK prog G polMo f30.ntmps 0 [(10,lQ)] (qd f30):=fun lQ h=>
  lps1n (b:=bMo) (b':=iMo) (live:=[3,5,10,11,43,44,45]) (m:=0) (by kernel_rfl) (by kernel_rfl) (by kernel_rfl) (by kernel_rfl) h
 have oc:OrcOK prog G (OMo A V p q n (rowS p q n)):=.cons (qS pH) (.cons (qS pS) (.cons (qS (pcWkW hG hT hV)) .nil))
 have fin:∀ b,(trMf A V p q n (rowS p q n) b).run=some (.ret (.tup [.bl b,.i .i64 0]) []):=fun b=>by
  unfold trMf
  rw[k5 (decP_iff.2 ⟨rfl,trivial⟩),k5 (decP_iff.2 ⟨rfl,trivial⟩),k5 (by rw[kH];omega),k5 (decP_iff.2 ⟨rfl,trivial⟩),k5 qK,k7]
 cases hB:motB A p q n m M with
 | true=>
  have g:Goes (Rnd prog G f30.ntmps 0 [3,5,10,11,43,44,45] bMo) (stMo A A.n V n (rowS p q n) 0) (.exit 0) (stMo A A.n V n (rowS p q n) n):=w1 fun k _ hk=>mot_iff.1 hB k hk
  exact qj hG oc mix enMo (hs:=[]) (pol:=polMo) (L:=[(10,qy (stMo A A.n V n (rowS p q n) 0) (.exit 0) (stMo A A.n V n (rowS p q n) n))]) (hl _ (qv g)) ((eMoT A V p q n _).trans (fin true))
 | false=>
  have hn':¬ ∀ k,0<=k->k<n->freeB A.n (bxQ A (rowS p q n k)) m M=true:=fun h=>by
   have:=mot_iff.2 fun k hk=>h k (Nat.zero_le _) hk
   rw[this]at hB
   cases hB
  have g:Goes (Rnd prog G f30.ntmps 0 [3,5,10,11,43,44,45] bMo) (stMo A A.n V n (rowS p q n) 0) .ret (stMo A A.n V n (rowS p q n) ((fbad (fun k=>freeB A.n (bxQ A (rowS p q n k)) m M) n 0:Nat):Int)):=w2 hn'
  generalize ((fbad (fun k=>freeB A.n (bxQ A (rowS p q n k)) m M) n 0:Nat):Int)=k at g
  exact qj hG oc mix enMo (hs:=[]) (pol:=polMo) (L:=[(10,qy (stMo A A.n V n (rowS p q n) 0) .ret (stMo A A.n V n (rowS p q n) k))]) (hl _ (qv g)) ((eMoF A V p q n _ k).trans (fin false))
theorem enPo1:Enters prog 115 f115 (qd f115):=⟨func115,by kernel_rfl,rfl⟩
theorem enPo:Enters prog 66 f66 (qd f66):=⟨func66,by kernel_rfl,rfl⟩
def sPo:Spec:=evF prog [(14,s45),(92,s104)] [] {wr:=[(14,[0])]} f115
theorem ePo (v:PV):(evF prog [(115,sPo)] [] {wr:=[(115,[0])]} f66 [.w v] [] ql).run=
 (Tr.br (okW v&&decide ((0:Int)<6)&&decide ((6:Int)<=4294967296)) (.br (ib ((1:Int)+nx v (6:Int))) (.br (okW (rs v)&&decide ((0:Int)<6)&&decide ((6:Int)<=4294967296)) (.br (ib ((1:Int)+nx (rs v) (6:Int))) (.br (okW (rs (rs v))&&decide ((0:Int)<4)&&decide ((4:Int)<=4294967296)) (.br (decide (nx (rs (rs v)) (4:Int)=0)) (.br (ib ((0:Int)-((1:Int)+nx v (6:Int)))) (.br (ib ((0:Int)-((1:Int)+nx (rs v) (6:Int)))) (.br (smI ((0:Int)-((1:Int)+nx v (6:Int)))&&smI ((0:Int)-((1:Int)+nx (rs v) (6:Int)))) (.br (ib ((0:Int)-((1:Int)+nx (rs v) (6:Int)))) (.br (smI ((1:Int)+nx v (6:Int))&&smI ((0:Int)-((1:Int)+nx (rs v) (6:Int)))) (.br (smI ((1:Int)+nx v (6:Int))&&smI ((1:Int)+nx (rs v) (6:Int))) (.br (ib ((0:Int)-((1:Int)+nx v (6:Int)))) (.br (smI ((0:Int)-((1:Int)+nx v (6:Int)))&&smI ((1:Int)+nx (rs v) (6:Int))) (.ok (.ret (.lst 6 (.vals [.agg [.q (mkRat ((0:Int)-((1:Int)+nx v (6:Int))) (4:Nat)) 64,.q (mkRat ((0:Int)-((1:Int)+nx (rs v) (6:Int))) (4:Nat)) 64],.agg [.q (mkRat ((1:Int)+nx v (6:Int)) (4:Nat)) 64,.q (mkRat ((0:Int)-((1:Int)+nx (rs v) (6:Int))) (4:Nat)) 64],.agg [.q (mkRat ((1:Int)+nx v (6:Int)) (4:Nat)) 64,.q (mkRat ((1:Int)+nx (rs v) (6:Int)) (4:Nat)) 64],.agg [.q (mkRat ((0:Int)-((1:Int)+nx v (6:Int))) (4:Nat)) 64,.q (mkRat ((1:Int)+nx (rs v) (6:Int)) (4:Nat)) 64]])) [])) (.no 1)) (.no 5005)) (.no 1)) (.no 1)) (.no 5011)) (.no 1)) (.no 5015)) (.no 5017)) (.br (decide (nx (rs (rs v)) (4:Int)=1)) (.br (ib ((0:Int)-((1:Int)+nx v (6:Int)))) (.br (ib ((0:Int)-((1:Int)+nx (rs v) (6:Int)))) (.br (smI ((0:Int)-((1:Int)+nx v (6:Int)))&&smI ((0:Int)-((1:Int)+nx (rs v) (6:Int)))) (.br (ib ((0:Int)-((1:Int)+nx (rs v) (6:Int)))) (.br (smI ((1:Int)+nx v (6:Int))&&smI ((0:Int)-((1:Int)+nx (rs v) (6:Int)))) (.br (ib ((2:Int)*((1:Int)+nx v (6:Int)))) (.br (ib ((2:Int)*((1:Int)+nx v (6:Int))+1)) (.br (okW (rs (rs (rs v)))&&decide ((0:Int)<2*((1:Int)+nx v (6:Int))+1)&&decide ((2:Int)*((1:Int)+nx v (6:Int))+1<=4294967296)) (.br (ib (nx (rs (rs (rs v))) ((2:Int)*((1:Int)+nx v (6:Int))+1)-((1:Int)+nx v (6:Int)))) (.br (smI (nx (rs (rs (rs v))) ((2:Int)*((1:Int)+nx v (6:Int))+1)-((1:Int)+nx v (6:Int)))&&smI ((1:Int)+nx (rs v) (6:Int))) (.ok (.ret (.lst 6 (.vals [.agg [.q (mkRat ((0:Int)-((1:Int)+nx v (6:Int))) (4:Nat)) 64,.q (mkRat ((0:Int)-((1:Int)+nx (rs v) (6:Int))) (4:Nat)) 64],.agg [.q (mkRat ((1:Int)+nx v (6:Int)) (4:Nat)) 64,.q (mkRat ((0:Int)-((1:Int)+nx (rs v) (6:Int))) (4:Nat)) 64],.agg [.q (mkRat (nx (rs (rs (rs v))) ((2:Int)*((1:Int)+nx v (6:Int))+1)-((1:Int)+nx v (6:Int))) (4:Nat)) 64,.q (mkRat ((1:Int)+nx (rs v) (6:Int)) (4:Nat)) 64]])) [])) (.no 1)) (.no 7005)) (.no 1)) (.no 7008)) (.no 7009)) (.no 1)) (.no 7013)) (.no 1)) (.no 7017)) (.no 7019)) (.br (decide (nx (rs (rs v)) (4:Int)=2)) (.br (ib ((0:Int)-((1:Int)+nx v (6:Int)))) (.br (ib ((0:Int)-((1:Int)+nx v (6:Int))-1)) (.br (ib ((0:Int)-((1:Int)+nx (rs v) (6:Int)))) (.br (ib ((0:Int)-((1:Int)+nx (rs v) (6:Int))-1)) (.br (smI ((0:Int)-((1:Int)+nx v (6:Int))-1)&&smI ((0:Int)-((1:Int)+nx (rs v) (6:Int))-1)) (.br (ib ((0:Int)-((1:Int)+nx (rs v) (6:Int)))) (.br (ib ((0:Int)-((1:Int)+nx (rs v) (6:Int))-1)) (.br (smI ((1:Int)+nx v (6:Int))&&smI ((0:Int)-((1:Int)+nx (rs v) (6:Int))-1)) (.br (ib ((1:Int)+nx v (6:Int)+1)) (.br (ib ((0:Int)-((1:Int)+nx (rs v) (6:Int)))) (.br (smI ((1:Int)+nx v (6:Int)+1)&&smI ((0:Int)-((1:Int)+nx (rs v) (6:Int)))) (.br (ib ((1:Int)+nx v (6:Int)+1)) (.br (smI ((1:Int)+nx v (6:Int)+1)&&smI ((1:Int)+nx (rs v) (6:Int))) (.br (ib ((0:Int)-((1:Int)+nx v (6:Int)))) (.br (ib ((0:Int)-((1:Int)+nx v (6:Int))-1)) (.br (smI ((0:Int)-((1:Int)+nx v (6:Int))-1)&&smI ((1:Int)+nx (rs v) (6:Int))) (.ok (.ret (.lst 6 (.vals [.agg [.q (mkRat ((0:Int)-((1:Int)+nx v (6:Int))-1) (4:Nat)) 64,.q (mkRat ((0:Int)-((1:Int)+nx (rs v) (6:Int))-1) (4:Nat)) 64],.agg [.q (mkRat ((1:Int)+nx v (6:Int)) (4:Nat)) 64,.q (mkRat ((0:Int)-((1:Int)+nx (rs v) (6:Int))-1) (4:Nat)) 64],.agg [.q (mkRat ((1:Int)+nx v (6:Int)+1) (4:Nat)) 64,.q (mkRat ((0:Int)-((1:Int)+nx (rs v) (6:Int))) (4:Nat)) 64],.agg [.q (mkRat ((1:Int)+nx v (6:Int)+1) (4:Nat)) 64,.q (mkRat ((1:Int)+nx (rs v) (6:Int)) (4:Nat)) 64],.agg [.q (mkRat ((0:Int)-((1:Int)+nx v (6:Int))-1) (4:Nat)) 64,.q (mkRat ((1:Int)+nx (rs v) (6:Int)) (4:Nat)) 64]])) [])) (.no 1)) (.no 9005)) (.no 9006)) (.no 1)) (.no 9010)) (.no 1)) (.no 9013)) (.no 9015)) (.no 1)) (.no 9018)) (.no 9019)) (.no 1)) (.no 9023)) (.no 9024)) (.no 9026)) (.no 9027)) (.br (ib ((0:Int)-((1:Int)+nx v (6:Int)))) (.br (smI ((0:Int)-((1:Int)+nx v (6:Int)))&&smI (0:Int)) (.br (ib ((0:Int)-((1:Int)+nx (rs v) (6:Int)))) (.br (smI (0:Int)&&smI ((0:Int)-((1:Int)+nx (rs v) (6:Int)))) (.br (smI ((1:Int)+nx v (6:Int))&&smI (0:Int)) (.br (smI (0:Int)&&smI ((1:Int)+nx (rs v) (6:Int))) (.ok (.ret (.lst 6 (.vals [.agg [.q (mkRat ((0:Int)-((1:Int)+nx v (6:Int))) (4:Nat)) 64,.q (mkRat (0:Int) (4:Nat)) 64],.agg [.q (mkRat (0:Int) (4:Nat)) 64,.q (mkRat ((0:Int)-((1:Int)+nx (rs v) (6:Int))) (4:Nat)) 64],.agg [.q (mkRat ((1:Int)+nx v (6:Int)) (4:Nat)) 64,.q (mkRat (0:Int) (4:Nat)) 64],.agg [.q (mkRat (0:Int) (4:Nat)) 64,.q (mkRat ((1:Int)+nx (rs v) (6:Int)) (4:Nat)) 64]])) [])) (.no 1)) (.no 1)) (.no 1)) (.no 10008)) (.no 1)) (.no 10011))))) (.no 1)) (.no 2003)) (.no 1)) (.no 2006)) (.no 1)).run:=by kernel_rfl
def pgI (w h c x:Int):List (Int × Int):=
 if c=0 then [(0-w,0-h),(w,0-h),(w,h),(0-w,h)]else if c=1 then [(0-w,0-h),(w,0-h),(x-w,h)]
 else if c=2 then [(0-w-1,0-h-1),(w,0-h-1),(w+1,0-h),(w+1,h),(0-w-1,h)]else [(0-w,0),(0,0-h),(w,0),(0,h)]
def plyL (v:PV):List (Int × Int):=pgI (1+nx v 6) (1+nx (rs v) 6) (nx (rs (rs v)) 4) (nx (rs (rs (rs v))) (2*(1+nx v 6)+1))
def ptI (p:Int × Int):PV:=.agg [.q (mkRat p.1 4) 64,.q (mkRat p.2 4) 64]
def triI (a b c:Int × Int):Int:=(b.1-a.1)*(c.2-a.2)-(b.2-a.2)*(c.1-a.1)
def okI4 (l:List (Int × Int)):Bool:=decide (3<=l.length)&&decide (l.length<=5)&&(List.range l.length).all fun i=>(List.range l.length).all fun k=>decide (k<2)||decide (0<triI (l.getD i (0,0)) (l.getD ((i+1)%l.length) (0,0)) (l.getD ((i+k)%l.length) (0,0)))
theorem pgI_all:((List.range 6).all fun w=>(List.range 6).all fun h=>(List.range 4).all fun c=>(List.range 13).all fun x=>(decide (c≠1&&x≠0)||decide (2*(1+w)<x))||okI4 (pgI ((1+w:Nat):Int) ((1+h:Nat):Int) (c:Int) (x:Int)))=true:=by kernel_rfl
theorem plyL_ok (v:PV):okI4 (plyL v)=true:=by
 have a:=qw v (show(0:Int)<6 by omega)
 have b:=qw (rs v) (show(0:Int)<6 by omega)
 have c:=qw (rs (rs v)) (show(0:Int)<4 by omega)
 have d:=qw (rs (rs (rs v))) (show(0:Int)<2*(1+nx v 6)+1 by omega)
 have key:=pgI_all
 simp only[List.all_eq_true,List.mem_range,Bool.or_eq_true]at key
 have hx:∀ y:Int,plyL v=pgI (1+nx v 6) (1+nx (rs v) 6) (nx (rs (rs v)) 4) y\/y≠nx (rs (rs (rs v))) (2*(1+nx v 6)+1):=fun y=>by
  by_cases h:y=nx (rs (rs (rs v))) (2*(1+nx v 6)+1)
  ·left;rw[h];rfl
  ·exact .inr h
 have e:∃ y:Nat,y<13/\plyL v=pgI (1+nx v 6) (1+nx (rs v) 6) (nx (rs (rs v)) 4) (y:Int)/\(¬ (nx (rs (rs v)) 4=1)->y=0)/\(y:Int)<=2*(1+nx v 6):=by
  by_cases h1:nx (rs (rs v)) 4=1
  ·refine⟨(nx (rs (rs (rs v))) (2*(1+nx v 6)+1)).toNat,by omega,?_,fun h=>absurd h1 h,by omega⟩
   rw[Int.toNat_of_nonneg d.1];rfl
  ·refine⟨0,by omega,?_,fun _=>rfl,by omega⟩
   unfold plyL pgI
   simp only[if_neg h1]
 obtain⟨y,hy,e,h0,h2⟩:=e
 rw[e]
 have:=key (nx v 6).toNat (by omega) (nx (rs v) 6).toNat (by omega) (nx (rs (rs v)) 4).toNat (by omega) y hy
 rw[show((1+(nx v 6).toNat:Nat):Int)=1+nx v 6 by omega,show((1+(nx (rs v) 6).toNat:Nat):Int)=1+nx (rs v) 6 by omega,show(((nx (rs (rs v)) 4).toNat:Nat):Int)=nx (rs (rs v)) 4 by omega]at this
 rcases this with (h|h)|h
 ·exfalso
  simp only[ne_eq,decide_not,kD,kK,kM,kE]at h
  exact h.2 (h0 fun h'=>h.1 (by omega))
 ·exfalso
  have:=of_decide_eq_true h
  omega
 ·exact h
theorem okI4_c {l:List (Int × Int)} (h:okI4 l=true):3<=l.length/\l.length<=5/\∀ i k,i<l.length->2<=k->k<l.length->0<triI (l.getD i (0,0)) (l.getD ((i+1)%l.length) (0,0)) (l.getD ((i+k)%l.length) (0,0)):=by
 simp only[okI4,kD,kE,List.all_eq_true,List.mem_range,Bool.or_eq_true]at h
 refine⟨h.1.1,h.1.2,fun i k hi h2 hk => ?_⟩
 rcases h.2 i hi k hk with h'|h'
 ·omega
 ·exact h'
def wlG (l:List (Int × Int)) (ax ay:Int):Pg:=⟨l.length,fun k=>mkRat (l.getD k (0,0)).1 4+mkRat ax 4,fun k=>mkRat (l.getD k (0,0)).2 4+mkRat ay 4⟩
theorem tri_wl (a b c:Int × Int) (ax ay:Int):tri (mkRat a.1 4+mkRat ax 4) (mkRat a.2 4+mkRat ay 4) (mkRat b.1 4+mkRat ax 4) (mkRat b.2 4+mkRat ay 4) (mkRat c.1 4+mkRat ax 4) (mkRat c.2 4+mkRat ay 4)=(triI a b c:Rat)/16:=by
 unfold tri triI
 simp only[Rat.mkRat_eq_div,Rat.intCast_sub,Rat.intCast_mul]
 have h4:(((4:Nat):Int):Rat)=4:=rfl
 have h4':((4:Nat):Rat)=4:=rfl
 try rw[h4]
 try rw[h4']
 grind
theorem wlG_ok {l:List (Int × Int)} (h:okI4 l=true) (ax ay:Int):okP (wlG l ax ay)/\pkE (wlG l ax ay)=0:=by
 obtain⟨h1,h2,h3⟩:=okI4_c h
 refine⟨⟨h1,by show l.length<=8;omega⟩,pkOf fun i k hi hk2 hk => ?_⟩
 rw[show trP (wlG l ax ay) i ((i+1)%(wlG l ax ay).n) ((i+k)%(wlG l ax ay).n)=_ from tri_wl (l.getD i (0,0)) (l.getD ((i+1)%l.length) (0,0)) (l.getD ((i+k)%l.length) (0,0)) ax ay]
 have:=h3 i k hi hk2 hk
 have p:(0:Rat)<(triI (l.getD i (0,0)) (l.getD ((i+1)%l.length) (0,0)) (l.getD ((i+k)%l.length) (0,0)):Rat):=Rat.intCast_lt_intCast.2 this
 generalize (triI (l.getD i (0,0)) (l.getD ((i+1)%l.length) (0,0)) (l.getD ((i+k)%l.length) (0,0)):Rat)=t at*
 grind
include hG in
theorem pcPo (v:PV) (hv:okW v=true):PC prog G 66 [.w v] [] (.lst 6 (.vals ((plyL v).map ptI))) []:=by
 have k:=qw v (show(0:Int)<6 by omega)
 have k':=qw (rs v) (show(0:Int)<6 by omega)
 have k2:=qw (rs (rs v)) (show(0:Int)<4 by omega)
 have k3:=qw (rs (rs (rs v))) (show(0:Int)<2*(1+nx v 6)+1 by omega)
 have w1:=qG hv
 have w2:=qG w1
 have w3:=qG w2
 refine qj hG (.cons (spec_ev hG (.cons (ok45 hG) (.cons (ok104 hG) .nil)) mix enPo1 (fun _=>kA (by kernel_rfl))) .nil) mix enPo (hs:=[]) (L:=[]) (pol:={wr:=[(115,[0])]}) (kA (by kernel_rfl)) ((ePo v).trans ?_)
 have b1:∀ (u:PV) (n:Int),okW u=true->0<n->n<=4294967296->(okW u&&decide ((0:Int)<n)&&decide (n<=4294967296))=true:=fun u n h1 h2 h3=>by rw[h1,kF h2,kF h3];rfl
 unfold plyL pgI
 rw[k5 (b1 _ _ hv (by omega) (by omega)),k5 (by simp only[kD,kE];omega),k5 (b1 _ _ w1 (by omega) (by omega)),k5 (by simp only[kD,kE];omega),k5 (b1 _ _ w2 (by omega) (by omega))]
 by_cases h0:nx (rs (rs v)) 4=0
 ·rw[k5 (kF h0),if_pos h0]
  repeat rw[k5 (by first|(simp only[kD,kE];omega)|(simp only[kD,smI_iff];omega))]
  rw[k7];rfl
 rw[k6 (kG h0),if_neg h0]
 by_cases h1:nx (rs (rs v)) 4=1
 ·rw[k5 (kF h1),if_pos h1]
  repeat rw[k5 (by first|(simp only[kD,kE];omega)|(simp only[kD,smI_iff];omega)|exact b1 _ _ w3 (by omega) (by omega))]
  rw[k7];rfl
 rw[k6 (kG h1),if_neg h1]
 by_cases h2:nx (rs (rs v)) 4=2
 ·rw[k5 (kF h2),if_pos h2]
  repeat rw[k5 (by first|(simp only[kD,kE];omega)|(simp only[kD,smI_iff];omega))]
  rw[k7];rfl
 rw[k6 (kG h2),if_neg h2]
 repeat rw[k5 (by first|(simp only[kD,kE];omega)|(simp only[kD,smI_iff];omega))]
 rw[k7];rfl
theorem goes_ent {P:Program} {G:World->(Nat->Prop)->Prop} {n m:Nat} {live:List Nat} {a:Code} {ls fin fin':LS} {e:Exit} (h:Goes (Rnd P G n m live a) ls e fin) (he:Ent G n m live fin fin'):Goes (Rnd P G n m live a) ls e fin':=by
 induction h with
 | last ls e ls' h h'=>exact .last _ _ _ (h.ent he) h'
 | more ls ls1 e ls' h _ ih=>exact .more _ _ _ _ h (ih he)
theorem ent_le {G:World->(Nat->Prop)->Prop} {n m:Nat} {live:List Nat} {ts:List PV} {h h':qT} (hl:h.length=h'.length) (hm:m<=h'.length) (hk:∀ b k',hget h' b=some k'->∃ k,hget h b=some k/\KLe k k'):Ent G n m live ⟨ts,h⟩ ⟨ts,h'⟩:=by
 refine⟨hm,fun E _ a w hi => ?_⟩
 obtain⟨S,μ,iv⟩:=hi
 refine⟨S,μ,iv.g,iv.defers,iv.len,iv.rep,⟨fun b k' hb => ?_,fun b k' a z hb hmu => ?_,fun b b' k k' a z z' hb hb' h1 h2 => ?_,iv.hrel.lt⟩,fun b hb=>iv.free b (by show h.length<=b;have:h'.length<=b:=hb;omega),⟨iv.link.os,iv.link.tape,iv.link.output,iv.link.size,iv.link.old,iv.link.subS,iv.link.newS,iv.link.mu,fun b k' a z hb hmu => ?_⟩⟩
 ·obtain⟨k,h1,h2⟩:=hk b k' hb
  obtain⟨a,z,h3,h4⟩:=iv.hrel.blk b k h1
  exact⟨a,z,h3,h2 _ _ _ _ _ h4⟩
 ·obtain⟨k,h1,_⟩:=hk b k' hb
  exact iv.hrel.sep b k a z h1 hmu
 ·obtain⟨k0,e1,_⟩:=hk b k hb
  obtain⟨k1,e2,_⟩:=hk b' k' hb'
  exact iv.hrel.inj b b' k0 k1 a z z' e1 e2 h1 h2
 ·obtain⟨k,h1,_⟩:=hk b k' hb
  exact iv.link.place b k a z h1 hmu
theorem enWs:Enters prog 27 f27 (qd f27):=⟨func27,by kernel_rfl,rfl⟩
def bWs:Code:=(qi (qd f27)).getD 0 .skip
def iWs:Code:=(qi (qd f27)).getD 1 .skip
def polWs:Pol:={live:=[(4,[3,4,13,14]),(8,[3,4,5,6,13,14,32,33,34])],own:=[47],wr:=[(14,[0])]}
def wpt (F:Nat->Int × Int) (ax ay:Int) (k:Nat):PV:=.agg [.q (mkRat (F k).1 4+mkRat ax 4) 129,.q (mkRat (F k).2 4+mkRat ay 4) 129]
def sB (v:PV):Option Blk:=some ⟨1,.vals [.agg [.w v]]⟩
def aB (ax ay:Int):Option Blk:=some ⟨6,.vals [.agg [.q (mkRat ax 4) 64,.q (mkRat ay 4) 64]]⟩
structure Wl where
 n:Nat
 F:Nat->Int × Int
 x:Int
 y:Int
def wB (W:Wl):Option Blk:=some ⟨6,.fn W.n (wpt W.F W.x W.y)⟩
def wA (v:PV) (m:Int) (N:Nat) (F:Nat->Int × Int) (ax ay:Int) (W0 W1:Wl):Nat->LS
 | 0=>⟨[.ptr 0 1 0 0 [],.nil,.nil,.ptr 1 6 0 0 [],.i .i64 m,.i .i64 0,.lst 6 (.fn N (fun k=>ptI (F k))),.i .i64 N,.i .i64 0],[sB v,aB ax ay]⟩
 | 1=>⟨[.ptr 0 1 0 0 [],.sl 1 1 0 1,.nil,.ptr 2 6 0 0 [],.i .i64 m,.i .i64 1,.lst 6 (.fn N (fun k=>ptI (F k))),.i .i64 N,.i .i64 0],[sB v,some ⟨1,.vals [.sl 3 6 0 W0.n]⟩,aB ax ay,wB W0]⟩
 | _=>⟨[.ptr 0 1 0 0 [],.sl 1 1 0 2,.nil,.ptr 2 6 0 0 [],.i .i64 m,.i .i64 2,.lst 6 (.fn N (fun k=>ptI (F k))),.i .i64 N,.i .i64 0],[sB v,some ⟨1,.vals [.sl 3 6 0 W0.n,.sl 4 6 0 W1.n]⟩,aB ax ay,wB W0,wB W1]⟩
def wZ (v:PV) (m:Int) (N:Nat) (F:Nat->Int × Int) (ax ay:Int) (W0 W1:Wl) (c:Cont):Nat->LS
 | 0=>⟨[.ptr 0 1 0 0 [],.nil,.sl 1 6 0 N,.ptr 2 6 0 0 [],.i .i64 m,.i .i64 0,.lst 6 (.fn N (fun k=>ptI (F k))),.i .i64 N,.i .i64 N],[sB v,some ⟨6,c⟩,aB ax ay]⟩
 | 1=>⟨[.ptr 0 1 0 0 [],.sl 1 1 0 1,.sl 2 6 0 N,.ptr 3 6 0 0 [],.i .i64 m,.i .i64 1,.lst 6 (.fn N (fun k=>ptI (F k))),.i .i64 N,.i .i64 N],[sB v,some ⟨1,.vals [.sl 4 6 0 W0.n]⟩,some ⟨6,c⟩,aB ax ay,wB W0]⟩
 | _=>⟨[.ptr 0 1 0 0 [],.sl 1 1 0 2,.sl 2 6 0 N,.ptr 3 6 0 0 [],.i .i64 m,.i .i64 2,.lst 6 (.fn N (fun k=>ptI (F k))),.i .i64 N,.i .i64 N],[sB v,some ⟨1,.vals [.sl 4 6 0 W0.n,.sl 5 6 0 W1.n]⟩,some ⟨6,c⟩,aB ax ay,wB W0,wB W1]⟩
def outK:Exit->LS->Tr:=fun e ls=>.ok (.out e ls)
def runW (v:PV) (m:Int) (N:Nat) (F:Nat->Int × Int) (ax ay:Int) (W0 W1:Wl) (j:Nat):Tr:=unr prog [(67,g57)] [] polWs f27.ntmps 0 [3,4,5,6,13,14,32,33,34] iWs 6 (wA v m N F ax ay W0 W1 j) outK
def endW (v:PV) (m:Int) (N:Nat) (F:Nat->Int × Int) (ax ay:Int) (W0 W1:Wl) (j:Nat):Option Res:=some (.out (.exit 2) (wZ v m N F ax ay W0 W1 (.vals ((List.range N).map (wpt F ax ay))) j))
theorem eW3 (v:PV) (m:Int) (F:Nat->Int × Int) (ax ay:Int) (W0 W1:Wl):∀ j,j<3->(runW v m 3 F ax ay W0 W1 j).run=endW v m 3 F ax ay W0 W1 j
 | 0,_=>by kernel_rfl
 | 1,_=>by kernel_rfl
 | 2,_=>by kernel_rfl
 | j+3,h=>by omega
theorem eW4 (v:PV) (m:Int) (F:Nat->Int × Int) (ax ay:Int) (W0 W1:Wl):∀ j,j<3->(runW v m 4 F ax ay W0 W1 j).run=endW v m 4 F ax ay W0 W1 j
 | 0,_=>by kernel_rfl
 | 1,_=>by kernel_rfl
 | 2,_=>by kernel_rfl
 | j+3,h=>by omega
theorem eW5 (v:PV) (m:Int) (F:Nat->Int × Int) (ax ay:Int) (W0 W1:Wl):∀ j,j<3->(runW v m 5 F ax ay W0 W1 j).run=endW v m 5 F ax ay W0 W1 j
 | 0,_=>by kernel_rfl
 | 1,_=>by kernel_rfl
 | 2,_=>by kernel_rfl
 | j+3,h=>by omega
def isK (ks ks':List Int):Prop:=ks'=ks
def vPo (ks:List Int) (N:Nat) (F:Nat->Int × Int):Spec:=fun args hs K=>match args,hs with
 | [.lst 1 (.ints .i64 ks')],[]=>.br (qg (isK ks ks')) (K (.lst 6 (.fn N (fun k=>ptI (F k)))) []) (.no 1)
 | _,_=>.no 1
def wS (v:PV) (m:Int) (W0 W1 W2:Wl):Nat->LS
 | 0=>⟨[.ptr 0 1 0 0 [],.nil,.i .i64 m,.i .i64 0],[sB v]⟩
 | 1=>⟨[.ptr 0 1 0 0 [],.sl 1 1 0 1,.i .i64 m,.i .i64 1],[sB v,some ⟨1,.vals [.sl 2 6 0 W0.n]⟩,wB W0]⟩
 | 2=>⟨[.ptr 0 1 0 0 [],.sl 1 1 0 2,.i .i64 m,.i .i64 2],[sB v,some ⟨1,.vals [.sl 2 6 0 W0.n,.sl 3 6 0 W1.n]⟩,wB W0,wB W1]⟩
 | _=>⟨[.ptr 0 1 0 0 [],.sl 1 1 0 3,.i .i64 m,.i .i64 3],[sB v,some ⟨1,.vals [.sl 2 6 0 W0.n,.sl 3 6 0 W1.n,.sl 4 6 0 W2.n]⟩,wB W0,wB W1,wB W2]⟩
def r5 (v:PV):PV:=rs (rs (rs (rs (rs v))))
def wKs (v:PV):List Int:=[nx (rs (rs v)) 60,nx (rs (rs (rs v))) 60,nx (rs (rs (rs (rs v)))) 60]
def wX (v:PV):Int:=nx v 33-16
def wY (v:PV):Int:=nx (rs v) 33-16
def OWs (v:PV) (N:Nat) (F:Nat->Int × Int):Orc:=[(14,s45),(65,s23),(66,vPo (wKs v) N F),(67,g57)]
def c33 (v:PV):Bool:=okW v&&decide ((0:Int)<33)&&decide ((33:Int)<=4294967296)
def c60 (v:PV):Bool:=okW v&&decide ((0:Int)<60)&&decide ((60:Int)<=4294967296)
def cN4 (x:Int):Bool:=decide ((0:Int)<4)&&decide ((4:Int)<4611686018427387904)&&decide (-4611686018427387904<x)&&decide (x<4611686018427387904)
def trW (v:PV) (j m:Int) (st nx ex:LS):Tr:=
 .br (decide (j<m)) (.br (c33 v) (.br (ovf (wX v)) (.br (cN4 (wX v)) (.br (c33 (rs v)) (.br (ovf (wY v)) (.br (cN4 (wY v)) (.br (c60 (rs (rs v))) (.br (c60 (rs (rs (rs v)))) (.br (c60 (rs (rs (rs (rs v))))) (.br (qg (isK (wKs v) (wKs v)))
  (.br (qg (isLS st st)) (.ok (.out .normal nx)) (.no 1)) (.no 1)) (.no 1)) (.no 1)) (.no 1)) (.no 1)) (.no 1)) (.no 1)) (.no 1)) (.no 1)) (.no 1)) (.ok (.out (.exit 0) ex))
def rdW (v:PV) (m:Int) (N:Nat) (F:Nat->Int × Int) (W0 W1 W2:Wl) (j:Nat):Tr:=
 qe prog (OWs v N F) [(8,qy (wA (r5 v) m N F (wX v) (wY v) W0 W1 j) (.exit 2) (wZ (r5 v) m N F (wX v) (wY v) W0 W1 (.fn N (wpt F (wX v) (wY v))) j))] polWs f27.ntmps 0 [3,4,13,14] bWs (wS v m W0 W1 W2 j)
theorem tW0 (v:PV) (m:Int) (N:Nat) (F:Nat->Int × Int) (W0 W1 W2:Wl):(rdW v m N F W0 W1 W2 0).run=(trW v 0 m (wA (r5 v) m N F (wX v) (wY v) W0 W1 0) (wS (r5 v) m ⟨N,F,wX v,wY v⟩ W1 W2 1) (wS v m W0 W1 W2 0)).run:=by kernel_rfl
theorem tW1 (v:PV) (m:Int) (N:Nat) (F:Nat->Int × Int) (W0 W1 W2:Wl):(rdW v m N F W0 W1 W2 1).run=(trW v 1 m (wA (r5 v) m N F (wX v) (wY v) W0 W1 1) (wS (r5 v) m W0 ⟨N,F,wX v,wY v⟩ W2 2) (wS v m W0 W1 W2 1)).run:=by kernel_rfl
theorem tW2 (v:PV) (m:Int) (N:Nat) (F:Nat->Int × Int) (W0 W1 W2:Wl):(rdW v m N F W0 W1 W2 2).run=(trW v 2 m (wA (r5 v) m N F (wX v) (wY v) W0 W1 2) (wS (r5 v) m W0 W1 ⟨N,F,wX v,wY v⟩ 3) (wS v m W0 W1 W2 2)).run:=by kernel_rfl
theorem tWx (v:PV) (m:Int) (W0 W1 W2:Wl):∀ j,j<=3->(qe prog [] [] polWs f27.ntmps 0 [3,4,13,14] bWs (wS v m W0 W1 W2 j)).run=(Tr.br (decide ((j:Int)<m)) (.no 1) (.ok (.out (.exit 0) (wS v m W0 W1 W2 j)))).run
 | 0,_=>by kernel_rfl
 | 1,_=>by kernel_rfl
 | 2,_=>by kernel_rfl
 | 3,_=>by kernel_rfl
 | j+4,h=>by omega
def c4 (v:PV):Bool:=okW v&&decide ((0:Int)<4)&&decide ((4:Int)<=4294967296)
def trWf (v:PV) (m:Int) (W0 W1 W2:Wl) (r:Tr):Tr:=.br (c4 v) (.br (qg (isLS (wS (rs v) m W0 W1 W2 0) (wS (rs v) (nx v 4) W0 W1 W2 0))) r (.no 1)) (.no 1)
def rnW (v u:PV) (m:Int) (W0 W1 W2:Wl) (j:Nat):Tr:=evF prog [(14,s45)] [(4,qy (wS (rs v) m W0 W1 W2 0) (.exit 0) (wS u m W0 W1 W2 j))] polWs f27 [.w v] [] ql
def wV (W:Wl):PV:=.lst 6 (.fn W.n (wpt W.F W.x W.y))
theorem eWf0 (v u:PV) (m:Int) (W0 W1 W2:Wl):(rnW v u m W0 W1 W2 0).run=(trWf v m W0 W1 W2 (.ok (.ret .nil []))).run:=by kernel_rfl
theorem eWf1 (v u:PV) (m:Int) (W0 W1 W2:Wl):(rnW v u m W0 W1 W2 1).run=(trWf v m W0 W1 W2 (.br (Nat.ble (0+W0.n) W0.n) (.ok (.ret (.fr 1 (.vals [wV W0])) [])) (.no 1))).run:=by kernel_rfl
theorem eWf2 (v u:PV) (m:Int) (W0 W1 W2:Wl):(rnW v u m W0 W1 W2 2).run=(trWf v m W0 W1 W2 (.br (Nat.ble (0+W0.n) W0.n&&Nat.ble (0+W1.n) W1.n) (.ok (.ret (.fr 1 (.vals [wV W0,wV W1])) [])) (.no 1))).run:=by kernel_rfl
theorem eWf3 (v u:PV) (m:Int) (W0 W1 W2:Wl):(rnW v u m W0 W1 W2 3).run=(trWf v m W0 W1 W2 (.br (Nat.ble (0+W0.n) W0.n&&(Nat.ble (0+W1.n) W1.n&&Nat.ble (0+W2.n) W2.n)) (.ok (.ret (.fr 1 (.vals [wV W0,wV W1,wV W2])) [])) (.no 1))).run:=by kernel_rfl
theorem lpsY {P:Program} {G:World->(Nat->Prop)->Prop} {pol:Pol} {n m:Nat} {L:Lps} {c b:Code} (hc:qi c=[b]) (e:Lps.look (qr b) L=none):LpsOK P G pol n m L c:=
 LpsOK.of hc fun a ha live' sp' _ g2=>by
  simp at ha
  subst ha
  rw[e]at g2
  cases g2
theorem hget_mid {a b:qT} {x:Option Blk} (i:Nat):hget (a++x::b) i=if i<a.length then hget a i else if i=a.length then x else hget b (i-a.length-1):=by
 unfold hget
 by_cases h:i<a.length
 ·rw[if_pos h,List.getElem?_append_left h]
 ·rw[if_neg h,List.getElem?_append_right (by omega)]
  by_cases h':i=a.length
  ·subst h';rw[if_pos rfl,Nat.sub_self]
   cases x<;>rfl
  ·rw[if_neg h',show i-a.length=(i-a.length-1)+1 by omega,List.getElem?_cons_succ]
   simp
theorem ent_mid {G:World->(Nat->Prop)->Prop} {n m:Nat} {live:List Nat} {ts:List PV} {a b:qT} {k k':Blk} (hm:m<=a.length) (hk:KLe k k'):Ent G n m live ⟨ts,a++some k::b⟩ ⟨ts,a++some k'::b⟩:=by
 refine ent_le (by simp) (by simp;omega) fun i c hc => ?_
 rw[hget_mid]at hc ⊢
 by_cases h:i<a.length
 ·rw[if_pos h]at hc ⊢;exact⟨c,hc,.refl _⟩
 ·rw[if_neg h]at hc ⊢
  by_cases h':i=a.length
  ·rw[if_pos h']at hc ⊢
   cases hc
   exact⟨k,rfl,hk⟩
  ·rw[if_neg h']at hc ⊢;exact⟨c,hc,.refl _⟩
theorem wZ_ent {G:World->(Nat->Prop)->Prop} {n:Nat} {live:List Nat} (v:PV) (m:Int) (N:Nat) (F:Nat->Int × Int) (ax ay:Int) (W0 W1:Wl) (c c':Cont) (h:KLe ⟨6,c⟩ ⟨6,c'⟩):∀ j,Ent G n 0 live (wZ v m N F ax ay W0 W1 c j) (wZ v m N F ax ay W0 W1 c' j)
 | 0=>ent_mid (a:=[sB v]) (b:=[aB ax ay]) (Nat.zero_le _) h
 | 1=>ent_mid (a:=[sB v,some ⟨1,.vals [.sl 4 6 0 W0.n]⟩]) (b:=[aB ax ay,wB W0]) (Nat.zero_le _) h
 | j+2=>ent_mid (a:=[sB v,some ⟨1,.vals [.sl 4 6 0 W0.n,.sl 5 6 0 W1.n]⟩]) (b:=[aB ax ay,wB W0,wB W1]) (Nat.zero_le _) h
include hG in
theorem goesW (hT:qp G) (v:PV) (m:Int) (N:Nat) (F:Nat->Int × Int) (ax ay:Int) (W0 W1:Wl) (h3:3<=N) (h5:N<=5) (j:Nat) (hj:j<3):
  Goes (Rnd prog G f27.ntmps 0 [3,4,5,6,13,14,32,33,34] iWs) (wA v m N F ax ay W0 W1 j) (.exit 2) (wZ v m N F ax ay W0 W1 (.fn N (wpt F ax ay)) j):=by
 have oc:OrcOK prog G [(67,g57)]:=.cons (gk57 hG hT) .nil
 have e:(runW v m N F ax ay W0 W1 j).run=endW v m N F ax ay W0 W1 j:=by
  rcases(show N=3\/N=4\/N=5 by omega)with rfl|rfl|rfl
  ·exact eW3 v m F ax ay W0 W1 j hj
  ·exact eW4 v m F ax ay W0 W1 j hj
  ·exact eW5 v m F ax ay W0 W1 j hj
 obtain⟨e1,ls1,g,hx⟩:=unr_goes (P:=prog) (G:=G) (pol:=polWs) (L:=[]) (n:=f27.ntmps) (m:=0) (live:=[3,4,5,6,13,14,32,33,34]) (a:=iWs) hG oc mix (kA (by kernel_rfl)) 6 (wA v m N F ax ay W0 W1 j) outK _ (Nat.zero_le _) e
 simp only[outK,Tr.run,Option.some.injEq,Res.out.injEq]at hx
 obtain⟨rfl,rfl⟩:=hx
 refine goes_ent g (wZ_ent v m N F ax ay W0 W1 _ _ (KLe.fn (by simp) fun i u hi => ?_) j)
 rw[List.getElem?_map]at hi
 cases hr:(List.range N)[i]? with
 | none=>rw[hr]at hi;cases hi
 | some k=>
  rw[hr]at hi
  obtain rfl:=Option.some.inj hi
  have hlt:i<N:=by
   have:=(List.getElem?_eq_some_iff.1 hr).1
   simpa using this
  rw[List.getElem?_range hlt]at hr
  obtain rfl:=Option.some.inj hr
  exact⟨rfl,.refl _⟩
def uK (t:PV):PV:=.lst 1 (.ints .i64 (wKs t))
def wv (v:PV):Nat->PV
 | 0=>rs v
 | j+1=>r5 (wv v j)
def wsW (v:PV) (j:Nat):Wl:=⟨(plyL (uK (wv v j))).length,fun k=>(plyL (uK (wv v j))).getD k (0,0),wX (wv v j),wY (wv v j)⟩
def wsM (v:PV) (j:Nat):Pg:=wlG (plyL (uK (wv v j))) (wX (wv v j)) (wY (wv v j))
def wsN (v:PV):Nat:=(nx v 4).toNat
def wsV (v:PV):PV:=if wsN v=0 then .nil else lsV (wsN v) (wsM v)
theorem okW_wv {v:PV} (h:okW v=true):∀ j,okW (wv v j)=true
 | 0=>qG h
 | j+1=>qG (qG (qG (qG (qG (okW_wv h j)))))
theorem wsV_is (v:PV):isW (wsV v) (wsN v) (wsM v):=by
 have:=qw v (show(0:Int)<4 by omega)
 unfold wsV
 by_cases h:wsN v=0
 ·rw[if_pos h];exact .inl ⟨rfl,h⟩
 ·rw[if_neg h];exact .inr ⟨rfl,by unfold wsN;omega,fun j _=>wlG_ok (plyL_ok _) _ _⟩
theorem wV_le (v:PV) (j:Nat):VLe (wV (wsW v j)) (pgV (wsM v j)):=
 VLe.lst rfl fun i _=>VLe.agg (qM (qH (show 129<=32138 by omega)) (qM (qH (show 129<=32138 by omega)) vll0))
include hG in
theorem vkPo (v:PV) (hv:okW v=true):qc prog G 66 (vPo (wKs v) (plyL (uK v)).length (fun k=>(plyL (uK v)).getD k (0,0))):=by
 intro args hs K x h
 unfold vPo at h
 split at h
 case h_2=>cases h
 rename_i ks'
 obtain⟨hc,hr⟩:=k8 h
 obtain rfl:ks'=wKs v:=decP_iff.1 hc
 refine⟨_,_,PC.args (.cons (vle_w_in (v:=uK v) rfl) .nil) ((pcPo hG (uK v) rfl).le (rle_vle (fun _=>rfl) (fun _=>rfl) (VLe.lst (by show((plyL (uK v)).map ptI).length=_;simp;rfl) fun i hi => ?_)) (.refl _)),hr⟩
 have hi':i<(plyL (uK v)).length:=by
  have:i<((plyL (uK v)).map ptI).length:=hi
  simpa using this
 have e:(Cont.vals ((plyL (uK v)).map ptI)).get i=ptI ((plyL (uK v)).getD i (0,0)):=by
  show((plyL (uK v)).map ptI).getD i .any=_
  rw[List.getD_eq_getElem?_getD,List.getElem?_map,List.getD_eq_getElem?_getD,List.getElem?_eq_getElem hi']
  rfl
 rw[e]
 exact .refl _
theorem cN4_t {x:Int} (h1 : -100<=x) (h2:x<=100):cN4 x=true:=by
 unfold cN4
 simp only[kD,kE];omega
theorem c33_t {v:PV} (h:okW v=true):c33 v=true:=by unfold c33;rw[h];rfl
theorem c60_t {v:PV} (h:okW v=true):c60 v=true:=by unfold c60;rw[h];rfl
theorem trW_run {v:PV} (hv:okW v=true) {j m:Int} (hj:j<m) (st nt ex:LS):(trW v j m st nt ex).run=some (.out .normal nt):=by
 have a:=qw v (show(0:Int)<33 by omega)
 have b:=qw (rs v) (show(0:Int)<33 by omega)
 have w1:=qG hv
 have w2:=qG w1
 have w3:=qG w2
 have w4:=qG w3
 have hx : -16<=wX v/\wX v<=16:=by unfold wX;omega
 have hy : -16<=wY v/\wY v<=16:=by unfold wY;omega
 unfold trW
 rw[k5 (kF hj),k5 (c33_t hv),k5 (by simp only[ovf,kD,kE];omega),k5 (cN4_t (by omega) (by omega)),k5 (c33_t w1),
  k5 (by simp only[ovf,kD,kE];omega),k5 (cN4_t (by omega) (by omega)),k5 (c60_t w2),k5 (c60_t w3),k5 (c60_t w4),k5 (decP_iff.2 (show isK _ _ from rfl)),k5 qK,k7]
include hG in
theorem pcWs (hT:qp G) (v:PV) (hv:okW v=true):PC prog G 27 [.w v] [] (.w (wsV v)) []:=by
 have h4:=qw v (show(0:Int)<4 by omega)
 have oc:∀ u,okW u=true->OrcOK prog G (OWs u (plyL (uK u)).length (fun k=>(plyL (uK u)).getD k (0,0))):=fun u hu=>.cons (ok45 hG) (.cons (ok23 hG) (.cons (vkPo hG u hu) (.cons (gk57 hG hT) .nil)))
 have ln:∀ u,3<=(plyL (uK u)).length/\(plyL (uK u)).length<=5:=fun u=>⟨(okI4_c (plyL_ok (uK u))).1,(okI4_c (plyL_ok (uK u))).2.1⟩
 obtain⟨m,hm⟩:∃ m,nx v 4=m:=⟨_,rfl⟩
 have rd:∀ (u:PV) (W0 W1 W2:Wl) (j:Nat) (e:Exit) (ls:LS),okW u=true->j<3->(rdW u m (plyL (uK u)).length (fun k=>(plyL (uK u)).getD k (0,0)) W0 W1 W2 j).run=some (.out e ls)->Rnd prog G f27.ntmps 0 [3,4,13,14] bWs (wS u m W0 W1 W2 j) e ls:=
  fun u W0 W1 W2 j e ls hu hj h=>qb hG (oc u hu) mix (pol:=polWs) (qN (b:=iWs) (live:=[3,4,5,6,13,14,32,33,34]) (m:=0) (by kernel_rfl) (by kernel_rfl) (by kernel_rfl) (qv (goesW hG hT (r5 u) m (plyL (uK u)).length (fun k=>(plyL (uK u)).getD k (0,0)) (wX u) (wY u) W0 W1 (ln u).1 (ln u).2 j hj))) (Nat.zero_le _) h
 have r0:0<m->Rnd prog G f27.ntmps 0 [3,4,13,14] bWs (wS (wv v 0) m (wsW v 0) (wsW v 1) (wsW v 2) 0) .normal (wS (wv v 1) m (wsW v 0) (wsW v 1) (wsW v 2) 1):=fun hj=>
  rd (wv v 0) _ _ _ 0 _ _ (okW_wv hv 0) (by omega) ((tW0 (wv v 0) m _ _ (wsW v 0) (wsW v 1) (wsW v 2)).trans (trW_run (okW_wv hv 0) hj _ _ _))
 have r1:1<m->Rnd prog G f27.ntmps 0 [3,4,13,14] bWs (wS (wv v 1) m (wsW v 0) (wsW v 1) (wsW v 2) 1) .normal (wS (wv v 2) m (wsW v 0) (wsW v 1) (wsW v 2) 2):=fun hj=>
  rd (wv v 1) _ _ _ 1 _ _ (okW_wv hv 1) (by omega) ((tW1 (wv v 1) m _ _ (wsW v 0) (wsW v 1) (wsW v 2)).trans (trW_run (okW_wv hv 1) hj _ _ _))
 have r2:2<m->Rnd prog G f27.ntmps 0 [3,4,13,14] bWs (wS (wv v 2) m (wsW v 0) (wsW v 1) (wsW v 2) 2) .normal (wS (wv v 3) m (wsW v 0) (wsW v 1) (wsW v 2) 3):=fun hj=>
  rd (wv v 2) _ _ _ 2 _ _ (okW_wv hv 2) (by omega) ((tW2 (wv v 2) m _ _ (wsW v 0) (wsW v 1) (wsW v 2)).trans (trW_run (okW_wv hv 2) hj _ _ _))
 have rx:∀ j:Nat,j<=3->m=(j:Int)->Rnd prog G f27.ntmps 0 [3,4,13,14] bWs (wS (wv v j) m (wsW v 0) (wsW v 1) (wsW v 2) j) (.exit 0) (wS (wv v j) m (wsW v 0) (wsW v 1) (wsW v 2) j):=fun j hj he=>
  qb hG .nil mix (L:=[]) (pol:=polWs) (lpsY (b:=iWs) (by kernel_rfl) (by kernel_rfl)) (Nat.zero_le _) ((tWx (wv v j) m _ _ _ j hj).trans (by rw[k6 (kG (by omega)),k7]))
 have fin:∀ (j:Nat) (r:PV),Goes (Rnd prog G f27.ntmps 0 [3,4,13,14] bWs) (wS (rs v) m (wsW v 0) (wsW v 1) (wsW v 2) 0) (.exit 0) (wS (wv v j) m (wsW v 0) (wsW v 1) (wsW v 2) j)->(rnW v (wv v j) m (wsW v 0) (wsW v 1) (wsW v 2) j).run=some (.ret r [])->PC prog G 27 [.w v] [] r []:=fun j r g h=>
  qj hG (.cons (ok45 hG) .nil) mix enWs (hs:=[]) (pol:=polWs) (L:=[(4,qy (wS (rs v) m (wsW v 0) (wsW v 1) (wsW v 2) 0) (.exit 0) (wS (wv v j) m (wsW v 0) (wsW v 1) (wsW v 2) j))])
   (lps1n (b:=bWs) (b':=iWs) (live:=[3,4,13,14]) (m:=0) (by kernel_rfl) (by kernel_rfl) (by kernel_rfl) (by kernel_rfl) (qv g)) h
 have pre:∀ (r:Tr) (x:Option Res),r.run=x->(trWf v m (wsW v 0) (wsW v 1) (wsW v 2) r).run=x:=fun r x h=>by
  unfold trWf
  rw[k5 (by unfold c4;rw[hv];rfl),hm,k5 qK]
  exact h
 have bl:∀ n:Nat,Nat.ble (0+n) n=true:=fun n=>by rw[kH];omega
 have vv:∀ (vs:List PV) (n:Nat),vs.length=n->(∀ i u,vs[i]? = some u->VLe u (pgV (wsM v i)))->wsN v=n->n≠0->PC prog G 27 [.w v] [] (.fr 1 (.vals vs)) []->PC prog G 27 [.w v] [] (.w (wsV v)) []:=fun vs n hl hv hn h0 h=>by
  refine h.seen.le (rle_vle (fun _=>rfl) (fun _=>rfl) ?_) (.refl _)
  unfold wsV
  rw[hn,if_neg h0]
  refine .trans (VLe.lst (d:=.fn n (fun i=>pgV (wsM v i))) hl fun i hi => ?_) (vw_lst 1 _)
  have hi':i<vs.length:=hi
  have e:vs[i]? = some (vs[i]'hi'):=List.getElem?_eq_getElem _
  show VLe (vs.getD i .any) _
  rw[List.getD_eq_getElem?_getD,e]
  exact hv i _ e
 have m4:m=0\/m=1\/m=2\/m=3:=by omega
 rcases m4 with h|h|h|h
 ·have p:=fin 0 _ (.last _ _ _ (rx 0 (by omega) h) (by simp)) ((eWf0 v _ m _ _ _).trans (pre _ _ rfl))
  refine p.le (rle_vle (fun _=>rfl) (fun _=>rfl) ?_) (.refl _)
  unfold wsV
  rw[if_pos (by unfold wsN;omega)]
  exact vw_nil
 ·refine vv [wV (wsW v 0)] 1 rfl (fun i u hi => ?_) (by unfold wsN;omega) (by omega) (fin 1 _ (.more _ _ _ _ (r0 (by omega)) (.last _ _ _ (rx 1 (by omega) h) (by simp))) ((eWf1 v _ m _ _ _).trans (pre _ _ ?_)))
  ·match i,hi with
   | 0,hi=>obtain rfl:=Option.some.inj hi;exact wV_le v 0
   | i+1,hi=>simp at hi
  ·rw[k5 (bl _),k7]
 ·refine vv [wV (wsW v 0),wV (wsW v 1)] 2 rfl (fun i u hi => ?_) (by unfold wsN;omega) (by omega) (fin 2 _ (.more _ _ _ _ (r0 (by omega)) (.more _ _ _ _ (r1 (by omega)) (.last _ _ _ (rx 2 (by omega) h) (by simp)))) ((eWf2 v _ m _ _ _).trans (pre _ _ ?_)))
  ·match i,hi with
   | 0,hi=>obtain rfl:=Option.some.inj hi;exact wV_le v 0
   | 1,hi=>obtain rfl:=Option.some.inj hi;exact wV_le v 1
   | i+2,hi=>simp at hi
  ·rw[k5 (by rw[bl,bl];rfl),k7]
 ·refine vv [wV (wsW v 0),wV (wsW v 1),wV (wsW v 2)] 3 rfl (fun i u hi => ?_) (by unfold wsN;omega) (by omega) (fin 3 _ (.more _ _ _ _ (r0 (by omega)) (.more _ _ _ _ (r1 (by omega)) (.more _ _ _ _ (r2 (by omega)) (.last _ _ _ (rx 3 (by omega) h) (by simp))))) ((eWf3 v _ m _ _ _).trans (pre _ _ ?_)))
  ·match i,hi with
   | 0,hi=>obtain rfl:=Option.some.inj hi;exact wV_le v 0
   | 1,hi=>obtain rfl:=Option.some.inj hi;exact wV_le v 1
   | 2,hi=>obtain rfl:=Option.some.inj hi;exact wV_le v 2
   | i+3,hi=>simp at hi
  ·rw[k5 (by rw[bl,bl,bl];rfl),k7]
end
section
open Go
set_option maxRecDepth 100000
variable {G:World->(Nat->Prop)->Prop} (hG:GOk G)
def bR (b:Bool):PV:=.tup [.b b,.i .i64 0]
def isMo (A:Am) (V a:PV) (p q:List Rat) (W:PV) (n:Int):Prop:=a=qm A/\W=V/\p.length=A.n/\q.length=A.n/\1<=n/\n<=6
def vMo (A:Am) (V:PV) (B:List Rat->List Rat->Int->Bool):Spec:=fun args hs K=>match args,hs with
 | [a,.lst 3 (.rats 64 p),.lst 3 (.rats 64 q),.w W,.i .i64 n],[]=>.br (qg (isMo A V a p q W n)) (K (bR (B p q n)) []) (.no 1)
 | _,_=>.no 1
def tkz (p:List Rat):List Rat:=List.take p.length (List.drop 0 p)
theorem tkz_eq (p:List Rat):tkz p=p:=by unfold tkz;rw[List.drop_zero,List.take_length]
theorem rle_bR (b:Bool):RLe (.tup [.bl b,.i .i64 0]) (bR b):=rle_vle (fun _=>rfl) (fun _=>rfl) (VLe.tup (qM (vle_bl _) (qM (.refl _) vll0)))
include hG in
theorem vkMo (hT:qp G) (A:Am) (hA:armB A=true) (hS:shp A) {V:PV} {m:Nat} {M:Nat->Pg} (hV:isW V m M):qc Tryz.prog G 30 (vMo A V fun p q n=>motB A p q n.toNat m M):=by
 intro args hs K x h
 unfold vMo at h
 split at h
 case h_2=>cases h
 rename_i a p q W n
 obtain⟨hc,hr⟩:=k8 h
 obtain⟨rfl,rfl,hp,hq,n1,n6⟩:=decP_iff.1 hc
 have pc:=(pcMo hG hT A hA hS p q hp hq hV n.toNat (by omega) (by omega)).le (rle_bR _) (.refl _)
 rw[Int.toNat_of_nonneg (by omega)]at pc
 exact⟨_,_,pc,hr⟩
def hf:Rat:=((1:Int):Rat)/((2:Int):Rat)
end
section
open Go
set_option maxRecDepth 100000
end
section
open Go
set_option maxRecDepth 100000
variable {G:World->(Nat->Prop)->Prop} (hG:GOk G)
structure TrC (m n:Nat) (tk:Nat->Int) (qs:Nat->List Rat):Prop where
 n1:1<=n
 n60:n<=60
 m1:1<=m
 m3:m<=3
 len:∀ j,j<n->(qs j).length=m
 rng:∀ j,j<n -> -50000<=tk j/\tk j<=50000
 inc:∀ j,j+1<n->tk j<tk (j+1)
theorem TrC.mono {m n:Nat} {tk:Nat->Int} {qs:Nat->List Rat} (h:TrC m n tk qs):∀ d j,j+d<n->tk j<=tk (j+d)
 | 0,j,_=>Int.le_refl _
 | d+1,j,hj=>by
  have:=TrC.mono h d j (by omega)
  have:=h.inc (j+d) (by omega)
  rw[show j+(d+1)=j+d+1 by omega]
  omega
include hG in
theorem pc91 (A:Am) (hA:armB A=true):PC Tryz.prog G 49 [qm A] [] (.i .i64 0) []:=by
 obtain⟨r,hs',p,e⟩:=ok52 hG [qm A] [] (fun r hs'=>.ok (.ret r hs')) (.ret (.i .i64 0) []) (by
  show(Tr.br _ _ _).run=_
  rw[k5 (decP_iff.2 ⟨_,A,rfl,.refl _,hA⟩)];rfl)
 cases e
 exact p
theorem hf2:hf+hf=1:=by kernel_rfl
theorem fr_fn (e n:Nat) (f:Nat->PV) (vs:List PV) (hl:vs.length=n) (h:∀ (i:Nat) (v:PV),vs[i]? = some v->noRef 8 v=true/\VLe v (f i)):RLe (.fr e (.vals vs)) (.fr e (.fn n f)):=by
 subst hl
 exact⟨fun m=>.refl _,fun m=>KsLe.one (KLe.fn rfl h)⟩
end
section
open Go
set_option maxRecDepth 100000
theorem list_ext0 {p q:List Rat} {m:Nat} (hp:p.length=m) (hq:q.length=m) (h:∀ i,i<m->p.getD i 0=q.getD i 0):p=q:=by
 apply List.ext_getElem (by omega)
 intro i h1 h2
 have:=h i (by omega)
 rwa[List.getD_eq_getElem?_getD,List.getD_eq_getElem?_getD,List.getElem?_eq_getElem h1,List.getElem?_eq_getElem h2]at this
section
variable {m n:Nat} {tk:Nat->Int} {qs:Nat->List Rat} (h:TrC m n tk qs)
include h
end
end
section
open Go
set_option maxRecDepth 100000
variable {G:World->(Nat->Prop)->Prop} (hG:GOk G)
end
section
open Go
set_option maxRecDepth 100000
section
variable {A:Am} {n:Nat} {tk:Nat->Int} {qs:Nat->List Rat} (h:TrC A.n n tk qs)
include h
end
end
section
open Go Tryz
set_option maxRecDepth 100000
variable {G:World->(Nat->Prop)->Prop} (hG:GOk G)
def b19w:Code:=(qi (qd f20)).getD 0 .skip
def st19w (w v:Nat) (xs ys:List Rat) (n i:Int):LS:=⟨[.lst 3 (.rats w xs),.lst 3 (.rats v ys),.bl false,.i .i64 n,.i .i64 i],[]⟩
theorem r19w (w v:Nat) (xs ys:List Rat) (n i:Int):(qe prog [] [] pol19 f20.ntmps 0 [0,1,4,12,13] b19w (st19w w v xs ys n i)).run=
 (Tr.br (decide (i<n)) (.br (ix (i) ((xs.length:Int))) (.br (ix (i) ((ys.length:Int))) (.br (!decide (xs.getD i.toNat 0=ys.getD i.toNat 0)) (.ok (.out .ret (LS.mk [.lst 3 (.rats w xs),.lst 3 (.rats v ys),.bl false,.i .i64 n,.i .i64 i] []))) (.br (ib (i+1)) (.ok (.out .normal (LS.mk [.lst 3 (.rats w xs),.lst 3 (.rats v ys),.bl false,.i .i64 n,.i .i64 (i+1)] []))) (.no 9002))) (.no 7003)) (.no 7007)) (.ok (.out (.exit 0) (LS.mk [.lst 3 (.rats w xs),.lst 3 (.rats v ys),.bl false,.i .i64 n,.i .i64 i] [])))).run:=by kernel_rfl
theorem e19w (w v:Nat) (xs ys:List Rat) (x:Exit) (i:Int):(evF prog [] [(4,qy (st19w w v xs ys xs.length 0) (.exit 0) (st19w w v xs ys xs.length i))] pol19 f20 [.lst 3 (.rats w xs),.lst 3 (.rats v ys)] [] ql).run=
 (Tr.br (!decide ((xs.length:Int)=(ys.length:Int))) (.ok (.ret (.bl false) [])) (.br (qg (isLS (LS.mk [.lst 3 (.rats w xs),.lst 3 (.rats v ys),.bl false,.i .i64 (xs.length:Int),.i .i64 0] []) (LS.mk [.lst 3 (.rats w xs),.lst 3 (.rats v ys),.bl false,.i .i64 (xs.length:Int),.i .i64 0] []))) (.ok (.ret (.bl true) [])) (.no 1))).run:=by kernel_rfl
theorem e19b (w v:Nat) (xs ys:List Rat) (x:Exit) (i:Int):(evF prog [] [(4,qy (st19w w v xs ys xs.length 0) .ret (st19w w v xs ys xs.length i))] pol19 f20 [.lst 3 (.rats w xs),.lst 3 (.rats v ys)] [] ql).run=
 (Tr.br (!decide ((xs.length:Int)=(ys.length:Int))) (.ok (.ret (.bl false) [])) (.br (qg (isLS (LS.mk [.lst 3 (.rats w xs),.lst 3 (.rats v ys),.bl false,.i .i64 (xs.length:Int),.i .i64 0] []) (LS.mk [.lst 3 (.rats w xs),.lst 3 (.rats v ys),.bl false,.i .i64 (xs.length:Int),.i .i64 0] []))) (.ok (.ret (.bl false) [])) (.no 1))).run:=by kernel_rfl
def eqJ (xs ys:List Rat) (j:Nat):Bool:=decide (xs.getD j 0=ys.getD j 0)
def c19:Spec:=fun args hs K=>match args,hs with
 | [.lst 3 (.rats w xs),.lst 3 (.rats v ys)],[]=>.br (Nat.ble xs.length ys.length&&Nat.ble ys.length xs.length&&Nat.ble xs.length 1000) (.br (decide (xs=ys)) (K (.bl true) []) (K (.bl false) [])) (.no 1)
 | _,_=>.no 1
include hG in
theorem ck19:qc prog G 20 c19:=by
 intro args hs K x h
 unfold c19 at h
 split at h
 case h_2=>cases h
 rename_i w xs v ys
 obtain⟨hc,hr⟩:=k8 h
 simp only[kD,kH]at hc
 obtain⟨⟨a1,a2⟩,a3⟩:=hc
 have hl:ys.length=xs.length:=by omega
 obtain⟨g1,g2⟩:=Goes.search (R:=Rnd prog G f20.ntmps 0 [0,1,4,12,13] b19w) (fun j=>st19w w v xs ys xs.length ((j:Nat):Int)) (fun j=>st19w w v xs ys xs.length ((j:Nat):Int)) (eqJ xs ys) xs.length
  (e0:=.exit 0) (e1:=.ret) (fin:=st19w w v xs ys xs.length ((xs.length:Nat):Int)) (by simp) (by simp)
  (fun j hj hf=>by
   refine qb hG .nil mix (L:=[]) (pol:=pol19) (O:=[]) (kA (by kernel_rfl)) (Nat.zero_le _) ?_
   have hb:(!decide (xs.getD j 0=ys.getD j 0))=false:=by rw[show decide (xs.getD j 0=ys.getD j 0)=true from hf];rfl
   rw[r19w,Int.toNat_natCast]
   repeat first|rw[k5 (by first|(simp only[kD,Bool.or_eq_true,kE,kH,Nat.blt_eq,kI,kJ,kK,kM];omega)|exact hb|exact decP_iff.2 ⟨rfl,trivial⟩|exact decP_iff.2 rfl|exact kF rfl|decide)]|rw[k6 (by first|(simp only[Bool.and_eq_false_iff,Bool.not_eq_false',kE,kM];omega)|exact hb|exact congrArg (!·) (kF rfl)|decide)]
   rw[k7]
   rfl)
  (fun j hj hf=>by
   refine qb hG .nil mix (L:=[]) (pol:=pol19) (O:=[]) (kA (by kernel_rfl)) (Nat.zero_le _) ?_
   have hb:(!decide (xs.getD j 0=ys.getD j 0))=true:=by rw[show decide (xs.getD j 0=ys.getD j 0)=false from hf];rfl
   rw[r19w,Int.toNat_natCast]
   repeat first|rw[k5 (by first|(simp only[kD,Bool.or_eq_true,kE,kH,Nat.blt_eq,kI,kJ,kK,kM];omega)|exact hb|exact decP_iff.2 ⟨rfl,trivial⟩|exact decP_iff.2 rfl|exact kF rfl|decide)]|rw[k6 (by first|(simp only[Bool.and_eq_false_iff,Bool.not_eq_false',kE,kM];omega)|exact hb|exact congrArg (!·) (kF rfl)|decide)]
   rw[k7]
   rfl)
  (by
   refine qb hG .nil mix (L:=[]) (pol:=pol19) (O:=[]) (kA (by kernel_rfl)) (Nat.zero_le _) ?_
   rw[r19w,k6 (kG (by omega)),k7]
   rfl) xs.length 0 (by omega)
 by_cases he:xs=ys
 ·rw[k5 (kF he)]at hr
  refine⟨_,_,qj hG .nil mix enter19 (O:=[]) (L:=[(4,qy (st19w w v xs ys xs.length 0) (.exit 0) (st19w w v xs ys xs.length xs.length))]) (pol:=pol19) (qN (b:=b19w) (live:=[0,1,4,12,13]) (m:=0) (by kernel_rfl) (by kernel_rfl) (by kernel_rfl) (qv (g1 fun j _ _=>by rw[he];exact kF rfl))) ?_,hr⟩
  refine(e19w w v xs ys .ret _).trans ?_
  repeat first|rw[k5 (by first|(simp only[kD,Bool.or_eq_true,kE,kH,Nat.blt_eq,kI,kJ,kK,kM];omega)|exact decP_iff.2 ⟨rfl,trivial⟩|exact decP_iff.2 rfl|exact kF rfl|decide)]|rw[k6 (by first|(simp only[Bool.and_eq_false_iff,Bool.not_eq_false',kE,kM];omega)|exact congrArg (!·) (kF rfl)|decide)]
  rw[k7]
 ·rw[k6 (kG he)]at hr
  have hn:¬ ∀ j,0<=j->j<xs.length->eqJ xs ys j=true:=fun hh=>he (list_ext0 rfl hl fun i hi=>of_decide_eq_true (hh i (Nat.zero_le _) hi))
  refine⟨_,_,qj hG .nil mix enter19 (O:=[]) (L:=[(4,qy (st19w w v xs ys xs.length 0) .ret (st19w w v xs ys xs.length (fbad (eqJ xs ys) xs.length 0:Nat)))]) (pol:=pol19) (qN (b:=b19w) (live:=[0,1,4,12,13]) (m:=0) (by kernel_rfl) (by kernel_rfl) (by kernel_rfl) (qv (g2 hn))) ?_,hr⟩
  refine(e19b w v xs ys .ret _).trans ?_
  repeat first|rw[k5 (by first|(simp only[kD,Bool.or_eq_true,kE,kH,Nat.blt_eq,kI,kJ,kK,kM];omega)|exact decP_iff.2 ⟨rfl,trivial⟩|exact decP_iff.2 rfl|exact kF rfl|decide)]|rw[k6 (by first|(simp only[Bool.and_eq_false_iff,Bool.not_eq_false',kE,kM];omega)|exact congrArg (!·) (kF rfl)|decide)]
  rw[k7]
def wyE (w:Nat) (q:List Rat):PV:=.lst 3 (.rats w q)
def wyP (w n:Nat) (qs:Nat->List Rat):PV:=.lst 1 (.fn n (fun j=>wyE w (qs j)))
theorem enSc:Enters prog 52 f52 (qd f52):=⟨func52,by kernel_rfl,rfl⟩
def bSc:Code:=(qi (qd f52)).getD 0 .skip
def polSc:Pol:={live:=[(9,[2,4,20,21,22])]}
def RSc (A:Am) (n:Int):Orc:=[(57,cst [qm A,.i .i64 n] True (.i .i64 0))]
def stSc (A:Am) (w n:Nat) (qs:Nat->List Rat) (i:Int):LS:=⟨[.ptr 0 12 0 0 [],.i .i64 0,wyP w n qs,.i .i64 n,.i .i64 i],[some ⟨12,.vals [qm A]⟩]⟩
theorem tSc (A:Am) (w n:Nat) (qs:Nat->List Rat) (i m:Int):(qe prog (RSc A m) [] polSc f52.ntmps 0 [2,4,20,21,22] bSc (stSc A w n qs i)).run=
 (Tr.br (decide (i<(n:Int))) (.br (ix (i) ((n:Int))) (.br (qg (isA [qm A,.i .i64 m] True [qm A,.i .i64 (↑(qs i.toNat).length:Int)])) (.br (ib (i+1)) (.ok (.out .normal (LS.mk [.ptr 0 12 0 0 [],.i .i64 0,.lst 1 (.fn n fun(j:Nat)=>.lst 3 (.rats w (qs j))),.i .i64 (n:Int),.i .i64 (i+1)] [some (.mk 12 (.vals [qm A]))]))) (.no 15002)) (.no 1)) (.no 11003)) (.ok (.out (.exit 0) (LS.mk [.ptr 0 12 0 0 [],.i .i64 0,.lst 1 (.fn n fun(j:Nat)=>.lst 3 (.rats w (qs j))),.i .i64 (n:Int),.i .i64 i] [some (.mk 12 (.vals [qm A]))])))).run:=by kernel_rfl
def OSc (A:Am):Orc:=[(49,cst [qm A] True (.i .i64 0)),(57,cst [qm A,.i .i64 A.n] True (.i .i64 0))]
theorem eSc (A:Am) (w n:Nat) (qs:Nat->List Rat):(evF prog (OSc A) [(9,qy (stSc A w n qs 0) (.exit 0) (stSc A w n qs n))] polSc f52 [qm A,wyP w n qs] [] ql).run=
 (Tr.br (qg (isA [qm A] True [qm A])) (.br (decide ((n:Int)=0)) (.ok (.ret (.i .i64 14) [])) (.br (decide (60<(n:Int))) (.ok (.ret (.i .i64 2) [])) (.br (qg (isLS (LS.mk [.ptr 0 12 0 0 [],.i .i64 0,.lst 1 (.fn n fun(j:Nat)=>.lst 3 (.rats w (qs j))),.i .i64 (n:Int),.i .i64 0] [some (.mk 12 (.vals [qm A]))]) (LS.mk [.ptr 0 12 0 0 [],.i .i64 0,.lst 1 (.fn n fun(j:Nat)=>.lst 3 (.rats w (qs j))),.i .i64 (n:Int),.i .i64 0] [some (.mk 12 (.vals [qm A]))]))) (.ok (.ret (.i .i64 0) [])) (.no 1)))) (.no 1)).run:=by kernel_rfl
theorem enGdS:Enters prog 76 f76 (qd f76):=⟨func76,by kernel_rfl,rfl⟩
def bGd:Code:=(qi (qd f76)).getD 0 .skip
def polGd:Pol:={live:=[(3,[3,6,7,8])]}
def OGd:Orc:=[(25,g21),(53,c71)]
theorem tGdN (w:Nat) (xs:List Rat) (n i:Int):(qe prog OGd [] polGd f76.ntmps 0 [3,6,7,8] bGd (n70 w xs n i)).run=
 (Tr.br (decide (i<n)) (.br (ix (i) ((xs.length:Int))) (.br ((w+64+1).ble 800000) (.br (Nat.blt (0:Nat) [xs.getD i.toNat 0+(↑(0:Int):Rat)].length&&[xs.getD i.toNat 0+(↑(0:Int):Rat)].length.ble 4294967296) (.br (ib (i+1)) (.ok (.out .normal (LS.mk [.sl 0 3 0 1,.lst 3 (.rats w xs),.i .i64 n,.i .i64 (i+1)] [some (.mk 3 (.rats ((w+64+1).max (0:Nat)) [xs.getD i.toNat 0+(↑(0:Int):Rat)]))]))) (.no 7002)) (.no 6002)) (.no 1)) (.no 5004)) (.ok (.out (.exit 0) (LS.mk [.nil,.lst 3 (.rats w xs),.i .i64 n,.i .i64 i] [])))).run:=by kernel_rfl
theorem tGdX (w W:Nat) (xs ys:List Rat) (n i:Int):(qe prog OGd [] polGd f76.ntmps 0 [3,6,7,8] bGd (x70 w W xs ys n i)).run=
 (Tr.br (decide (i<n)) (.br (ix (i) ((xs.length:Int))) (.br ((w+64+1).ble 800000) (.br (ys.length.ble ys.length&&(ys.length+[xs.getD i.toNat 0+(↑(0:Int):Rat)].length).ble 4294967296) (.br (ib (i+1)) (.ok (.out .normal (LS.mk [.sl 0 3 0 (ys.length+[xs.getD i.toNat 0+(↑(0:Int):Rat)].length),.lst 3 (.rats w xs),.i .i64 n,.i .i64 (i+1)] [some (.mk 3 (.rats (W.max ((w+64+1).max (0:Nat))) (List.take ys.length (List.drop 0 ys)++[xs.getD i.toNat 0+(↑(0:Int):Rat)])))]))) (.no 7002)) (.no 6002)) (.no 1)) (.no 5004)) (.ok (.out (.exit 0) (LS.mk [.sl 0 3 0 ys.length,.lst 3 (.rats w xs),.i .i64 n,.i .i64 i] [some (.mk 3 (.rats W ys))])))).run:=by kernel_rfl
theorem eGd (w:Nat) (xs:List Rat):(evF prog OGd [(3,qy (n70 w xs (xs.length:Nat) 0) (.exit 0) (fin70 w xs))] polGd f76 [.lst 3 (.rats w xs)] [] ql).run=
 (Tr.br (qg (isLS (LS.mk [.nil,.lst 3 (.rats w xs),.i .i64 (xs.length:Int),.i .i64 0] []) (LS.mk [.nil,.lst 3 (.rats w xs),.i .i64 (xs.length:Int),.i .i64 0] []))) (.br (xs.length.ble xs.length) (.ok (.ret (.fr 3 (.rats (w+64+1) (List.take xs.length (List.drop 0 xs)))) [])) (.no 15)) (.no 1)).run:=by kernel_rfl
include hG in
theorem pcSc (A:Am) (hA:armB A=true) (w n:Nat) (h1:1<=n) (h60:n<=60) (qs:Nat->List Rat) (hl:∀ j,j<n->(qs j).length=A.n):PC prog G 52 [qm A,wyP w n qs] [] (.i .i64 0) []:=by
 have p116:PC prog G 57 [qm A,.i .i64 A.n] [] (.i .i64 0) []:=by
  obtain⟨r,hs',p,e⟩:=ok85 hG [qm A,.i .i64 A.n] [] (fun r hs'=>.ok (.ret r hs')) (.ret (.i .i64 0) []) (by
   show(Tr.br _ _ _).run=_
   rw[k5 (decP_iff.2 ⟨_,A,rfl,.refl _,hA⟩)];rfl)
  cases e
  exact p
 have g:=Goes.count (R:=Rnd prog G f52.ntmps 0 [2,4,20,21,22] bSc) (fun i=>stSc A w n qs ((i:Nat):Int)) (e:=.exit 0) (ls':=stSc A w n qs n) (by simp) n 0
  (fun i _ hi=>by
   refine qb hG (.cons (qS p116) .nil) mix (L:=[]) (pol:=polSc) (O:=RSc A A.n) (kA (by kernel_rfl)) (by simp[stSc]) ?_
   have hp:qg (isA [qm A,.i .i64 A.n] True [qm A,.i .i64 (qs i).length])=true:=decP_iff.2 ⟨by rw[hl i (by omega)],trivial⟩
   rw[tSc,Int.toNat_natCast]
   repeat first|rw[k5 (by first|(simp only[kD,Bool.or_eq_true,kE,kH,Nat.blt_eq,kI,kJ,kK,kM];omega)|exact hp|exact decP_iff.2 ⟨rfl,trivial⟩|exact decP_iff.2 rfl|exact kF rfl|decide)]|rw[k6 (by first|(simp only[Bool.and_eq_false_iff,Bool.not_eq_false',kE,kM];omega)|exact hp|exact congrArg (!·) (kF rfl)|decide)]
   rw[k7]
   rfl)
  (by
   refine qb hG (.cons (qS p116) .nil) mix (L:=[]) (pol:=polSc) (O:=RSc A A.n) (kA (by kernel_rfl)) (by simp[stSc]) ?_
   rw[tSc,Nat.zero_add,k6 (kG (by omega)),k7]
   rfl)
 refine qj hG (.cons (qS (pc91 hG A hA)) (.cons (qS p116) .nil)) mix enSc (pol:=polSc) (L:=[(9,qy (stSc A w n qs 0) (.exit 0) (stSc A w n qs n))]) (qN (b:=bSc) (live:=[2,4,20,21,22]) (m:=0) (by kernel_rfl) (by kernel_rfl) (by kernel_rfl) (qv g)) ?_
 refine(eSc A w n qs).trans ?_
 repeat first|rw[k5 (by first|(simp only[kD,Bool.or_eq_true,kE,kH,Nat.blt_eq,kI,kJ,kK,kM];omega)|exact decP_iff.2 ⟨rfl,trivial⟩|exact decP_iff.2 rfl|exact kF rfl|decide)]|rw[k6 (by first|(simp only[Bool.and_eq_false_iff,Bool.not_eq_false',kE,kM];omega)|exact congrArg (!·) (kF rfl)|decide)]
 rw[k7]
include hG in
theorem orcGd (hT:qp G):OrcOK prog G OGd:=.cons (gk21 hG hT) (.cons (ck71 hG) .nil)
include hG in
theorem pcGd (hT:qp G) (w:Nat) (hw:w<=10000) (xs:List Rat) (h1:1<=xs.length) (h2:xs.length<=1000):PC prog G 76 [.lst 3 (.rats w xs)] [] (.fr 3 (.rats (w+65) xs)) []:=by
 have g:Goes (Rnd prog G f76.ntmps 0 [3,6,7,8] bGd) (n70 w xs (xs.length:Nat) 0) (.exit 0) (fin70 w xs):=by
  refine Goes.build (xst:=fun ys j=>x70 w (w+64+1) xs ys (xs.length:Nat) (j:Nat)) (fun j=>xs.getD j 0) (by simp) xs.length h1 ?_ ?_ ?_
  ·refine qb hG (orcGd hG hT) mix (L:=[]) (pol:=polGd) (O:=OGd) (kA (by kernel_rfl)) (Nat.zero_le _) ?_
   rw[tGdN,show Int.toNat 0=0 from rfl,k5 (kF (by omega)),k5 (by simp only[kD,kE];omega),k5 (by rw[kH];omega),k5 (by rfl),k5 (by decide),k7,add00]
   rfl
  ·intro ys j hy hj1 hj
   refine qb hG (orcGd hG hT) mix (L:=[]) (pol:=polGd) (O:=OGd) (kA (by kernel_rfl)) (Nat.zero_le _) ?_
   rw[tGdX,Int.toNat_natCast,k5 (kF (by omega)),k5 (by simp only[kD,kE];omega),k5 (by rw[kH];omega),
    k5 (by simp only[kD,kH,kI,kJ];omega),k5 (by simp only[kD,kE];omega),k7,add00,List.drop_zero,List.take_length]
   unfold x70
   rw[List.length_append,mx0]
   rfl
  ·rw[getD_range_map]
   refine qb hG (orcGd hG hT) mix (L:=[]) (pol:=polGd) (O:=OGd) (kA (by kernel_rfl)) (Nat.zero_le _) ?_
   rw[tGdX,k6 (kG (by omega)),k7]
   rfl
 refine qj hG (orcGd hG hT) mix enGdS (L:=[(3,qy (n70 w xs (xs.length:Nat) 0) (.exit 0) (fin70 w xs))]) (pol:=polGd) (qN (b:=bGd) (live:=[3,6,7,8]) (m:=0) (by kernel_rfl) (by kernel_rfl) (by kernel_rfl) (qv g)) ?_
 rw[eGd,k5 qK,k5 (by rw[kH];omega),k7,List.drop_zero,List.take_length]
theorem lps0 {P:Program} {G:World->(Nat->Prop)->Prop} {pol:Pol} {n m:Nat} {L:Lps} {c b:Code} (hc:qi c=[b]) (e:Lps.look (qr b) L=none):LpsOK P G pol n m L c:=
 LpsOK.of hc fun a ha live' sp' _ g2=>by
  simp at ha
  subst ha
  rw[e]at g2
  cases g2
end
section
open Go
set_option maxRecDepth 100000
variable {G:World->(Nat->Prop)->Prop} (hG:GOk G)
end
section
open Go Tryz
set_option maxRecDepth 100000
variable {G:World->(Nat->Prop)->Prop} (hG:GOk G)
theorem enMs:Enters prog 17 f17 (qd f17):=⟨func17,by kernel_rfl,rfl⟩
def bMs:Code:=(qi (qd f17)).getD 0 .skip
def bMi:Code:=(qi (qd f17)).getD 1 .skip
def polMs:Pol:={live:=[(6,[1,4,7,8]),(9,[1,4,7,8,28,29])]}
def RMs:Orc:=[(25,g21),(24,g28),(54,g29)]
def OMs (A:Am) (w n:Nat) (qs:Nat->List Rat):Orc:=[(53,c71),(52,cst [qm A,wyP w n qs] True (.i .i64 0))]
def rawZ:PV:=.agg [.bl false,.s (ByteArray.mk #[]),.s (ByteArray.mk #[])]
def stMs (w n:Nat) (qs:Nat->List Rat) (s:Rat) (W:Nat) (i:Int):LS:=⟨[wyP w n qs,.ptr 0 3 0 0 [],.ptr 1 3 0 0 [],.i .i64 i],[some ⟨3,.vals [rawZ]⟩,some ⟨3,.vals [.q s W]⟩]⟩
def stMi (w n:Nat) (qs:Nat->List Rat) (s:Rat) (W:Nat) (i m k:Int):LS:=⟨[wyP w n qs,.ptr 0 3 0 0 [],.ptr 1 3 0 0 [],.i .i64 i,.i .i64 m,.i .i64 k],[some ⟨3,.vals [rawZ]⟩,some ⟨3,.vals [.q s W]⟩]⟩
theorem tMi (w n:Nat) (qs:Nat->List Rat) (s:Rat) (W:Nat) (i m k:Int):(qe prog RMs [] polMs f17.ntmps 0 [1,4,7,8,28,29] bMi (stMi w n qs s W i m k)).run=
 (Tr.br (decide (k<m)) (.br (ix (i) ((n:Int))) (.br (ix (k) ((↑(qs i.toNat).length:Int))) (.br (ib (i-1)) (.br (ix (i-1) ((n:Int))) (.br (ix (k) ((↑(qs (i-1).toNat).length:Int))) (.br ((w+w+1).ble 800000) (.br ((w+w+1).ble 800000) (.br ((W+(w+w+1)+1).ble 800000) (.br (ib (k+1)) (.ok (.out .normal (LS.mk [.lst 1 (.fn n fun(j:Nat)=>.lst 3 (.rats w (qs j))),.ptr 0 3 0 0 [],.ptr 1 3 0 0 [],.i .i64 i,.i .i64 m,.i .i64 (k+1)] [some (.mk 3 (.vals [.agg [.bl false,.s (ByteArray.mk #[]),.s (ByteArray.mk #[])]])),some (.mk 3 (.vals [.q (s+rabs ((qs i.toNat).getD k.toNat 0-(qs (i-1).toNat).getD k.toNat 0)) (W+(w+w+1)+1)]))]))) (.no 13002)) (.no 1)) (.no 1)) (.no 1)) (.no 12006)) (.no 12009)) (.no 12010)) (.no 12014)) (.no 12017)) (.ok (.out (.exit 2) (LS.mk [.lst 1 (.fn n fun(j:Nat)=>.lst 3 (.rats w (qs j))),.ptr 0 3 0 0 [],.ptr 1 3 0 0 [],.i .i64 i,.i .i64 m,.i .i64 k] [some (.mk 3 (.vals [.agg [.bl false,.s (ByteArray.mk #[]),.s (ByteArray.mk #[])]])),some (.mk 3 (.vals [.q s W]))])))).run:=by kernel_rfl
theorem tMs (w n:Nat) (qs:Nat->List Rat) (s t:Rat) (W V:Nat) (i m:Int):(qe prog RMs [(9,qy (stMi w n qs s W i m 0) (.exit 2) (stMi w n qs t V i m m))] polMs f17.ntmps 0 [1,4,7,8] bMs (stMs w n qs s W i)).run=
 (Tr.br (decide (i<(n:Int))) (.br (ix (i) ((n:Int))) (.br (qg (isLS (LS.mk [.lst 1 (.fn n fun(j:Nat)=>.lst 3 (.rats w (qs j))),.ptr 0 3 0 0 [],.ptr 1 3 0 0 [],.i .i64 i,.i .i64 m,.i .i64 0] [some (.mk 3 (.vals [.agg [.bl false,.s (ByteArray.mk #[]),.s (ByteArray.mk #[])]])),some (.mk 3 (.vals [.q s W]))]) (LS.mk [.lst 1 (.fn n fun(j:Nat)=>.lst 3 (.rats w (qs j))),.ptr 0 3 0 0 [],.ptr 1 3 0 0 [],.i .i64 i,.i .i64 (↑(qs i.toNat).length:Int),.i .i64 0] [some (.mk 3 (.vals [.agg [.bl false,.s (ByteArray.mk #[]),.s (ByteArray.mk #[])]])),some (.mk 3 (.vals [.q s W]))]))) (.br (ib (i+1)) (.ok (.out .normal (LS.mk [.lst 1 (.fn n fun(j:Nat)=>.lst 3 (.rats w (qs j))),.ptr 0 3 0 0 [],.ptr 1 3 0 0 [],.i .i64 (i+1)] [some (.mk 3 (.vals [.agg [.bl false,.s (ByteArray.mk #[]),.s (ByteArray.mk #[])]])),some (.mk 3 (.vals [.q t V]))]))) (.no 8002)) (.no 1)) (.no 9004)) (.ok (.out (.exit 0) (LS.mk [.lst 1 (.fn n fun(j:Nat)=>.lst 3 (.rats w (qs j))),.ptr 0 3 0 0 [],.ptr 1 3 0 0 [],.i .i64 i] [some (.mk 3 (.vals [.agg [.bl false,.s (ByteArray.mk #[]),.s (ByteArray.mk #[])]])),some (.mk 3 (.vals [.q s W]))])))).run:=by kernel_rfl
theorem eMs (A:Am) (w n:Nat) (qs:Nat->List Rat) (s:Rat) (W:Nat):(evF prog (OMs A w n qs) [(6,qy (stMs w n qs ((0:Int):Rat) 64 1) (.exit 0) (stMs w n qs s W n))] polMs f17 [qm A,wyP w n qs] [] ql).run=
 (Tr.br (qg (isA [qm A,.lst 1 (.fn n fun(j:Nat)=>.lst 3 (.rats w (qs j)))] True [qm A,.lst 1 (.fn n fun(j:Nat)=>.lst 3 (.rats w (qs j)))])) (.br (qg (isLS (LS.mk [.lst 1 (.fn n fun(j:Nat)=>.lst 3 (.rats w (qs j))),.ptr 0 3 0 0 [],.ptr 1 3 0 0 [],.i .i64 1] [some (.mk 3 (.vals [.agg [.bl false,.s (ByteArray.mk #[]),.s (ByteArray.mk #[])]])),some (.mk 3 (.vals [.q (↑(0:Int):Rat) 64]))]) (LS.mk [.lst 1 (.fn n fun(j:Nat)=>.lst 3 (.rats w (qs j))),.ptr 0 3 0 0 [],.ptr 1 3 0 0 [],.i .i64 1] [some (.mk 3 (.vals [.agg [.bl false,.s (ByteArray.mk #[]),.s (ByteArray.mk #[])]])),some (.mk 3 (.vals [.q (↑(0:Int):Rat) 64]))]))) (.ok (.ret (.tup [.q s W,.i .i64 0]) [])) (.no 1)) (.no 1)).run:=by kernel_rfl
def msI (p q:List Rat) (s:Rat):Nat->Rat
 | 0=>s
 | k+1=>msI p q s k+rabs (q.getD k 0-p.getD k 0)
def msO (qs:Nat->List Rat) (m:Nat):Nat->Rat
 | 0=>((0:Int):Rat)
 | i+1=>msI (qs i) (qs (i+1)) (msO qs m i) m
def mW (w:Nat):Nat->Nat
 | 0=>64
 | t+1=>mW w t+(w+w+1)+1
theorem mW_eq (w:Nat):∀ t,mW w t=64+t*(w+w+2)
 | 0=>by rw[mW,Nat.zero_mul]
 | t+1=>by rw[mW,mW_eq w t,Nat.succ_mul];omega
theorem mW_le {w t:Nat} (hw:w<=1000) (ht:t<=30):mW w t<=70000:=by
 rw[mW_eq]
 have:=Nat.mul_le_mul ht (show w+w+2<=2002 by omega)
 omega
theorem tMsE (w n:Nat) (qs:Nat->List Rat) (s:Rat) (W:Nat) (i:Int):(qe prog RMs [] polMs f17.ntmps 0 [1,4,7,8] bMs (stMs w n qs s W i)).run=
  (Tr.br (decide (i<(n:Int))) (.br (ix (i) ((n:Int))) (.no 1) (.no 1)) (.ok (.out (.exit 0) (stMs w n qs s W i)))).run:=by kernel_rfl
include hG in
theorem pcMs (hT:qp G) (A:Am) (hA:armB A=true) (w n:Nat) (hw:w<=1000) (h1:1<=n) (h9:n<=9) (qs:Nat->List Rat) (hl:∀ j,j<n->(qs j).length=A.n):
  PC prog G 17 [qm A,wyP w n qs] [] (.tup [.q (msO qs A.n (n-1)) (mW w ((n-1)*A.n)),.i .i64 0]) []:=by
 obtain⟨a1,a2,a3,a4,k1,k3,a7⟩:=armB_c hA
 have oc:OrcOK prog G RMs:=.cons (gk21 hG hT) (.cons (gk28 hG hT) (.cons (gk29 hG hT) .nil))
 have inner:∀ (i:Nat) (s:Rat) (t:Nat),i+1<n->t<=24->Goes (Rnd prog G f17.ntmps 0 [1,4,7,8,28,29] bMi) (stMi w n qs s (mW w t) ((i+1:Nat):Int) A.n 0) (.exit 2) (stMi w n qs (msI (qs i) (qs (i+1)) s A.n) (mW w (t+A.n)) ((i+1:Nat):Int) A.n A.n):=fun i s t hi ht=>
  Goes.count (R:=Rnd prog G f17.ntmps 0 [1,4,7,8,28,29] bMi) (fun k=>stMi w n qs (msI (qs i) (qs (i+1)) s k) (mW w (t+k)) ((i+1:Nat):Int) A.n ((k:Nat):Int)) (e:=.exit 2) (by simp) A.n 0
   (fun k _ hk=>by
    have l1:=hl i (by omega)
    have l2:=hl (i+1) hi
    have hb:=mW_le hw (show t+k<=30 by omega)
    refine qb hG oc mix (L:=[]) (pol:=polMs) (O:=RMs) (kA (by kernel_rfl)) (by simp[stMi]) ?_
    have e1:(((i+1:Nat):Int)-1).toNat=i:=by omega
    rw[tMi,Int.toNat_natCast,Int.toNat_natCast,e1]
    repeat first|rw[k5 (by first|(simp only[kD,Bool.or_eq_true,kE,kH,Nat.blt_eq,kI,kJ,kK,kM];omega)|exact decP_iff.2 ⟨rfl,trivial⟩|exact decP_iff.2 rfl|exact kF rfl|decide)]|rw[k6 (by first|(simp only[Bool.and_eq_false_iff,Bool.not_eq_false',kE,kM];omega)|exact congrArg (!·) (kF rfl)|decide)]
    rw[k7]
    rfl)
   (by
    refine qb hG oc mix (L:=[]) (pol:=polMs) (O:=RMs) (kA (by kernel_rfl)) (by simp[stMi]) ?_
    rw[tMi,Nat.zero_add,k6 (kG (by omega)),k7]
    rfl)
 have g:=Goes.count (R:=Rnd prog G f17.ntmps 0 [1,4,7,8] bMs) (fun i=>stMs w n qs (msO qs A.n i) (mW w (i*A.n)) ((i+1:Nat):Int)) (e:=.exit 0) (ls':=stMs w n qs (msO qs A.n (n-1)) (mW w ((n-1)*A.n)) n) (by simp) (n-1) 0
  (fun i _ hi=>by
   have l2:=hl (i+1) (by omega)
   have hm:i*A.n<=24:=by
    have:=Nat.mul_le_mul (show i<=8 by omega) k3
    omega
   refine qb hG oc mix (L:=[(9,qy (stMi w n qs (msO qs A.n i) (mW w (i*A.n)) ((i+1:Nat):Int) A.n 0) (.exit 2) (stMi w n qs (msI (qs i) (qs (i+1)) (msO qs A.n i) A.n) (mW w (i*A.n+A.n)) ((i+1:Nat):Int) A.n A.n))]) (pol:=polMs) (O:=RMs)
    (qN (b:=bMi) (live:=[1,4,7,8,28,29]) (by kernel_rfl) (by kernel_rfl) (by kernel_rfl) (qv (inner i (msO qs A.n i) (i*A.n) (by omega) hm))) (by simp[stMs]) ?_
   rw[tMs,Int.toNat_natCast,l2]
   repeat first|rw[k5 (by first|(simp only[kD,Bool.or_eq_true,kE,kH,Nat.blt_eq,kI,kJ,kK,kM];omega)|exact decP_iff.2 ⟨rfl,trivial⟩|exact decP_iff.2 rfl|exact kF rfl|decide)]|rw[k6 (by first|(simp only[Bool.and_eq_false_iff,Bool.not_eq_false',kE,kM];omega)|exact congrArg (!·) (kF rfl)|decide)]
   rw[k7,Nat.succ_mul]
   rfl)
  (by
   refine qb hG oc mix (L:=[]) (pol:=polMs) (O:=RMs) (lps0 (b:=bMi) (by kernel_rfl) (by kernel_rfl)) (by simp[stMs]) ((tMsE w n qs _ _ _).trans ?_)
   rw[Nat.zero_add,show n-1+1=n by omega,k6 (kG (by omega)),k7])
 have g0:Goes (Rnd prog G f17.ntmps 0 [1,4,7,8] bMs) (stMs w n qs ((0:Int):Rat) 64 1) (.exit 0) (stMs w n qs (msO qs A.n (n-1)) (mW w ((n-1)*A.n)) n):=by
  have e0:mW w (0*A.n)=64:=by rw[Nat.zero_mul];rfl
  have g':=g
  rw[e0]at g'
  exact g'
 refine qj hG (.cons (ck71 hG) (.cons (qS (pcSc hG A hA w n h1 (by omega) qs hl)) .nil)) mix enMs (hs:=[]) (pol:=polMs) (O:=OMs A w n qs) (L:=[(6,qy (stMs w n qs ((0:Int):Rat) 64 1) (.exit 0) (stMs w n qs (msO qs A.n (n-1)) (mW w ((n-1)*A.n)) n))])
  (lps1n (m:=0) (b:=bMs) (b':=bMi) (live:=[1,4,7,8]) (by kernel_rfl) (by kernel_rfl) (by kernel_rfl) (by kernel_rfl) (qv g0)) ((eMs A w n qs _ _).trans ?_)
 repeat first|rw[k5 (by first|(simp only[kD,Bool.or_eq_true,kE,kH,Nat.blt_eq,kI,kJ,kK,kM];omega)|exact decP_iff.2 ⟨rfl,trivial⟩|exact decP_iff.2 rfl|exact kF rfl|decide)]|rw[k6 (by first|(simp only[Bool.and_eq_false_iff,Bool.not_eq_false',kE,kM];omega)|exact congrArg (!·) (kF rfl)|decide)]
 rw[k7]
theorem enWy:Enters prog 33 f33 (qd f33):=⟨func33,by kernel_rfl,rfl⟩
def bWy:Code:=(qi (qd f33)).getD 0 .skip
def polWy:Pol:={live:=[(4,[2,5,6,12,13])],wr:=[(14,[0])]}
def isP (a b:PV):Prop:=a=b
def vCfW (A:Am):Spec:=fun args hs K=>match args,hs with
 | [a,.lst 1 (.ints .i64 ks)],[]=>.br (qg (isP a (qm A))) (K (.fr 3 (.rats 64 (cfL A.lk (.lst 1 (.ints .i64 ks)) A.n))) []) (.no 1)
 | _,_=>.no 1
def RWy (A:Am):Orc:=[(15,vCfW A),(14,s45)]
def wyN (A:Am) (v:PV) (n i:Int):LS:=⟨[.ptr 0 12 0 0 [],.nil,.ptr 1 1 0 0 [],.i .i64 n,.i .i64 i],[some ⟨12,.vals [qm A]⟩,some ⟨1,.vals [.agg [.w v]]⟩]⟩
def wyX (A:Am) (v:PV) (L:List (List Rat)) (n i:Int):LS:=⟨[.ptr 0 12 0 0 [],.sl 1 1 0 L.length,.ptr 2 1 0 0 [],.i .i64 n,.i .i64 i],[some ⟨12,.vals [qm A]⟩,some ⟨1,.vals (L.map (wyE 64))⟩,some ⟨1,.vals [.agg [.w v]]⟩]⟩
def cfg (A:Am) (v:PV):List Rat:=cfL A.lk (.lst 1 (.ints .i64 [nx v 9,nx (rs v) 9,nx (rs (rs v)) 9])) A.n
def nx9 (v:PV):Bool:=okW v&&decide ((0:Int)<9)&&decide ((9:Int)<=4294967296)
def trWy (A:Am) (v:PV) (n i:Int) (c:Bool) (nxt ex:LS):Tr:=
 .br (decide (i<n)) (.br (nx9 v) (.br (nx9 (rs v)) (.br (nx9 (rs (rs v))) (.br (qg (isP (qm A) (qm A))) (.br (Nat.ble (0+(cfg A v).length) (cfg A v).length) (.br c (.br (ovf (i+1)) (.ok (.out .normal nxt)) (.no 1)) (.no 1)) (.no 1)) (.no 1)) (.no 1)) (.no 1)) (.no 1)) (.ok (.out (.exit 0) ex))
theorem tWyN (A:Am) (v:PV) (n i:Int):(qe prog (RWy A) [] polWy f33.ntmps 0 [2,5,6,12,13] bWy (wyN A v n i)).run=
  (trWy A v n i true (wyX A (rs (rs (rs v))) [List.take (cfg A v).length (List.drop 0 (cfg A v))] n (i+1)) (wyN A v n i)).run:=by kernel_rfl
theorem tWy (A:Am) (v:PV) (n i:Int):∀ L:List (List Rat),1<=L.length->L.length<=5->(qe prog (RWy A) [] polWy f33.ntmps 0 [2,5,6,12,13] bWy (wyX A v L n i)).run=
  (trWy A v n i (Nat.ble (L.length+1) 4294967296) (wyX A (rs (rs (rs v))) (L++[List.take (cfg A v).length (List.drop 0 (cfg A v))]) n (i+1)) (wyX A v L n i)).run
 | [],h,_=>absurd h (Nat.not_succ_le_zero 0)
 | [a],_,_=>by kernel_rfl
 | [a,b],_,_=>by kernel_rfl
 | [a,b,c],_,_=>by kernel_rfl
 | [a,b,c,d],_,_=>by kernel_rfl
 | [a,b,c,d,e],_,_=>by kernel_rfl
 | _::_::_::_::_::_::_,_,h=>by simp only[kI]at h;omega
theorem eWy (A:Am) (m v:PV):∀ L:List (List Rat),1<=L.length->L.length<=5->(evF prog (RWy A) [(4,qy (wyN A (rs m) (1+nx m 5) 0) (.exit 0) (wyX A v L (1+nx m 5) (1+nx m 5)))] polWy f33 [qm A,.w m] [] ql).run=
  (Tr.br (okW m&&decide ((0:Int)<5)&&decide ((5:Int)<=4294967296)) (.br (ovf (1+nx m 5)) (.br (qg (isLS (wyN A (rs m) (1+nx m 5) 0) (wyN A (rs m) (1+nx m 5) 0))) (.ok (.ret (.fr 1 (.vals (L.map (wyE 64)))) [])) (.no 1)) (.no 1)) (.no 1)).run
 | [],h,_=>absurd h (Nat.not_succ_le_zero 0)
 | [a],_,_=>by kernel_rfl
 | [a,b],_,_=>by kernel_rfl
 | [a,b,c],_,_=>by kernel_rfl
 | [a,b,c,d],_,_=>by kernel_rfl
 | [a,b,c,d,e],_,_=>by kernel_rfl
 | _::_::_::_::_::_::_,_,h=>by simp only[kI]at h;omega
def wyV (v:PV):Nat->PV
 | 0=>v
 | j+1=>rs (rs (rs (wyV v j)))
theorem okW_wyV {v:PV} (h:okW v=true):∀ j,okW (wyV v j)=true
 | 0=>h
 | j+1=>qG (qG (qG (okW_wyV h j)))
def wayQ (A:Am) (m:PV) (j:Nat):List Rat:=cfg A (wyV (rs m) j)
def wayN (m:PV):Nat:=(1+nx m 5).toNat
include hG in
theorem vkCfW (A:Am) (hA:armB A=true) (hX:limX A=true):qc prog G 15 (vCfW A):=by
 intro args hs K x h
 unfold vCfW at h
 split at h
 case h_2=>cases h
 rename_i a ks
 obtain⟨hc,hr⟩:=k8 h
 obtain rfl:a=qm A:=decP_iff.1 hc
 obtain⟨r,hs',p,e⟩:=ok33 hG [qm A,.w (.lst 1 (.ints .i64 ks))] [] (fun r hs'=>.ok (.ret r hs')) (.ret (.fr 3 (.rats 64 (cfL A.lk (.lst 1 (.ints .i64 ks)) A.n))) []) (by
  show(Tr.br _ _ _).run=_
  rw[k5 (decP_iff.2 ⟨okA_arm hA,hX,rfl⟩)];rfl)
 cases e
 exact⟨_,_,PC.args (.cons (.refl _) (.cons (vle_w_in rfl) .nil)) p,hr⟩
include hG in
theorem pcWy (A:Am) (hA:armB A=true) (hX:limX A=true) (m:PV) (hm:okW m=true):PC prog G 33 [qm A,.w m] [] (.fr 1 (.vals (((List.range (wayN m)).map (wayQ A m)).map (wyE 64)))) []:=by
 obtain⟨r0,r1⟩:=qw m (show(0:Int)<5 by omega)
 have oc:OrcOK prog G (RWy A):=.cons (vkCfW hG A hA hX) (.cons (ok45 hG) .nil)
 obtain⟨n,hn⟩:∃ n:Nat,wayN m=n:=⟨_,rfl⟩
 have hN:1+nx m 5=(n:Int):=by unfold wayN at hn;omega
 have k9:∀ {v:PV},okW v=true->nx9 v=true:=fun h=>by simp only[nx9,h];rfl
 have run:∀ (v:PV) (j:Nat) (c:Bool) (nxt ex:LS),okW v=true->j<n->c=true->(trWy A v n (j:Nat) c nxt ex).run=some (.out .normal nxt):=fun v j c nxt ex hv hj hc=>by
  unfold trWy
  rw[k5 (kF (by omega)),k5 (k9 hv),k5 (k9 (qG hv)),k5 (k9 (qG (qG hv))),k5 (decP_iff.2 (show isP _ _ from rfl)),k5 (by rw[kH];omega),k5 hc,k5 (by simp only[ovf,kD,kE];omega),k7]
 have ho:=qG hm
 have g:Goes (Rnd prog G f33.ntmps 0 [2,5,6,12,13] bWy) (wyN A (rs m) n 0) (.exit 0) (wyX A (wyV (rs m) n) ((List.range n).map (wayQ A m)) n n):=by
  refine Goes.build (xst:=fun L (j:Nat)=>wyX A (wyV (rs m) j) L n ((j:Nat):Int)) (wayQ A m) (by simp) n (by omega) ?_ ?_ ?_
  ·refine qb hG oc mix (L:=[]) (pol:=polWy) (kA (by kernel_rfl)) (by simp[wyN]) ((tWyN A (rs m) n ((0:Nat):Int)).trans ?_)
   rw[run (rs m) 0 _ _ _ ho (by omega) rfl,List.drop_zero,List.take_length]
   rfl
  ·intro L j hL h1 hj
   refine qb hG oc mix (L:=[]) (pol:=polWy) (kA (by kernel_rfl)) (by simp[wyX]) ((tWy A (wyV (rs m) j) n ((j:Nat):Int) L (by omega) (by omega)).trans ?_)
   rw[run _ j _ _ _ (okW_wyV ho j) hj (by rw[kH];omega),List.drop_zero,List.take_length]
   rfl
  ·refine qb hG oc mix (L:=[]) (pol:=polWy) (kA (by kernel_rfl)) (by simp[wyX]) ((tWy A (wyV (rs m) n) n ((n:Nat):Int) _ (by simp;omega) (by simp;omega)).trans ?_)
   unfold trWy
   rw[k6 (kG (by omega)),k7]
 have g1:Goes (Rnd prog G f33.ntmps 0 [2,5,6,12,13] bWy) (wyN A (rs m) (1+nx m 5) 0) (.exit 0) (wyX A (wyV (rs m) n) ((List.range n).map (wayQ A m)) (1+nx m 5) (1+nx m 5)):=by
  rw[hN]
  exact g
 rw[hn]
 refine qj hG oc mix enWy (pol:=polWy) (L:=[(4,qy (wyN A (rs m) (1+nx m 5) 0) (.exit 0) (wyX A (wyV (rs m) n) ((List.range n).map (wayQ A m)) (1+nx m 5) (1+nx m 5)))])
  (qN (b:=bWy) (live:=[2,5,6,12,13]) (m:=0) (by kernel_rfl) (by kernel_rfl) (by kernel_rfl) (qv g1)) ((eWy A m _ _ (by simp;omega) (by simp;omega)).trans ?_)
 rw[k5 (by rw[hm];rfl),k5 (by simp only[ovf,kD,kE];omega),k5 qK,k7]
end
section
open Go
set_option maxRecDepth 100000
def ck (M:Nat->Nat->Bool) (i:Nat):Nat->Nat
 | 0=>0
 | k+1=>if i+1<k+1/\M i (k+1)=false then ck M i k else k+1
theorem ck_spec (M:Nat->Nat->Bool) (i:Nat):∀ k,i+1<=k->i+1<=ck M i k/\ck M i k<=k/\(ck M i k=i+1\/M i (ck M i k)=true)
 | 0,h=>absurd h (Nat.not_succ_le_zero i)
 | k+1,h=>by
  rw[ck]
  split
  ·rename_i hc
   obtain⟨a,b,c⟩:=ck_spec M i k (by omega)
   exact⟨a,by omega,c⟩
  ·rename_i hc
   refine⟨h,Nat.le_refl _,?_⟩
   by_cases h1:i+1<k+1
   ·refine .inr ?_
    cases hm:M i (k+1)with
    | true=>rfl
    | false=>exact absurd ⟨h1,hm⟩ hc
   ·exact .inl (by omega)
def cutI (M:Nat->Nat->Bool) (n:Nat):Nat->Nat->List Nat
 | 0,_=>[]
 | f+1,i=>if i+1<n then ck M i (n-1)::cutI M n f (ck M i (n-1))else []
def chn (M:Nat->Nat->Bool) (n:Nat):Nat->List Nat->Prop
 | i,[]=>i+1=n
 | i,k::l=>i+1<=k/\k+1<=n/\(k=i+1\/M i k=true)/\chn M n k l
theorem cutI_chn (M:Nat->Nat->Bool) (n:Nat):∀ f i,n<=f+i+1->i+1<=n->chn M n i (cutI M n f i)
 | 0,i,h1,h2=>show i+1=n by omega
 | f+1,i,h1,h2=>by
  rw[cutI]
  split
  ·obtain⟨a,b,c⟩:=ck_spec M i (n-1) (by omega)
   exact⟨a,by omega,c,cutI_chn M n f _ (by omega) (by omega)⟩
  ·show i+1=n
   omega
theorem chn_len (M:Nat->Nat->Bool) (n:Nat):∀ l i,chn M n i l->l.length+i+1<=n
 | [],i,h=>by have:i+1=n:=h;simp only[kJ];omega
 | k::l,i,h=>by
  have:=chn_len M n l k h.2.2.2
  have:=h.1
  simp only[kI]
  omega
theorem chn_step (M:Nat->Nat->Bool) (n:Nat):∀ l i,chn M n i l->∀ j,j<l.length->(i::l).getD j 0+1<=(i::l).getD (j+1) 0/\(i::l).getD (j+1) 0+1<=n/\((i::l).getD (j+1) 0=(i::l).getD j 0+1\/M ((i::l).getD j 0) ((i::l).getD (j+1) 0)=true)
 | [],i,h,j,hj=>absurd hj (Nat.not_lt_zero j)
 | k::l,i,h,0,hj=>⟨h.1,h.2.1,h.2.2.1⟩
 | k::l,i,h,j+1,hj=>chn_step M n l k h.2.2.2 j (by simpa using hj)
theorem chn_last (M:Nat->Nat->Bool) (n:Nat):∀ l i,chn M n i l->(i::l).getD l.length 0+1=n
 | [],i,h=>h
 | k::l,i,h=>chn_last M n l k h.2.2.2
def cuI (M:Nat->Nat->Bool) (n:Nat):List Nat:=0::cutI M n n 0
def cuJ (M:Nat->Nat->Bool) (n j:Nat):Nat:=(cuI M n).getD j 0
theorem cuI_chn (M:Nat->Nat->Bool) {n:Nat} (h:1<=n):chn M n 0 (cutI M n n 0):=cutI_chn M n n 0 (by omega) (by omega)
theorem cuI_len (M:Nat->Nat->Bool) {n:Nat} (h:1<=n):1<=(cuI M n).length/\(cuI M n).length<=n:=by
 have:=chn_len M n _ _ (cuI_chn M h)
 unfold cuI
 simp only[kI]
 omega
theorem cuJ_step (M:Nat->Nat->Bool) {n:Nat} (h:1<=n) {j:Nat} (hj:j+1<(cuI M n).length):cuJ M n j+1<=cuJ M n (j+1)/\cuJ M n (j+1)+1<=n/\(cuJ M n (j+1)=cuJ M n j+1\/M (cuJ M n j) (cuJ M n (j+1))=true):=
 chn_step M n _ _ (cuI_chn M h) j (by unfold cuI at hj;simp only[kI]at hj;omega)
theorem cuJ_last (M:Nat->Nat->Bool) {n:Nat} (h:1<=n):cuJ M n ((cuI M n).length-1)+1=n:=chn_last M n _ _ (cuI_chn M h)
theorem cuJ_lt (M:Nat->Nat->Bool) {n:Nat} (h:1<=n):∀ j,j<(cuI M n).length->cuJ M n j<n
 | 0,_=>h
 | j+1,hj=>by have:=(cuJ_step M h hj).2.1;omega
theorem cut_free {M:Nat->Nat->Bool} {n:Nat} (h:1<=n) (hf:∀ j,j<n->M (j-1) j=true):∀ j,j<(cuI M n).length->M (cuJ M n (j-1)) (cuJ M n j)=true
 | 0,_=>hf 0 h
 | j+1,hj=>by
  obtain⟨a,b,c⟩:=cuJ_step M h hj
  rw[Nat.add_sub_cancel]
  rcases c with c|c
  ·have:=hf (cuJ M n (j+1)) (by omega)
   rwa[show cuJ M n (j+1)-1=cuJ M n j by omega]at this
  ·exact c
def dSq (p q:List Rat) (k:Nat):Rat:=msI p q 0 k
theorem msI_add (p q:List Rat) (s:Rat):∀ k,msI p q s k=s+dSq p q k
 | 0=>by show s=s+0;grind
 | k+1=>by
  have:=msI_add p q s k
  show msI p q s k+_=s+(dSq p q k+_)
  rw[this];grind
theorem rabs_tri (a b c:Rat):rabs (c-a)<=rabs (b-a)+rabs (c-b):=by
 unfold rabs
 split<;>split<;>split<;>grind
theorem dSq_tri (p q r:List Rat):∀ k,dSq p r k<=dSq p q k+dSq q r k
 | 0=>by show(0:Rat)<=0+0;grind
 | k+1=>by
  have h1:=dSq_tri p q r k
  have h2:=rabs_tri (p.getD k 0) (q.getD k 0) (r.getD k 0)
  show dSq p r k+_<=(dSq p q k+_)+(dSq q r k+_)
  grind
theorem dSq_self (p:List Rat):∀ k,dSq p p k=0
 | 0=>rfl
 | k+1=>by
  have h1:=dSq_self p k
  show dSq p p k+rabs (p.getD k 0-p.getD k 0)=0
  rw[h1,show p.getD k 0-p.getD k 0=0 by grind]
  kernel_rfl
theorem dSq_le (qs:Nat->List Rat) (m a:Nat):∀ d,dSq (qs a) (qs (a+d)) m+msO qs m a<=msO qs m (a+d)
 | 0=>by rw[Nat.add_zero,dSq_self];grind
 | d+1=>by
  have h1:=dSq_le qs m a d
  have h2:=dSq_tri (qs a) (qs (a+d)) (qs (a+d+1)) m
  have h3:msO qs m (a+d+1)=msO qs m (a+d)+dSq (qs (a+d)) (qs (a+d+1)) m:=msI_add _ _ _ _
  show dSq (qs a) (qs (a+d+1)) m+_<=msO qs m (a+d+1)
  grind
theorem cut_short {M:Nat->Nat->Bool} {n:Nat} (h:1<=n) (qs:Nat->List Rat) (m:Nat):∀ j,j<(cuI M n).length->msO (fun j=>qs (cuJ M n j)) m j<=msO qs m (cuJ M n j)
 | 0,_=>Rat.le_refl
 | j+1,hj=>by
  obtain⟨a,b,c⟩:=cuJ_step M h hj
  have ih:=cut_short (M:=M) h qs m j (by omega)
  have h3:msO (fun j=>qs (cuJ M n j)) m (j+1)=msO (fun j=>qs (cuJ M n j)) m j+dSq (qs (cuJ M n j)) (qs (cuJ M n (j+1))) m:=msI_add _ _ _ _
  have h4:=dSq_le qs m (cuJ M n j) (cuJ M n (j+1)-cuJ M n j)
  rw[show cuJ M n j+(cuJ M n (j+1)-cuJ M n j)=cuJ M n (j+1) by omega]at h4
  grind
end
section
open Go Tryz
set_option maxRecDepth 100000
variable {G:World->(Nat->Prop)->Prop} (hG:GOk G)
def gdP (q:List Rat):Prop:=1<=q.length/\q.length<=1000/\∀ i,i<q.length->sz (q.getD i 0)<=64
def vGd:Spec:=fun args hs K=>match args,hs with
 | [.lst 3 (.rats 64 q)],[]=>.br (qg (gdP q)) (K (.fr 3 (.rats 64 q)) []) (.no 1)
 | _,_=>.no 1
theorem enCt:Enters prog 34 f34 (qd f34):=⟨func34,by kernel_rfl,rfl⟩
theorem enFe:Enters prog 35 f35 (qd f35):=⟨func35,by kernel_rfl,rfl⟩
def bCt:Code:=(qi (qd f34)).getD 0 .skip
def iCt:Code:=(qi (qd f34)).getD 1 .skip
def polCt:Pol:={live:=[(9,[1,2,3,4,13,14]),(11,[1,2,3,4,13,14,15])],own:=[44]}
def ixD (k n:Int):Bool:=decide ((0:Int)<=k)&&decide (k<n)
section
variable (A:Am) (n:Nat) (qs:Nat->List Rat) (V:PV)
def stCt (L:List (List Rat)) (i:Int):LS:=⟨[wyP 64 n qs,.w V,.i .i64 2,.ptr 0 12 0 0 [],.sl 1 1 0 L.length,.i .i64 i],[some ⟨12,.vals [qm A]⟩,some ⟨1,.vals (L.map (wyE 64))⟩]⟩
def siCt (L:List (List Rat)) (i k:Int):LS:=⟨[wyP 64 n qs,.w V,.i .i64 2,.ptr 0 12 0 0 [],.sl 1 1 0 L.length,.i .i64 i,.i .i64 k],[some ⟨12,.vals [qm A]⟩,some ⟨1,.vals (L.map (wyE 64))⟩]⟩
def trCi (B:List Rat->List Rat->Int->Bool) (i k:Int) (nx ex:LS):Tr:=
 .br (ovf (i+1)) (.br (decide (i+1<k)) (.br (ixD i n) (.br (ixD k n) (.br (qg (isMo A V (qm A) (qs i.toNat) (qs k.toNat) V 2)) (.br (B (qs i.toNat) (qs k.toNat) 2) (.ok (.out (.exit 2) ex)) (.br (ovf (k-1)) (.ok (.out .normal nx)) (.no 1)))
  (.no 1)) (.no 1)) (.no 1)) (.ok (.out (.exit 2) ex))) (.no 1)
theorem tCi (B:List Rat->List Rat->Int->Bool) (i k:Int):∀ L:List (List Rat),1<=L.length->L.length<=4->(qe prog [(30,vMo A V B)] [] polCt f34.ntmps 0 [1,2,3,4,13,14,15] iCt (siCt A n qs V L i k)).run=
  (trCi A n qs V B i k (siCt A n qs V L i (k-1)) (siCt A n qs V L i k)).run|[],h,_=>absurd h (Nat.not_succ_le_zero 0)|[a],_,_=>by kernel_rfl|[a,b],_,_=>by kernel_rfl|[a,b,c],_,_=>by kernel_rfl|[a,b,c,d],_,_=>by kernel_rfl|_::_::_::_::_::_,_,h=>by simp only[kI]at h;omega def trCE (L:List (List Rat)) (i:Int):Tr:=.br (ovf ((n:Int)-1)) (.br (decide (i<(n:Int)-1)) (.br (ovf ((n:Int)-1)) (.no 1) (.no 1)) (.ok (.out (.exit 0) (stCt A n qs V L i)))) (.no 1) theorem tCtE (i:Int):∀ L:List (List Rat),1<=L.length->L.length<=5->(qe prog [] [] polCt f34.ntmps 0 [1,2,3,4,13,14] bCt (stCt A n qs V L i)).run=(trCE A n qs V L i).run|[],h,_=>absurd h (Nat.not_succ_le_zero 0)|[a],_,_=>by kernel_rfl|[a,b],_,_=>by kernel_rfl|[a,b,c],_,_=>by kernel_rfl|[a,b,c,d],_,_=>by kernel_rfl|[a,b,c,d,e],_,_=>by kernel_rfl|_::_::_::_::_::_::_,_,h=>by simp only[kI]at h;omega def trCt (L:List (List Rat)) (i k:Int):Tr:=.br (ovf ((n:Int)-1)) (.br (decide (i<(n:Int)-1)) (.br (ovf ((n:Int)-1)) (.br (qg (isLS (siCt A n qs V L i ((n:Int)-1)) (siCt A n qs V L i ((n:Int)-1)))) (.br (ixD k n) (.br (qg (gdP (qs k.toNat))) (.br (Nat.ble (0+(qs k.toNat).length) (qs k.toNat).length) (.br (Nat.ble (L.length+1) 4294967296) (.ok (.out .normal (stCt A n qs V (L++[tkz (qs k.toNat)]) k))) (.no 1)) (.no 1)) (.no 1)) (.no 1)) (.no 1)) (.no 1)) (.ok (.out (.exit 0) (stCt A n qs V L i)))) (.no 1) theorem tCt (i k:Int):∀ L:List (List Rat),1<=L.length->L.length<=4->(qe prog [(76,vGd)] [(11,qy (siCt A n qs V L i ((n:Int)-1)) (.exit 2) (siCt A n qs V L i k))] polCt f34.ntmps 0 [1,2,3,4,13,14] bCt (stCt A n qs V L i)).run=(trCt A n qs V L i k).run|[],h,_=>absurd h (Nat.not_succ_le_zero 0)|[a],_,_=>by kernel_rfl|[a,b],_,_=>by kernel_rfl|[a,b,c],_,_=>by kernel_rfl|[a,b,c,d],_,_=>by kernel_rfl|_::_::_::_::_::_,_,h=>by simp only[kI]at h;omega def trCf (L:List (List Rat)):Tr:=.br (qg (isA [qm A,wyP 64 n qs] True [qm A,wyP 64 n qs])) (.br (ixD 0 n) (.br (ixD 0 n) (.br (qg (isMo A V (qm A) (qs 0) (qs 0) V 2)) (.br (ixD 0 n) (.br (qg (gdP (qs 0))) (.br (Nat.ble (0+(qs 0).length) (qs 0).length) (.br (qg (isLS (stCt A n qs V [qs 0] 0) (stCt A n qs V [tkz (qs 0)] 0))) (.ok (.ret (.tup [.fr 1 (.vals (L.map (wyE 64))),.i .i64 0]) [])) (.no 1)) (.no 1)) (.no 1)) (.no 1)) (.no 1)) (.no 1)) (.no 1)) (.no 1) theorem eCt (B:List Rat->List Rat->Int->Bool) (k:Int):∀ L:List (List Rat),1<=L.length->L.length<=5->(evF prog [(52,cst [qm A,wyP 64 n qs] True (.i .i64 0)),(30,vMo A V B),(76,vGd)] [(9,qy (stCt A n qs V [qs 0] 0) (.exit 0) (stCt A n qs V L k))] polCt f34 [qm A,wyP 64 n qs,.w V,.i .i64 2] [] ql).run=(trCf A n qs V L).run|[],h,_=>absurd h (Nat.not_succ_le_zero 0)|[a],_,_=>by kernel_rfl|[a,b],_,_=>by kernel_rfl|[a,b,c],_,_=>by kernel_rfl|[a,b,c,d],_,_=>by kernel_rfl|[a,b,c,d,e],_,_=>by kernel_rfl|_::_::_::_::_::_::_,_,h=>by simp only[kI]at h;omega def bFe:Code:=(qi (qd f35)).getD 0 .skip def polFe:Pol:={live:=[(10,[1,2,3,4,8,9,11,27,28])]} def stFe (b:PV) (i:Int):LS:=⟨[wyP 64 n qs,.w V,.i .i64 2,.ptr 0 12 0 0 [],.bl false,.i .i64 0,b,.i .i64 n,.i .i64 i],[some ⟨12,.vals [qm A]⟩]⟩ def mxI (i:Int):Int:=if (0:Int)>i-1 then 0 else i-1 def trFe (i:Int) (c:Tr) (ex:LS):Tr:=.br (decide (i<(n:Int))) (.br (ovf (i-1)) (.br (ixD (mxI i) n) (.br (ixD i n) (.br (qg (isMo A V (qm A) (qs (mxI i).toNat) (qs i.toNat) V 2)) c (.no 1)) (.no 1)) (.no 1)) (.no 1)) (.ok (.out (.exit 0) ex)) def nxFe (v:PV) (i:Int):Tr:=.br (ovf (i+1)) (.ok (.out .normal (stFe A n qs V v (i+1)))) (.no 1) def evFe (B:List Rat->List Rat->Int->Bool) (v:PV) (i:Int):Tr:=qe prog [(30,vMo A V B)] [] polFe f35.ntmps 0 [1,2,3,4,8,9,11,27,28] bFe (stFe A n qs V v i) theorem tFe1 (B:List Rat->List Rat->Int->Bool) (i:Int):(evFe A n qs V B (.bl true) i).run=(trFe A n qs V i (nxFe A n qs V (.b (B (qs (mxI i).toNat) (qs i.toNat) 2)) i) (stFe A n qs V (.bl true) i)).run:=by kernel_rfl
theorem tFe0 (B:List Rat->List Rat->Int->Bool) (i:Int):(evFe A n qs V B (.bl false) i).run=
  (trFe A n qs V i (nxFe A n qs V (.bl false) i) (stFe A n qs V (.bl false) i)).run:=by kernel_rfl
theorem tFeB (B:List Rat->List Rat->Int->Bool) (b:Bool) (i:Int):(evFe A n qs V B (.b b) i).run=
  (trFe A n qs V i (.br b (nxFe A n qs V (.b (B (qs (mxI i).toNat) (qs i.toNat) 2)) i) (nxFe A n qs V (.bl false) i)) (stFe A n qs V (.b b) i)).run:=by kernel_rfl
def trFf (v:PV):Tr:=
 .br (qg (isA [qm A] True [qm A])) (.br (decide ((n:Int)=0)) (.ok (.ret (.tup [.bl false,.i .i64 14]) [])) (.br (decide (60<(n:Int))) (.ok (.ret (.tup [.bl false,.i .i64 2]) []))
  (.br (qg (isLS (stFe A n qs V (.bl true) 0) (stFe A n qs V (.bl true) 0))) (.ok (.ret (.tup [v,.i .i64 0]) [])) (.no 1)))) (.no 1)
def evFf (v:PV):Tr:=evF prog [(49,cst [qm A] True (.i .i64 0))] [(10,qy (stFe A n qs V (.bl true) 0) (.exit 0) (stFe A n qs V v n))] polFe f35 [qm A,wyP 64 n qs,.w V,.i .i64 2] [] ql
theorem eFe0:(evFf A n qs V (.bl false)).run=(trFf A n qs V (.bl false)).run:=by kernel_rfl
theorem eFeB (b:Bool):(evFf A n qs V (.b b)).run=(trFf A n qs V (.b b)).run:=by kernel_rfl
end
theorem bd_sz {x:Rat} (h:Prof.Bd x 30000000 8000000):sz x<=64:=by
 have lg:∀ k:Nat,k<2^31->Nat.log2 k<=31:=fun k hk=>by
  by_cases h0:k=0
  ·subst h0;decide
  ·have:=(Nat.log2_lt (k:=31) h0).2 hk
   omega
 have b1:=lg x.num.natAbs (by have:=h.1;omega)
 have b2:=lg x.den (by have:=h.2;omega)
 unfold sz
 omega
include hG in
theorem vkGd (hT:qp G):qc prog G 76 vGd:=by
 intro args hs K x h
 unfold vGd at h
 split at h
 case h_2=>cases h
 rename_i q
 obtain⟨hc,hr⟩:=k8 h
 obtain⟨h1,h2,h3⟩:=decP_iff.1 hc
 exact⟨_,_,(pcGd hG hT 64 (by omega) q h1 h2).le (frrats_sz 3 q h3) (.refl _),hr⟩
section
variable {A:Am} {n:Nat} {qs:Nat->List Rat} {V:PV} {B:List Rat->List Rat->Int->Bool}
def MB (B:List Rat->List Rat->Int->Bool) (qs:Nat->List Rat) (i k:Nat):Bool:=B (qs i) (qs k) 2
theorem ovf_of {k:Int} (h1 : -1000<=k) (h2:k<=1000):ovf k=true:=by simp only[ovf,kD,kE];omega
theorem ixD_of {k n:Int} (h1:0<=k) (h2:k<n):ixD k n=true:=by simp only[ixD,kD,kE];omega
include hG in
theorem goCi (hB:qc prog G 30 (vMo A V B)) (hl:∀ j,j<n->(qs j).length=A.n) (hn:n<=5) (L:List (List Rat)) (h1:1<=L.length) (h4:L.length<=4) (i:Nat):∀ k:Nat,i+1<=k->k<n->
  Goes (Rnd prog G f34.ntmps 0 [1,2,3,4,13,14,15] iCt) (siCt A n qs V L i k) (.exit 2) (siCt A n qs V L i (ck (MB B qs) i k:Nat))
 | 0,h,_=>absurd h (Nat.not_succ_le_zero i)
 | k+1,h,hk=>by
  have rn:∀ {e:Exit} {st:LS},(trCi A n qs V B i ((k+1:Nat):Int) (siCt A n qs V L i (((k+1:Nat):Int)-1)) (siCt A n qs V L i ((k+1:Nat):Int))).run=some (.out e st)->Rnd prog G f34.ntmps 0 [1,2,3,4,13,14,15] iCt (siCt A n qs V L i ((k+1:Nat):Int)) e st:=fun hr=>
   qb hG (.cons hB .nil) mix (L:=[]) (pol:=polCt) (kA (by kernel_rfl)) (Nat.zero_le _) ((tCi A n qs V B i ((k+1:Nat):Int) L h1 h4).trans hr)
  unfold trCi at rn
  rw[k5 (ovf_of (by omega) (by omega))]at rn
  rw[ck]
  by_cases hc:i+1<k+1
  ·rw[k5 (kF (by omega)),k5 (ixD_of (by omega) (by omega)),k5 (ixD_of (by omega) (by omega)),k5 (decP_iff.2 ⟨rfl,rfl,hl _ (by omega),hl _ (by omega),by omega,by omega⟩),Int.toNat_natCast,Int.toNat_natCast]at rn
   cases hb:B (qs i) (qs (k+1)) 2 with
   | true=>
    rw[if_neg (fun h=>by have:MB B qs i (k+1)=false:=h.2;rw[MB,hb]at this;cases this)]
    rw[k5 hb,k7]at rn
    exact .last _ _ _ (rn rfl) (by simp)
   | false=>
    rw[if_pos ⟨hc,hb⟩]
    rw[k6 hb,k5 (ovf_of (by omega) (by omega)),k7]at rn
    have e:(((k+1:Nat):Int)-1)=(k:Int):=by omega
    rw[e]at rn
    exact .more _ _ _ _ (rn rfl) (goCi hB hl hn L h1 h4 i k (by omega) (by omega))
  ·rw[if_neg (fun h=>hc h.1)]
   rw[k6 (kG (by omega)),k7]at rn
   exact .last _ _ _ (rn rfl) (by simp)
include hG in
theorem goCt (hT:qp G) (hB:qc prog G 30 (vMo A V B)) (hl:∀ j,j<n->(qs j).length=A.n) (hg:∀ j,j<n->gdP (qs j)) (hn:n<=5):∀ (f i:Nat) (L:List (List Rat)),n<=f+i+1->i+1<=n->1<=L.length->L.length+n<=i+6->
  Goes (Rnd prog G f34.ntmps 0 [1,2,3,4,13,14] bCt) (stCt A n qs V L i) (.exit 0) (stCt A n qs V (L++(cutI (MB B qs) n f i).map qs) ((n-1:Nat):Int)):=fun f=>by
 have stop:∀ (i:Nat) (L:List (List Rat)),i+1=n->1<=L.length->L.length<=5->Goes (Rnd prog G f34.ntmps 0 [1,2,3,4,13,14] bCt) (stCt A n qs V L i) (.exit 0) (stCt A n qs V (L++[].map qs) ((n-1:Nat):Int)):=fun i L hi h1 h5=>by
  rw[show n-1=i by omega,List.map_nil,List.append_nil]
  refine .last _ _ _ (qb hG .nil mix (L:=[]) (pol:=polCt) (lps0 (b:=iCt) (by kernel_rfl) (by kernel_rfl)) (Nat.zero_le _) ((tCtE A n qs V i L h1 h5).trans ?_)) (by simp)
  unfold trCE
  rw[k5 (ovf_of (by omega) (by omega)),k6 (kG (by omega)),k7]
 induction f with
 | zero=>exact fun i L a b c d=>stop i L (by omega) c (by omega)
 | succ f ih=>
  intro i L a b c d
  rw[cutI]
  split
  ·rename_i hi
   obtain⟨k1,k2,_⟩:=ck_spec (MB B qs) i (n-1) (by omega)
   have inner:=goCi hG hB hl hn L c (by omega) i (n-1) (by omega) (by omega)
   rw[show((n-1:Nat):Int)=(n:Int)-1 by omega]at inner
   refine .more _ (stCt A n qs V (L++[qs (ck (MB B qs) i (n-1))]) (ck (MB B qs) i (n-1):Nat)) _ _ ?_ ?_
   ·refine qb hG (.cons (vkGd hG hT) .nil) mix (L:=[(11,qy (siCt A n qs V L i ((n:Int)-1)) (.exit 2) (siCt A n qs V L i (ck (MB B qs) i (n-1):Nat)))]) (pol:=polCt)
     (qN (b:=iCt) (live:=[1,2,3,4,13,14,15]) (by kernel_rfl) (by kernel_rfl) (by kernel_rfl) (qv inner)) (Nat.zero_le _) ((tCt A n qs V i _ L c (by omega)).trans ?_)
    unfold trCt
    rw[Int.toNat_natCast,tkz_eq,k5 (ovf_of (by omega) (by omega)),k5 (kF (by omega)),k5 (ovf_of (by omega) (by omega)),k5 qK,k5 (ixD_of (by omega) (by omega)),k5 (decP_iff.2 (hg _ (by omega))),k5 (by rw[kH];omega),k5 (by rw[kH];omega),k7]
   ·have:=ih (ck (MB B qs) i (n-1)) (L++[qs (ck (MB B qs) i (n-1))]) (by omega) (by omega) (by rw[List.length_append];omega) (by rw[List.length_append];simp only[kI,kJ];omega)
    rw[List.append_assoc]at this
    exact this
  ·exact stop i L (by omega) c (by omega)
include hG in
theorem pcCt (hT:qp G) (hA:armB A=true) (hB:qc prog G 30 (vMo A V B)) (hl:∀ j,j<n->(qs j).length=A.n) (hg:∀ j,j<n->gdP (qs j)) (h1:1<=n) (hn:n<=5):
  PC prog G 34 [qm A,wyP 64 n qs,.w V,.i .i64 2] [] (.tup [.fr 1 (.vals (((cuI (MB B qs) n).map qs).map (wyE 64))),.i .i64 0]) []:=by
 obtain⟨l1,l2⟩:=cuI_len (MB B qs) h1
 have g:=goCt hG hT hB hl hg hn n 0 [qs 0] (by omega) (by omega) (Nat.le_refl _) (by simp only[kI,kJ];omega)
 refine qj hG (.cons (qS (pcSc hG A hA 64 n h1 (by omega) qs hl)) (.cons hB (.cons (vkGd hG hT) .nil))) mix enCt (hs:=[]) (pol:=polCt) (L:=[(9,qy (stCt A n qs V [qs 0] 0) (.exit 0) (stCt A n qs V ((cuI (MB B qs) n).map qs) ((n-1:Nat):Int)))])
  (lps1n (m:=0) (b:=bCt) (b':=iCt) (live:=[1,2,3,4,13,14]) (by kernel_rfl) (by kernel_rfl) (by kernel_rfl) (by kernel_rfl) (qv g)) ((eCt A n qs V B _ _ (by rw[List.length_map];omega) (by rw[List.length_map];omega)).trans ?_)
 unfold trCf
 rw[tkz_eq,k5 (decP_iff.2 ⟨rfl,trivial⟩),k5 (ixD_of (by omega) (by omega)),k5 (ixD_of (by omega) (by omega)),k5 (decP_iff.2 ⟨rfl,rfl,hl 0 h1,hl 0 h1,by omega,by omega⟩),k5 (ixD_of (by omega) (by omega)),k5 (decP_iff.2 (hg 0 h1)),k5 (by rw[kH];omega),k5 qK,k7]
def frWa (M:Nat->Nat->Bool):Nat->Bool
 | 0=>true
 | j+1=>frWa M j&&M (j-1) j
theorem frWa_iff {M:Nat->Nat->Bool}:∀ {k:Nat},frWa M k=true↔∀ j,j<k->M (j-1) j=true
 | 0=>⟨fun _ j hj=>absurd hj (Nat.not_lt_zero j),fun _=>rfl⟩
 | k+1=>by
  rw[frWa,kD,frWa_iff (k:=k)]
  exact⟨fun h j hj=>by rcases Nat.lt_or_ge j k with h'|h';exact h.1 j h';rw[show j=k by omega];exact h.2,fun h=>⟨fun j hj=>h j (by omega),h k (by omega)⟩⟩
def bFs (M:Nat->Nat->Bool):Nat->PV
 | 0=>.bl true
 | j+1=>match frWa M j with
  | true=>.b (M (j-1) j)
  | false=>.bl false
theorem bFs_le (M:Nat->Nat->Bool) (j:Nat):RLe (.tup [bFs M (j+1),.i .i64 0]) (bR (frWa M (j+1))):=by
 rw[bFs,frWa]
 cases frWa M j with
 | true=>exact .refl _
 | false=>exact rle_bR _
include hG in
theorem pcFe (hA:armB A=true) (hB:qc prog G 30 (vMo A V B)) (hl:∀ j,j<n->(qs j).length=A.n) (h1:1<=n) (hn:n<=60):
  PC prog G 35 [qm A,wyP 64 n qs,.w V,.i .i64 2] [] (bR (frWa (MB B qs) n)) []:=by
 have rn:∀ (b:PV) (i:Nat) {e:Exit} {st:LS},(evFe A n qs V B b i).run=some (.out e st)->Rnd prog G f35.ntmps 0 [1,2,3,4,8,9,11,27,28] bFe (stFe A n qs V b i) e st:=fun b i e st hr=>
  qb hG (.cons hB .nil) mix (L:=[]) (pol:=polFe) (kA (by kernel_rfl)) (Nat.zero_le _) hr
 have mx:∀ i:Nat,mxI i=((i-1:Nat):Int):=fun i=>by unfold mxI;split<;>omega
 have go:∀ (i:Nat) (c:Tr) (ex:LS),i<n->(trFe A n qs V i c ex).run=c.run:=fun i c ex hi=>by
  unfold trFe
  rw[mx,k5 (kF (by omega)),k5 (ovf_of (by omega) (by omega)),k5 (ixD_of (by omega) (by omega)),k5 (ixD_of (by omega) (by omega)),Int.toNat_natCast,Int.toNat_natCast,k5 (decP_iff.2 ⟨rfl,rfl,hl _ (by omega),hl _ hi,by omega,by omega⟩)]
 have nx:∀ (i:Nat) (v:PV),i<n->(nxFe A n qs V v i).run=some (.out .normal (stFe A n qs V v ((i+1:Nat):Int))):=fun i v hi=>by
  unfold nxFe
  rw[k5 (ovf_of (by omega) (by omega)),k7]
  rfl
 have st:∀ (i:Nat) (c:Tr) (ex:LS),n<=i->(trFe A n qs V i c ex).run=some (.out (.exit 0) ex):=fun i c ex hi=>by
  unfold trFe
  rw[k6 (kG (by omega)),k7]
 have g:=Goes.count (R:=Rnd prog G f35.ntmps 0 [1,2,3,4,8,9,11,27,28] bFe) (fun i=>stFe A n qs V (bFs (MB B qs) i) ((i:Nat):Int)) (e:=.exit 0) (ls':=stFe A n qs V (bFs (MB B qs) n) n) (by simp) n 0
  (fun i _ hi=>by
   rw[Nat.zero_add]at hi
   refine rn _ i ?_
   have e1:((mxI i).toNat)=i-1:=by rw[mx];exact Int.toNat_natCast _
   cases i with
   | zero=>exact(tFe1 A n qs V B _).trans ((go 0 _ _ hi).trans (nx 0 _ hi))
   | succ i=>
    have e2:bFs (MB B qs) (i+1+1)=match frWa (MB B qs) (i+1)with|true=>.b (MB B qs (i+1-1) (i+1))|false=>.bl false:=rfl
    have e3:frWa (MB B qs) (i+1)=(frWa (MB B qs) i&&MB B qs (i-1) i):=rfl
    have e4:bFs (MB B qs) (i+1)=match frWa (MB B qs) i with|true=>.b (MB B qs (i-1) i)|false=>.bl false:=rfl
    rw[e2,e4,e3]
    cases frWa (MB B qs) i with
    | false=>exact(tFe0 A n qs V B _).trans ((go _ _ _ hi).trans (nx _ _ hi))
    | true=>
     refine(tFeB A n qs V B _ _).trans ((go _ _ _ hi).trans ?_)
     rw[Int.toNat_natCast,e1]
     cases MB B qs (i-1) i with
     | false=>rw[k6 rfl];exact nx _ _ hi
     | true=>rw[k5 rfl];exact nx _ _ hi)
  (by
   rw[Nat.zero_add]
   refine rn _ n ?_
   cases n with
   | zero=>exact absurd h1 (Nat.not_succ_le_zero 0)
   | succ n=>
    show(evFe A (n+1) qs V B (match frWa (MB B qs) n with|true=>.b (MB B qs (n-1) n)|false=>.bl false) _).run=some (.out (.exit 0) (stFe A (n+1) qs V (match frWa (MB B qs) n with|true=>.b (MB B qs (n-1) n)|false=>.bl false) _))
    cases frWa (MB B qs) n with
    | false=>exact(tFe0 A _ qs V B _).trans (st _ _ _ (Nat.le_refl _))
    | true=>exact(tFeB A _ qs V B _ _).trans (st _ _ _ (Nat.le_refl _)))
 obtain⟨k,rfl⟩:∃ k,n=k+1:=⟨n-1,by omega⟩
 have ef:(evFf A (k+1) qs V (bFs (MB B qs) (k+1))).run=(trFf A (k+1) qs V (bFs (MB B qs) (k+1))).run:=by
  rw[bFs]
  cases frWa (MB B qs) k with
  | false=>exact eFe0 A _ qs V
  | true=>exact eFeB A _ qs V _
 refine(qj hG (.cons (qS (pc91 hG A hA)) .nil) mix enFe (hs:=[]) (pol:=polFe) (L:=[(10,qy (stFe A (k+1) qs V (.bl true) 0) (.exit 0) (stFe A (k+1) qs V (bFs (MB B qs) (k+1)) ((k+1:Nat):Int)))])
  (qN (b:=bFe) (live:=[1,2,3,4,8,9,11,27,28]) (m:=0) (by kernel_rfl) (by kernel_rfl) (by kernel_rfl) (qv g)) (ef.trans ?_)).le (bFs_le _ k) (.refl _)
 unfold trFf
 rw[k5 (decP_iff.2 ⟨rfl,trivial⟩),k6 (kG (by omega)),k6 (kG (by omega)),k5 qK,k7]
end
end
section
open Go Tryz
set_option maxRecDepth 100000
variable {G:World->(Nat->Prop)->Prop} (hG:GOk G)
theorem enSF:Enters prog 7 f7 (qd f7):=⟨func7,by kernel_rfl,rfl⟩
def b7:Code:=(qi (qd f7)).getD 0 .skip
def i7:Code:=(qi (qd f7)).getD 1 .skip
def pol7:Pol:={live:=[(10,[2,6,7,8,9,11,81,82,83]),(12,[2,6,7,8,9,11,13,81,82,83])]}
def vMsF (X:Nat->(Nat->PV)->Rat) (W:Nat->(Nat->PV)->Nat) (C:PV->Nat->(Nat->PV)->Prop):Spec:=fun args hs K=>match args,hs with
 | [a,.lst 1 (.fn k f)],[]=>.br (qg (C a k f)) (K (.tup [.q (X k f) (W k f),.i .i64 0]) []) (.no 1)
 | _,_=>.no 1
def vFeF (F:Nat->(Nat->PV)->Bool) (D:PV->Nat->(Nat->PV)->PV->Int->Prop):Spec:=fun args hs K=>match args,hs with
 | [a,.lst 1 (.fn k f),.w W,.i .i64 n],[]=>.br (qg (D a k f W n)) (K (bR (F k f)) []) (.no 1)
 | _,_=>.no 1
section
variable (l m o:PV) (A:Am) (n:Nat) (qs:Nat->List Rat) (V:PV) (N:Nat) (ys:Nat->List Rat) (F:Nat->(Nat->PV)->Bool) (D:PV->Nat->(Nat->PV)->PV->Int->Prop) (X:Nat->(Nat->PV)->Rat) (W:Nat->(Nat->PV)->Nat) (C:PV->Nat->(Nat->PV)->Prop)
def stF7 (j c:Int):LS:=⟨[.w o,.bl false,.ptr 0 12 0 0 [],wyP 64 n qs,wyP 64 N ys,.i .i64 j,wyP 64 N ys,.i .i64 N,.i .i64 c],[some ⟨12,.vals [qm A]⟩]⟩
def siF7 (j:Int) (q:List Rat) (c:Int):LS:=⟨[.w o,.bl false,.ptr 0 12 0 0 [],wyP 64 n qs,wyP 64 N ys,.i .i64 j,wyE 64 q,wyP 64 N ys,.i .i64 N,.i .i64 c],[some ⟨12,.vals [qm A]⟩]⟩
def eqC (p q:List Rat):Bool:=Nat.ble p.length q.length&&Nat.ble q.length p.length&&Nat.ble p.length 1000
def trI7 (j c:Int) (q:List Rat):Tr:=
 .br (decide (j<(n:Int))) (.br (ixD j n) (.br (eqC (qs j.toNat) q) (.br (decide (qs j.toNat=q)) (.ok (.out (.exit 2) (siF7 o A n qs N ys j q c))) (.br (ovf (j+1)) (.ok (.out .normal (siF7 o A n qs N ys (j+1) q c))) (.no 1))) (.no 1)) (.no 1)) (.ok (.out (.exit 2) (siF7 o A n qs N ys j q c)))
theorem tI7 (j c:Int) (q:List Rat):(qe prog [(20,c19)] [] pol7 f7.ntmps 0 [2,6,7,8,9,11,13,81,82,83] i7 (siF7 o A n qs N ys j q c)).run=(trI7 o A n qs N ys j c q).run:=by kernel_rfl
def trO7 (j c i:Int):Tr:=
 .br (decide (c<(N:Int))) (.br (ixD c N) (.br (qg (isLS (siF7 o A n qs N ys j (ys c.toNat) c) (siF7 o A n qs N ys j (ys c.toNat) c))) (.br (decide (i=(n:Int))) (.ok (.out .ret (stF7 o A n qs N ys i c))) (.br (ovf (c+1)) (.ok (.out .normal (stF7 o A n qs N ys i (c+1)))) (.no 1))) (.no 1)) (.no 1)) (.ok (.out (.exit 0) (stF7 o A n qs N ys j c)))
theorem tO7 (j c i:Int):(qe prog [] [(12,qy (siF7 o A n qs N ys j (ys c.toNat) c) (.exit 2) (siF7 o A n qs N ys i (ys c.toNat) c))] pol7 f7.ntmps 0 [2,6,7,8,9,11,81,82,83] b7 (stF7 o A n qs N ys j c)).run=(trO7 o A n qs N ys j c i).run:=by kernel_rfl
theorem tO7E (j c:Int):(qe prog [] [] pol7 f7.ntmps 0 [2,6,7,8,9,11,81,82,83] b7 (stF7 o A n qs N ys j c)).run=
  (Tr.br (decide (c<(N:Int))) (.br (ixD c N) (.no 1) (.no 1)) (.ok (.out (.exit 0) (stF7 o A n qs N ys j c)))).run:=by kernel_rfl
def OSF:Orc:=
 [(13,cst [.w l] True (armFr A)),(26,cst [] True (.bl true)),(32,cst [] True (.bl true)),(27,cst [.w o] True (.w V)),(33,cst [qm A,.w m] True (.fr 1 (.fn n (fun j=>wyE 64 (qs j))))),(34,cst [qm A,wyP 64 n qs,.w V,.i .i64 2] True (.tup [.fr 1 (.fn N (fun j=>wyE 64 (ys j))),.i .i64 0])),(20,c19),(23,g27),(35,vFeF F D),(17,vMsF X W C)]
def trF7:Tr:=
 .br (qg (isA [] True [])) (.br (qg (isA [] True [])) (.br (qg (isA [.w l] True [.w l])) (.br (Nat.ble (0+A.n) A.n) (.br (qg (isA [qm A,.w m] True [qm A,.w m])) (.br (Nat.ble (0+n) n) (.br (qg (isA [.w o] True [.w o])) (.br (qg (isA [qm A,wyP 64 n qs,.w V,.i .i64 2] True [qm A,wyP 64 n qs,.w V,.i .i64 2])) (.br (Nat.ble (0+N) N)
  (.br (decide ((N:Int)=0)) (.ok (.ret (.bl false) [])) (.br (decide ((n:Int)<N)) (.ok (.ret (.bl false) [])) (.br (ixD 0 N) (.br (ixD 0 n) (.br (eqC (ys 0) (qs 0)) (.br (decide (ys 0=qs 0)) (.br (ovf ((N:Int)-1)) (.br (ixD ((N:Int)-1) N) (.br (ovf ((n:Int)-1)) (.br (ixD ((n:Int)-1) n)
   (.br (eqC (ys ((N:Int)-1).toNat) (qs ((n:Int)-1).toNat)) (.br (decide (ys ((N:Int)-1).toNat=qs ((n:Int)-1).toNat)) (.br (qg (isLS (stF7 o A n qs N ys 0 0) (stF7 o A n qs N ys 0 0))) (.br (qg (isA [.w o] True [.w o])) (.br (qg (D (qm A) n (fun j=>wyE 64 (qs j)) V 2)) (.br (qg (isA [.w o] True [.w o])) (.br (qg (D (qm A) N (fun j=>wyE 64 (ys j)) V 2))
    (.br (qg (C (qm A) n (fun j=>wyE 64 (qs j)))) (.br (qg (C (qm A) N (fun j=>wyE 64 (ys j))))
     (.br (!F n (fun j=>wyE 64 (qs j))) (.br (Nat.ble (W N (fun j=>wyE 64 (ys j))+W n (fun j=>wyE 64 (qs j))) 800000) (.ok (.ret (.b (decide (rcmp (X N (fun j=>wyE 64 (ys j))) (X n (fun j=>wyE 64 (qs j)))<=0))) [])) (.no 1))
      (.br (F N (fun j=>wyE 64 (ys j))) (.br (Nat.ble (W N (fun j=>wyE 64 (ys j))+W n (fun j=>wyE 64 (qs j))) 800000) (.ok (.ret (.b (decide (rcmp (X N (fun j=>wyE 64 (ys j))) (X n (fun j=>wyE 64 (qs j)))<=0))) [])) (.no 1)) (.ok (.ret (.bl false) []))))
    (.no 1)) (.no 1)) (.no 1)) (.no 1)) (.no 1)) (.no 1)) (.no 1)) (.ok (.ret (.bl false) []))) (.no 1)) (.no 1)) (.no 1)) (.no 1)) (.no 1)) (.ok (.ret (.bl false) []))) (.no 1)) (.no 1)) (.no 1)))) (.no 1)) (.no 1)) (.no 1)) (.no 1)) (.no 1)) (.no 1)) (.no 1)) (.no 1)) (.no 1)
theorem eF7 (j:Int):(evF prog (OSF l m o A n qs V N ys F D X W C) [(10,qy (stF7 o A n qs N ys 0 0) (.exit 0) (stF7 o A n qs N ys j N))] pol7 f7 [.w l,.w m,.w o] [] ql).run=(trF7 l m o A n qs V N ys F D X W C).run:=by kernel_rfl
end
end
section
open Go Tryz
set_option maxRecDepth 100000
variable {G:World->(Nat->Prop)->Prop} (hG:GOk G)
theorem enMz:Enters prog 32 f32 (qd f32):=⟨func32,by kernel_rfl,rfl⟩
def mzQ:Nat->List Rat
 | 1=>[mkRat 1 1]
 | _=>[mkRat 0 1]
def OMz (S:Am) (wa:PV) (x:Rat) (W:Nat):Orc:=[(17,cst [qm S,wa] True (.tup [.q x W,.i .i64 0])),(64,cst [.lst 1 (.ints .i64 [3])] True (armFr S)),(65,s23)]
theorem eMz (S:Am) (wa:PV) (x:Rat) (W:Nat):(evF prog (OMz S wa x W) [] {} f32 [] [] ql).run=
  (Tr.br (qg (isA [.lst 1 (.ints .i64 [3])] True [.lst 1 (.ints .i64 [3])])) (.br (Nat.ble (0+S.n) S.n) (.br (qg (isA [qm S,wa] True [qm S,.lst 1 (.vals [wyE 64 [mkRat 0 1],wyE 64 [mkRat 1 1],wyE 64 [mkRat 0 1]])])) (.ok (.ret (.b (decide (x=mkRat 2 1))) [])) (.no 1)) (.no 1)) (.no 1)).run:=by kernel_rfl
include hG in
theorem pcMz (hT:qp G):PC prog G 32 [] [] (.bl true) []:=by
 have p:=pcMs hG hT (Asam [3]) armB_3 64 3 (by omega) (by omega) (by omega) mzQ (fun j hj=>by
  have:j=0\/j=1\/j=2:=by omega
  rcases this with rfl|rfl|rfl<;>rfl)
 have p':PC prog G 17 [qm (Asam [3]),.lst 1 (.vals [wyE 64 [mkRat 0 1],wyE 64 [mkRat 1 1],wyE 64 [mkRat 0 1]])] [] _ []:=PC.args (args':=[qm (Asam [3]),wyP 64 3 mzQ]) (.cons (.refl _) (.cons (VLe.lst (c:=.vals [wyE 64 [mkRat 0 1],wyE 64 [mkRat 1 1],wyE 64 [mkRat 0 1]]) (d:=.fn 3 (fun j=>wyE 64 (mzQ j))) rfl fun i hi=>by
  have hi':i<3:=hi
  have:i=0\/i=1\/i=2:=by omega
  rcases this with rfl|rfl|rfl<;>exact .refl _) .nil)) p
 have hv:msO mzQ (Asam [3]).n (3-1)=mkRat 2 1:=by kernel_rfl
 refine(qj (r:=.b true) hG (.cons (qS p') (.cons (qS (sam3 hG)) (.cons (ok23 hG) .nil))) mix enMz (hs:=[]) (L:=[]) (pol:={}) (kA (by kernel_rfl)) ((eMz (Asam [3]) _ _ _).trans ?_)).le (rle_b rfl) (.refl _)
 rw[k5 (decP_iff.2 ⟨rfl,trivial⟩),k5 (by rw[kH,Nat.zero_add];exact Nat.le_refl _),k5 (decP_iff.2 ⟨rfl,trivial⟩),k7,kF hv]
def wqD:PV->List Rat
 | .lst 3 (.rats _ q)=>q
 | _=>[]
def msX (k:Nat) (f:Nat->PV):Rat:=msO (fun j=>wqD (f j)) (wqD (f 0)).length (k-1)
def msY (k:Nat) (f:Nat->PV):Nat:=mW 64 ((k-1)*(wqD (f 0)).length)
def isWC (A:Am) (a:PV) (k:Nat) (f:Nat->PV):Prop:=∃ qs:Nat->List Rat,a=qm A/\f=(fun j=>wyE 64 (qs j))/\1<=k/\k<=9/\∀ j,j<k->(qs j).length=A.n
def isWD (A:Am) (V a:PV) (k:Nat) (f:Nat->PV) (W:PV) (n:Int):Prop:=isWC A a k f/\W=V/\n=2
def feX (B:List Rat->List Rat->Int->Bool) (k:Nat) (f:Nat->PV):Bool:=frWa (MB B (fun j=>wqD (f j))) k
include hG in
theorem vkMsF (hT:qp G) (A:Am) (hA:armB A=true):qc prog G 17 (vMsF msX msY (isWC A)):=by
 intro args hs K x h
 unfold vMsF at h
 split at h
 case h_2=>cases h
 rename_i a k f
 obtain⟨hc,hr⟩:=k8 h
 obtain⟨qs,rfl,rfl,h1,h9,hl⟩:=decP_iff.1 hc
 have p:=pcMs hG hT A hA 64 k (by omega) h1 h9 qs hl
 rw[<-hl 0 (by omega)]at p
 exact⟨_,_,p,hr⟩
include hG in
theorem vkFeF {A:Am} (hA:armB A=true) {V:PV} {B:List Rat->List Rat->Int->Bool} (hB:qc prog G 30 (vMo A V B)):qc prog G 35 (vFeF (feX B) (isWD A V)):=by
 intro args hs K x h
 unfold vFeF at h
 split at h
 case h_2=>cases h
 rename_i a k f W n
 obtain⟨hc,hr⟩:=k8 h
 obtain⟨⟨qs,rfl,rfl,h1,h9,hl⟩,rfl,rfl⟩:=decP_iff.1 hc
 exact⟨_,_,pcFe hG hA hB hl h1 (by omega),hr⟩
theorem wy_h (L:List (List Rat)):∀ (i:Nat) (v:PV),(L.map (wyE 64))[i]? = some v->noRef 8 v=true/\VLe v (wyE 64 (L.getD i [])):=fun i v hi=>by
 rw[List.getElem?_map]at hi
 cases hj:L[i]? with
 | none=>rw[hj]at hi;cases hi
 | some q=>
  rw[hj]at hi
  obtain rfl:=Option.some.inj hi
  refine⟨rfl,?_⟩
  rw[List.getD_eq_getElem?_getD,hj]
  exact .refl _
theorem getD_map' {α β:Type} (f:α->β) (a:α) (b:β):∀ (L:List α) (i:Nat),i<L.length->(L.map f).getD i b=f (L.getD i a)
 | [],i,h=>absurd h (Nat.not_lt_zero i)
 | x::l,0,_=>rfl
 | x::l,i+1,h=>getD_map' f a b l i (by simpa using h)
theorem wy_map (L:List Nat) (qs:Nat->List Rat) (i:Nat) (v:PV) (hi:((L.map qs).map (wyE 64))[i]? = some v):noRef 8 v=true/\VLe v (wyE 64 (qs (L.getD i 0))):=by
 have h:=wy_h _ i v hi
 have hl:i<L.length:=by
  have:=(List.getElem?_eq_some_iff.1 hi).1
  simpa using this
 rw[getD_map' qs 0 [] L i hl]at h
 exact h
include hG in
theorem pcWyF (A:Am) (hA:armB A=true) (hX:limX A=true) (m:PV) (hm:okW m=true):PC prog G 33 [qm A,.w m] [] (.fr 1 (.fn (wayN m) (fun j=>wyE 64 (wayQ A m j)))) []:=
 (pcWy hG A hA hX m hm).le (fr_fn 1 _ _ _ (by simp) fun i v hi=>by
  have h:=wy_h _ i v hi
  have hl:i<wayN m:=by
   have:=(List.getElem?_eq_some_iff.1 hi).1
   simpa using this
  rw[getD_map' (wayQ A m) 0 [] _ i (by simpa using hl),List.getD_eq_getElem?_getD,List.getElem?_range hl]at h
  exact h) (.refl _)
section
variable {o:PV} {A:Am} {n:Nat} {qs:Nat->List Rat} {N:Nat} {J:Nat->Nat}
theorem eqC_of {p q:List Rat} (h:p.length=q.length) (h1:q.length<=1000):eqC p q=true:=by simp only[eqC,kD,kH];omega
include hG in
theorem goI7 (hl:∀ j,j<n->(qs j).length=A.n) (hA:A.n<=1000) (hn:n<=9) (c:Nat) (hc:J c<n):∀ (d j:Nat),j+d=J c->∃ i,i<=J c/\Goes (Rnd prog G f7.ntmps 0 [2,6,7,8,9,11,13,81,82,83] i7) (siF7 o A n qs N (fun j=>qs (J j)) j (qs (J c)) c) (.exit 2) (siF7 o A n qs N (fun j=>qs (J j)) (i:Nat) (qs (J c)) c):=fun d=>by
 have rn:∀ (j:Nat) {e:Exit} {st:LS},(trI7 o A n qs N (fun j=>qs (J j)) j c (qs (J c))).run=some (.out e st)->Rnd prog G f7.ntmps 0 [2,6,7,8,9,11,13,81,82,83] i7 (siF7 o A n qs N (fun j=>qs (J j)) j (qs (J c)) c) e st:=fun j e st hr=>
  qb hG (.cons (ck19 hG) .nil) mix (L:=[]) (pol:=pol7) (kA (by kernel_rfl)) (Nat.zero_le _) ((tI7 o A n qs N (fun j=>qs (J j)) j c (qs (J c))).trans hr)
 have hit:∀ j:Nat,j<n->qs j=qs (J c)->Goes (Rnd prog G f7.ntmps 0 [2,6,7,8,9,11,13,81,82,83] i7) (siF7 o A n qs N (fun j=>qs (J j)) j (qs (J c)) c) (.exit 2) (siF7 o A n qs N (fun j=>qs (J j)) (j:Nat) (qs (J c)) c):=fun j hj e=>by
  refine .last _ _ _ (rn j ?_) (by simp)
  unfold trI7
  rw[k5 (kF (by omega)),k5 (ixD_of (by omega) (by omega)),Int.toNat_natCast,k5 (eqC_of (by rw[e]) (by rw[hl _ hc];exact hA)),k5 (kF e),k7]
 induction d with
 | zero=>exact fun j hj=>⟨j,by omega,hit j (by omega) (by rw[<-hj,Nat.add_zero])⟩
 | succ d ih=>
  intro j hj
  by_cases e:qs j=qs (J c)
  ·exact⟨j,by omega,hit j (by omega) e⟩
  ·obtain⟨i,hi,g⟩:=ih (j+1) (by omega)
   refine⟨i,hi,.more _ _ _ _ (rn j ?_) g⟩
   unfold trI7
   rw[k5 (kF (by omega)),k5 (ixD_of (by omega) (by omega)),Int.toNat_natCast,k5 (eqC_of (by rw[hl _ (by omega),hl _ hc]) (by rw[hl _ hc];exact hA)),k6 (kG e),k5 (ovf_of (by omega) (by omega)),k7]
   rfl
include hG in
theorem goO7 (hl:∀ j,j<n->(qs j).length=A.n) (hA:A.n<=1000) (hn:n<=9) (hN:N<=n) (hJ:∀ c,c<N->J c<n) (hm:∀ c,c+1<N->J c<=J (c+1)):∀ (d c j:Nat),c+d=N->(c<N->j<=J c)->
  ∃ i:Nat,Goes (Rnd prog G f7.ntmps 0 [2,6,7,8,9,11,81,82,83] b7) (stF7 o A n qs N (fun j=>qs (J j)) j c) (.exit 0) (stF7 o A n qs N (fun j=>qs (J j)) (i:Nat) (N:Nat))
 | 0,c,j,h,_=>by
  obtain rfl:c=N:=by omega
  refine⟨j,.last _ _ _ (qb hG .nil mix (L:=[]) (pol:=pol7) (lps0 (b:=i7) (by kernel_rfl) (by kernel_rfl)) (Nat.zero_le _) ((tO7E o A n qs c (fun j=>qs (J j)) j c).trans ?_)) (by simp)⟩
  rw[k6 (kG (by omega)),k7]
 | d+1,c,j,h,hj=>by
  have hj:=hj (by omega)
  have hc:=hJ c (by omega)
  obtain⟨i,hi,g⟩:=goI7 hG (o:=o) (N:=N) hl hA hn c hc (J c-j) j (by omega)
  obtain⟨i',g'⟩:=goO7 hl hA hn hN hJ hm d (c+1) i (by omega) (fun h'=>Nat.le_trans hi (hm c h'))
  refine⟨i',.more _ _ _ _ (qb hG .nil mix (L:=[(12,qy (siF7 o A n qs N (fun j=>qs (J j)) j (qs (J c)) c) (.exit 2) (siF7 o A n qs N (fun j=>qs (J j)) i (qs (J c)) c))]) (pol:=pol7)
   (qN (b:=i7) (live:=[2,6,7,8,9,11,13,81,82,83]) (by kernel_rfl) (by kernel_rfl) (by kernel_rfl) (qv g)) (Nat.zero_le _) ((tO7 o A n qs N (fun j=>qs (J j)) j c i).trans ?_)) g'⟩
  unfold trO7
  rw[k5 (kF (by omega)),k5 (ixD_of (by omega) (by omega)),k5 qK,k6 (kG (by omega)),k5 (ovf_of (by omega) (by omega)),k7]
  rfl
end
include hG in
theorem lawSF (hT:qp G) (l m o:PV) (hl:okW l=true) (hm:okW m=true) (ho:okW o=true):PC prog G 7 [.w l,.w m,.w o] [] (.bl true) []:=by
 have hA:=armB_V l
 have hX:=limX_V l
 have hS:=shp_V l
 have p13:=pArm hG l hl
 have hB:=vkMo hG hT (armD l) hA hS (wsV_is o)
 have p27:=pcWs hG hT o ho
 have p33:=pcWyF hG (armD l) hA hX m hm
 obtain⟨r0,r1⟩:=qw m (show(0:Int)<5 by omega)
 have hn1:1<=wayN m/\wayN m<=5:=by unfold wayN;omega
 have hq:∀ j,(wayQ (armD l) m j).length=(armD l).n:=fun j=>cfL_len _ _ _
 have a3:1<=(armD l).n/\(armD l).n<=3:=by obtain⟨_,_,_,_,h1,h3,_⟩:=armB_c hA;exact⟨h1,h3⟩
 have hg:∀ j,gdP (wayQ (armD l) m j):=fun j=>⟨by rw[hq];exact a3.1,by rw[hq];omega,fun i hi=>bd_sz (cf_BdL hX _ i hi)⟩
 generalize armD l=A at*
 generalize wsV o=V at*
 generalize wayN m=n at*
 generalize wayQ A m=qs at*
 generalize hBB:(fun(p q:List Rat) (n:Int)=>motB A p q n.toNat (wsN o) (wsM o))=B at*
 have p34:=pcCt hG (V:=V) (B:=B) (qs:=qs) hT hA hB (fun j _=>hq j) (fun j _=>hg j) hn1.1 hn1.2
 obtain⟨l1,l2⟩:=cuI_len (MB B qs) hn1.1
 have p34':=p34.le (frs_le0 1 (cuI (MB B qs) n).length (fun j=>wyE 64 (qs (cuJ (MB B qs) n j))) _ (by simp) (wy_map _ qs)) (.refl _)
 have hJ:=cuJ_lt (MB B qs) hn1.1
 have hst:=fun j hj=>cuJ_step (MB B qs) hn1.1 (j:=j) hj
 have hlast:=cuJ_last (MB B qs) hn1.1
 have free:frWa (MB B qs) n=true->frWa (MB B (fun j=>qs (cuJ (MB B qs) n j))) (cuI (MB B qs) n).length=true:=fun h=>frWa_iff.2 fun j hj=>cut_free hn1.1 (frWa_iff.1 h) j hj
 have short:=cut_short (M:=MB B qs) hn1.1 qs A.n ((cuI (MB B qs) n).length-1) (by omega)
 rw[show cuJ (MB B qs) n ((cuI (MB B qs) n).length-1)=n-1 by omega]at short
 have h0:cuJ (MB B qs) n 0=0:=rfl
 generalize cuI (MB B qs) n=I at*
 generalize cuJ (MB B qs) n=J at*
 obtain⟨i,g⟩:=goO7 hG (o:=o) (A:=A) (qs:=qs) (N:=I.length) (J:=J) (fun j _=>hq j) (by omega) (by omega) l2 hJ (fun c hc=>by have:=(hst c hc).1;omega) I.length 0 0 (by omega) (fun _=>Nat.zero_le _)
 have c1:isWC A (qm A) n (fun j=>wyE 64 (qs j)):=⟨qs,rfl,rfl,hn1.1,by omega,fun j _=>hq j⟩
 have c2:isWC A (qm A) I.length (fun j=>wyE 64 (qs (J j))):=⟨fun j=>qs (J j),rfl,rfl,l1,by omega,fun j _=>hq _⟩
 have w1:∀ k,k<=9->mW 64 ((k-1)*A.n)<=70000:=fun k hk=>mW_le (by omega) (Nat.le_trans (Nat.mul_le_mul (show k-1<=8 by omega) a3.2) (by omega))
 have oc:OrcOK prog G (OSF l m o A n qs V I.length (fun j=>qs (J j)) (feX B) (isWD A V) msX msY (isWC A)):=
  .cons (qS p13) (.cons (qS (pcCl hG hT)) (.cons (qS (pcMz hG hT)) (.cons (qS p27) (.cons (qS p33) (.cons (qS p34') (.cons (ck19 hG) (.cons (gk27 hG hT) (.cons (vkFeF hG hA hB) (.cons (vkMsF hG hT A hA) .nil)))))))))
 have key:∃ r,(trF7 l m o A n qs V I.length (fun j=>qs (J j)) (feX B) (isWD A V) msX msY (isWC A)).run=some (.ret r [])/\RLe r (.bl true):=by
  have bl:∀ n:Nat,Nat.ble (0+n) n=true:=fun n=>by rw[kH];omega
  have tt:∀ {L:List PV},qg (isA L True L)=true:=decP_iff.2 ⟨rfl,trivial⟩
  have n1:((n:Int)-1).toNat=n-1:=by omega
  have n2:((I.length:Int)-1).toNat=I.length-1:=by omega
  have jl:J (I.length-1)=n-1:=by omega
  have cm:(Tr.br (Nat.ble (msY I.length (fun j=>wyE 64 (qs (J j)))+msY n (fun j=>wyE 64 (qs j))) 800000) (.ok (.ret (.b (decide (rcmp (msX I.length (fun j=>wyE 64 (qs (J j)))) (msX n (fun j=>wyE 64 (qs j)))<=0))) [])) (.no 1)).run=some (.ret (.b true) []):=by
   have e1:msY I.length (fun j=>wyE 64 (qs (J j)))=mW 64 ((I.length-1)*A.n):=by show mW 64 ((I.length-1)*(qs (J 0)).length)=_;rw[hq]
   have e2:msY n (fun j=>wyE 64 (qs j))=mW 64 ((n-1)*A.n):=by show mW 64 ((n-1)*(qs 0).length)=_;rw[hq]
   have e3:msX I.length (fun j=>wyE 64 (qs (J j)))=msO (fun j=>qs (J j)) A.n (I.length-1):=by show msO _ (qs (J 0)).length _=_;rw[hq];rfl
   have e4:msX n (fun j=>wyE 64 (qs j))=msO qs A.n (n-1):=by show msO _ (qs 0).length _=_;rw[hq];rfl
   have b1:=w1 I.length (by omega)
   have b2:=w1 n (by omega)
   rw[e1,e2,e3,e4,k5 (by rw[kH];omega),k7,kF (rcmp_le.2 short)]
  refine⟨.b true,?_,rle_b rfl⟩
  unfold trF7
  dsimp only
  rw[k5 tt,k5 tt,k5 tt,k5 (bl _),k5 tt,k5 (bl _),k5 tt,k5 tt,k5 (bl _),k6 (kG (by omega)),k6 (kG (by omega)),k5 (ixD_of (by omega) (by omega)),k5 (ixD_of (by omega) (by omega)),
   k5 (eqC_of (by rw[hq,hq]) (by rw[hq];omega)),k5 (kF (by rw[h0])),k5 (ovf_of (by omega) (by omega)),k5 (ixD_of (by omega) (by omega)),k5 (ovf_of (by omega) (by omega)),k5 (ixD_of (by omega) (by omega)),
   k5 (eqC_of (by rw[hq,hq]) (by rw[hq];omega)),k5 (kF (by rw[n2,jl,n1])),k5 qK,k5 tt,k5 (decP_iff.2 ⟨c1,rfl,rfl⟩),k5 tt,k5 (decP_iff.2 ⟨c2,rfl,rfl⟩),k5 (decP_iff.2 c1),k5 (decP_iff.2 c2)]
  have f1:feX B n (fun j=>wyE 64 (qs j))=frWa (MB B qs) n:=rfl
  have f2:feX B I.length (fun j=>wyE 64 (qs (J j)))=frWa (MB B (fun j=>qs (J j))) I.length:=rfl
  rw[f1,f2]
  cases hf:frWa (MB B qs) n with
  | false=>exact(k5 (b:=!false) rfl).trans cm
  | true=>exact(k6 (b:=!true) rfl).trans ((k5 (free hf)).trans cm)
 obtain⟨r,h1,h2⟩:=key
 exact(qj hG oc mix enSF (hs:=[]) (pol:=pol7) (L:=[(10,qy (stF7 o A n qs I.length (fun j=>qs (J j)) 0 0) (.exit 0) (stF7 o A n qs I.length (fun j=>qs (J j)) (i:Nat) (I.length:Nat)))])
  (lps1n (m:=0) (b:=b7) (b':=i7) (live:=[2,6,7,8,9,11,81,82,83]) (by kernel_rfl) (by kernel_rfl) (by kernel_rfl) (by kernel_rfl) (qv g)) ((eF7 l m o A n qs V I.length (fun j=>qs (J j)) (feX B) (isWD A V) msX msY (isWC A) (i:Nat)).trans h1)).le h2 (.refl _)
end
section
open Go
theorem calls_of_does {P:Program} {g:Nat} {fn:Func} {c:Code} (hg:Enters P g fn c) {vs:Array Value} {w:World} {R:Value->World->Prop} (h:Does P g vs w R):Calls P g vs w fun e w'=>∃ v,e=.returned v/\R v w':=by
 have h1:=h {dst:=some 0,op:=.move (.const undef),type:=0,pos:="",after := #[],guard:=none} ⟨#[undef],[]⟩ (fun a w'=>∃ v,a.tmps[0]? = some v/\R v w') (fun _ _ _=>False) (fun v w' hv=>⟨v,by simp[Act.put],hv⟩)
 have:(callFunc g vs).run P w=.ok (.enter g vs) w:=by
  have hname:fn.name≠"runtime.NumGoroutine":=by simpa using hg.name
  simp[callFunc,hg.at_,hname,hg.body]
 rw[this,Oper.upon_enter]at h1
 refine h1.mono fun e w' he => ?_
 cases e with
 | returned v=>
  obtain⟨v',hv,hr⟩:=he
  simp[Act.put]at hv
  subst hv
  exact⟨v,rfl,hr⟩
 | panicked chain=>exact absurd he (by simp)
 | outgrown=>exact absurd he (by simp[LetsOut])
theorem HRel.none (w:World):HRel w (fun _=>False) qR (hget (([]:List Blk).map some)):=
 ⟨fun b k h=>by simp[hget]at h,fun b k a z h=>by simp[hget]at h,fun b b' k k' a z z' h=>by simp[hget]at h,fun a h=>h.elim⟩
theorem keptBut_of_old {w w':World} (h1:w'.os=w.os) (h2:w'.output=w.output) (h3:∀ n,n<w.heap.size->w'.heap[n]? = w.heap[n]?) (may:MemPlace->Prop):w.keptBut w' may:=by
 refine⟨h1,h2,fun i hi => ?_⟩
 rw[h3 i hi]
 split
 ·rename_i e1 e2
  rw[e1]at e2
  cases e2
  exact⟨rfl,rfl,rfl,fun _ _=>rfl⟩
 ·rename_i e1 e2
  rw[e1]at e2
  cases e2
  exact .inr ⟨rfl,rfl⟩
 ·rfl
end
section
open Go Go.ChangeShapes Go.WideShapes
set_option maxRecDepth 100000
def blkOf:Value->Nat->Prop
 | .slice (some a) _ _,b=>b=a.block
 | _,_=>False
section
variable {H:Type} {enc:TypeId × Value->H} {P:Program} {w:World} {t e:TypeId} {base:Nat} {v:Value} {d:DataW H} {p:List MemPlace}
theorem arg_ints (ht:P.underlying t=some (.slice e)) (he:P.underlying e=some (.int .i64)) (hc:P.cellsOf e=1)
  (hval:Value.okWide P w .any base t v) (h:DataW.Trod enc P w 0 (fun _=>true) true t v d p):
  ∃ u:PV,okW u=true/\(∀ n∈intsW u,-9223372036854775808<=n/\n<=9223372036854775807)/\(∀ b,blkOf v b->b<w.heap.size)/\(∀ S:Nat->Prop,(∀ b,blkOf v b->S b)->RepV w S qR (.w u) v)/\
   (∀ w':World,(∀ n,n<w.heap.size->w'.heap[n]? = w.heap[n]?)->∃ p',DataW.Trod enc P w' 0 (fun b=>decide (b<w.heap.size)) true t v d p')/\
   ((intsW u=[]/\d=.nil)\/∃ sp,d=.slice (lits .i64 (intsW u)) sp):=by
 have hval':=hval
 obtain⟨a0,len,cap,rfl⟩:=okWide_slice ht hval
 obtain⟨fuel,hf⟩:=h
 rcases open_ints ht he hc hf with ⟨hcs,hx⟩|⟨a,len',cap',zs,hcs,_,hl,hm,hz,hx,hcell,hwz⟩
 ·simp[Value.cells]at hcs
  obtain⟨rfl,rfl,rfl⟩:=hcs
  simp only[Prod.mk.injEq]at hx
  obtain⟨rfl,rfl⟩:=hx
  refine⟨.nil,rfl,fun n hn=>(nomatch hn),fun b hb=>hb.elim,fun S _=>.cell _ _ _ rfl (.w _ _ _ (.nil _)),fun w' _=>⟨[],RowKit.shut_slice_nil ht⟩,.inl ⟨rfl,rfl⟩⟩
 ·simp[Value.cells]at hcs
  obtain⟨rfl,rfl,rfl⟩:=hcs
  simp only[Prod.mk.injEq]at hx
  obtain⟨rfl,rfl⟩:=hx
  simp only[if_true]at hz
  unfold Value.okWide at hval'
  rw[ht]at hval'
  simp only[Cell.okWide,Cell.ok,ht]at hval'
  obtain⟨_,_,_,hsp,row,cells,hsh,_⟩:=hval'
  obtain⟨b,off,spot⟩:=a
  simp only at hsp
  subst hsp
  have hb:b<w.heap.size:=by
   unfold World.shape? at hsh
   split at hsh
   ·rename_i hh;exact(Array.getElem?_eq_some_iff.1 hh).1
   ·cases hsh
  have hcell':∀ j,j<zs.length->w.cell? ⟨b,off+j,none⟩=some (.int .i64 (zs.getD j 0)):=fun j hj=>by rw[<-add_plain];exact hcell j hj
  have hlen:(zs.take len).length=len:=by rw[List.length_take];omega
  refine⟨.lst 1 (.ints .i64 (zs.take len)),rfl,fun n hn=>bounds_i64 (hwz n (List.mem_of_mem_take hn)),fun c hc=>(by rw[show c=b from hc];exact hb),fun S hS => ?_,fun w' hw' => ?_,.inr ⟨_,rfl⟩⟩
  ·refine .cell _ _ _ rfl (.w _ _ _ ?_)
   have:=RepC.lst (w:=w) (S:=S) qR 1 (.ints .i64 (zs.take len)) b off cap (fun j=>[.int .i64 ((zs.take len).getD j 0)]) (by show(zs.take len).length<=cap;omega) (hS b rfl)
    (fun i hi=>.i _ _ _) (fun _ _=>rfl) (fun i j hi hj=>by
     have hi':i<len:=by rw[<-hlen];exact hi
     obtain rfl:j=0:=by omega
     show w.cell? ⟨b,off+(i*1+0),none⟩=_
     rw[Nat.mul_one,Nat.add_zero,hcell' i (by omega)]
     simp[List.getD_eq_getElem?_getD,hi'])
   rw[show(Cont.ints .i64 (zs.take len)).len=len from hlen]at this
   exact this
  ·have hd:decide (b<w.heap.size)=true:=kF hb
   exact⟨_,2,shut_ints' (enc:=enc) (w:=w') (base:=0) (spare:=fun b=>decide (b<w.heap.size)) (held:=true) (len:=len) (cap:=cap) (zs:=zs) 0 ht he hc
    (Nat.zero_le b) hl hm (by simp only[hd,if_true];exact hz) (fun i hi=>by rw[cell_block (hw' b hb)];exact hcell' i hi) hwz⟩
end
end
section
open Go
set_option maxRecDepth 100000
theorem calls_trueG {P:Program} {G:World->(Nat->Prop)->Prop} {g:Nat} {fn:Func} {c:Code} (hg:Enters P g fn c) {args:List PV} (h:PC P G g args [] (.bl true) []) {w:World} {S:Nat->Prop} {vs:List Value} (hw:G w S) (hS:∀ a,S a->a<w.heap.size)
  (hv:RepVL w S qR args vs) (may:MemPlace->Prop):
  Calls P g vs.toArray w fun e w'=>e=.returned (.bool true)/\w.keptBut w' may/\∀ n,n<w.heap.size->w'.heap[n]? = w.heap[n]? := by
 refine(calls_of_does hg (h w S qR vs hw hv ⟨fun b k h=>by simp[hget]at h,fun b k a z h=>by simp[hget]at h,fun b b' k k' a z z' h=>by simp[hget]at h,hS⟩ (fun _ _=>rfl))).mono fun e w' he => ?_
 obtain⟨v,rfl,S',μ',c⟩:=he
 have hr:=c.rep
 have:v=.bool true:=by
  cases hr with
  | cell _ _ _ _ h=>cases h;rfl
  | agg _ _ _ hv h=>simp[isAgg,unfr,unfrA,unfr1]at hv
 subst this
 have old:∀ n,n<w.heap.size->w'.heap[n]? = w.heap[n]? := fun n hn=>c.old n hn (fun b z hb=>by simp at hb)
 exact⟨rfl,keptBut_of_old c.os c.output old may,old⟩
def TG (w:World) (S:Nat->Prop):Prop:=S 1/\Go.Proofs.TabAt 1 Go.Lib.deBruijn64tab w
theorem tg_ok:GOk TG:=fun _ _ _ _ m h=>⟨m.sub 1 h.1,fun j hj=>(m.cell 1 h.1 j).trans (h.2 j hj)⟩
theorem tg_tab:qp TG:=fun _ _ h=>h.2
theorem tab_block {w:World} (h:Go.Proofs.TabAt 1 Go.Lib.deBruijn64tab w):1<w.heap.size:=by
 have h0:=h 0 (by decide)
 rcases Nat.lt_or_ge 1 w.heap.size with h1|h1
 ·exact h1
 ·unfold World.cell? at h0
  rw[show w.heap[(⟨1,0,none⟩:Addr).block]? = none from Array.getElem?_eq_none h1]at h0
  cases h0
theorem tab_of_laid {laid:List (String × DataW Unit)} {W:World} (hl:laid=[("math/bits.deBruijn64tab",Go.Lib.tabData .u8 (Go.Lib.deBruijn64tab.map fun n:Nat=>(n:Int)))]) (h:laidMetH Tryz.prog laid W):Go.Proofs.TabAt 1 Go.Lib.deBruijn64tab W:=by
 subst hl
 have h1:laidMet Tryz.prog [("math/bits.deBruijn64tab",Go.Lib.tabData .u8 (Go.Lib.deBruijn64tab.map fun n:Nat=>(n:Int)))] W:=h
 have h2:=Go.Lib.tabIs_of_head (g:=1) (t:=269) (e:=5) (n:=64) (by kernel_rfl) (by kernel_rfl) (by kernel_rfl) (by kernel_rfl) (by kernel_rfl) (by kernel_rfl) h1
 intro j hj
 have h3:=h2.cell (g:=1) (by kernel_rfl) j (by rw[List.length_map];exact hj)
 rw[h3,List.getD_eq_getElem?_getD,List.getD_eq_getElem?_getD,List.getElem?_map,List.getElem?_eq_getElem hj]
 rfl
end
end Go.Proofs.YteggojnjinealaaGreatDoor.PE
