/-
  Part 4 of the proof: contracts of the program's functions. Conditions: those of the theorems below.
-/
import Derived.Test.YteggojnjinealaaGreatDoorSf3
import Derived.Test.YteggojnjinealaaGreatDoorSf2
set_option linter.all false
noncomputable section
namespace Go.Proofs.YteggojnjinealaaGreatDoor.PE
section
open Go Tryz
set_option maxRecDepth 100000
variable {G:World->(Nat->Prop)->Prop} (hG:GOk G)
theorem spec_ofQ {P:Program} {G:World->(Nat->Prop)->Prop} (hG:GOk G) {O:Orc} (hO:OrcOK P G O) (hmix:P.follows .mixedOrders=true) {g:Nat} {fn:Func} {c:Code} (hg:Enters P g fn c) {L:Lps} {pol:Pol} {sp:Spec}
  (H:∀ args hs K x,(sp args hs K).run=some x->∃ Q:Prop,(∀ w S μ vs,RepVL w S μ args vs->Q)/\LpsOK P G pol fn.ntmps hs.length L c/\∃ r' hs',(K r' hs').run=some x/\(Q->∃ r,(evF P O L pol fn args hs ql).run=some (.ret r hs')/\RLe r r')):qc P G g sp:=by
 intro args hs K x h
 obtain⟨Q,hQ,hl,r',hs',h3,h4⟩:=H args hs K x h
 refine⟨r',hs',fun w S μ vs hgw hr => ?_,h3⟩
 obtain⟨r,h1,h2⟩:=h4 (hQ w S μ vs hr)
 exact(qj hG hO hmix hg hl h1).le h2 (.refl _) w S μ vs hgw hr
theorem q_szV {w:World} {S:Nat->Prop} {μ:Mu} {x:Rat} {n:Nat} {v:Value} (h:RepV w S μ (.q x n) v):sz x<=n:=by
 cases h with
 | cell _ _ _ hv _=>cases hv
 | agg _ _ cs _ h=>cases h;assumption
theorem q1_sz {x:Rat} {n:Nat} (w:World) (S:Nat->Prop) (μ:Mu) (vs:List Value) (h:RepVL w S μ [.q x n] vs):sz x<=n:=by
 cases h with
 | cons _ _ _ _ _ h _=>exact q_szV h
theorem q2_sz {x y:Rat} {n m:Nat} (w:World) (S:Nat->Prop) (μ:Mu) (vs:List Value) (h:RepVL w S μ [.q x n,.q y m] vs):sz x<=n/\sz y<=m:=by
 cases h with
 | cons _ _ _ _ _ h h'=>
  cases h' with
  | cons _ _ _ _ _ h2 _=>exact⟨q_szV h,q_szV h2⟩
theorem sz_lt {x:Rat} {n:Nat} (h:sz x<=n):x.num.natAbs<2^n/\x.den<2^n/\1<=n:=by
 unfold sz at h
 refine⟨?_,?_,by omega⟩
 ·by_cases h0:x.num.natAbs=0
  ·rw[h0];exact Nat.pow_pos (by omega)
  ·exact(Nat.log2_lt h0).1 (by omega)
 ·exact(Nat.log2_lt x.den_nz).1 (by omega)
theorem nb_bits {k n:Nat} (h:k<2^n):(nb k).size<=(n+7)/8:=by
 refine nb_size_le (Nat.lt_of_lt_of_le h ?_)
 have:256^((n+7)/8)=2^(8*((n+7)/8)):=by rw[Nat.pow_mul]
 rw[this]
 exact Nat.pow_le_pow_right (by omega) (by omega)
theorem hz_bits {k n:Nat} (h:k<2^n) (hn:n<=800000):hz (nb k)=true:=hz_iff.2 (by have:=nb_bits h;omega)
theorem qF {k n:Nat} (h:k<2^n) (hn:n<=800000):bz (nb k)=true:=bz_iff.2 (by have:=nb_bits h;omega)
def muB (a b:ByteArray):ByteArray:=hide (nb (bv a.data.toList*bv b.data.toList))
def adB (a b:ByteArray):ByteArray:=hide (nb (bv a.data.toList+bv b.data.toList))
def suB (a b:ByteArray):ByteArray:=hide (nb (bv a.data.toList-bv b.data.toList))
def leB (a b:ByteArray):Bool:=hide (decide (bv a.data.toList<=bv b.data.toList))
def h77:Spec:=fun args hs K=>match args,hs with
 | [.s a,.s b],[]=>.br (bz a&&bz b) (K (.s (muB a b)) []) (.no 1)
 | _,_=>.no 1
def h108:Spec:=fun args hs K=>match args,hs with
 | [.s a,.s b],[]=>.br (bz a&&bz b) (K (.s (adB a b)) []) (.no 1)
 | _,_=>.no 1
def h111:Spec:=fun args hs K=>match args,hs with
 | [.s a,.s b],[]=>.br (bz a&&bz b) (.br (leB b a) (K (.tup [.s (suB a b),.i .i64 0]) []) (K (.tup [.s ⟨#[]⟩,.i .i64 1]) [])) (.no 1)
 | _,_=>.no 1
include hG in
theorem hk77:qc prog G 60 h77:=by
 intro args hs K x h
 unfold h77 at h
 split at h
 case h_2=>cases h
 rw[muB,qh]at h
 exact gk77 hG _ _ K x h
include hG in
theorem hk108:qc prog G 101 h108:=by
 intro args hs K x h
 unfold h108 at h
 split at h
 case h_2=>cases h
 rw[adB,qh]at h
 exact gk108 hG _ _ K x h
include hG in
theorem hk111:qc prog G 112 h111:=by
 intro args hs K x h
 unfold h111 at h
 split at h
 case h_2=>cases h
 obtain⟨hc,hr⟩:=k8 h
 rw[suB,leB,qh,qh]at hr
 simp only[kD,bz_iff]at hc
 refine ok111 hG _ _ K x ?_
 show(Tr.br _ (Tr.br _ _ (K (.tup [.s (nb 0),.i .i64 1]) [])) _).run=_
 rw[k5 (by simp only[kD,kE];omega),nb_zero]
 exact hr
abbrev zk1092 (x:Rat):Tr:=Tr.br (decide (qu x=ByteArray.mk #[(1:UInt8)])) (.ok (.ret (.bl true) [])) (.br (hz (qt x)&&hz (qu x)) (.ok (.ret (.b (decide (gdB (qt x) (qu x)=ByteArray.mk #[(1:UInt8)]))) [])) (.no 1))
abbrev zk1091 (x:Rat):Tr:=Tr.br (!decide (qt x=ByteArray.mk #[])) (.br (ix ((0:Int)) ((↑(qt x).size:Int))) (.br (decide ((↑((qa x.num.natAbs x.num.natAbs []).toArray.toList.getD (Int.toNat 0) (0:UInt8)).toNat:Int)=(0:Int))) (.ok (.ret (.bl false) [])) (zk1092 x)) (.no 2004)) (zk1092 x)
theorem k109 (x:Rat) (n:Nat):evF prog [(113,h112)] [] {} f104 [.q x n] [] ql=
 Tr.br (decide (qu x=ByteArray.mk #[])) (.ok (.ret (.bl false) [])) (.br (ix ((0:Int)) ((↑(qu x).size:Int))) (.br (decide ((↑((qa x.den x.den []).toArray.toList.getD (Int.toNat 0) (0:UInt8)).toNat:Int)=0)) (.ok (.ret (.bl false) [])) (.br (decide (qt x=ByteArray.mk #[])) (.br (qo x) (.ok (.ret (.bl false) [])) (.br (!decide (qu x=ByteArray.mk #[(1:UInt8)])) (.ok (.ret (.bl false) [])) (zk1091 x))) (zk1091 x))) (.no 2028)):=by kernel_rfl
def g109:Spec:=fun args hs K=>match args,hs with
 | [.q _ n],[]=>.br (Nat.ble n 800000) (K (.bl true) []) (.no 1)
 | _,_=>.no 1
def g74:Spec:=fun args hs K=>match args,hs with
 | [.q x n],[]=>.br (Nat.ble n 800000) (K (.q x n) []) (.no 1)
 | _,_=>.no 1
theorem k74 (x:Rat) (n:Nat):evF prog [(104,g109),(105,s110)] [] {} f58 [.q x n] [] ql=
 Tr.br (n.ble 800000) (.ok (.ret (.q x n) [])) (.no 1):=by kernel_rfl
def M76 (a d:ByteArray) (W:Nat):Prop:=a=nb (bv a.data.toList)/\d=nb (bv d.data.toList)/\0<bv d.data.toList/\bv a.data.toList<2^W/\bv d.data.toList<2^W/\0<W/\W<=800000
def mkq (neg:Bool) (a d:ByteArray):Rat:=hide (mkz neg (bv a.data.toList) (bv d.data.toList))
def g76 (W:Nat):Spec:=fun args hs K=>match args,hs with
 | [nv,.s a,.s d],[]=>match bof nv with
  | some neg=>.br (qg (M76 a d W)) (K (.q (mkq neg a d) W) []) (.no 1)
  | none=>.no 1
 | _,_=>.no 1
def O76:Orc:=[(105,s110),(113,h112),(114,h113)]
theorem k76 (neg:Bool) (a d:ByteArray):evF prog O76 [] {} f62 [.b neg,.s a,.s d] [] ql=
 Tr.br (decide (a=ByteArray.mk #[])) (.ok (.ret (.agg [.bl false,.s (ByteArray.mk #[]),.s (ByteArray.mk #[(1:UInt8)])]) [])) (.br (!decide (d=ByteArray.mk #[(1:UInt8)])) (.br (hz a&&hz d) (.br (!decide (gdB a d=ByteArray.mk #[(1:UInt8)])) (.br (bz a&&bz (gdB a d)&&decide ((0:Nat)<val (gdB a d))) (.br (bz d&&bz (gdB a d)&&decide ((0:Nat)<val (gdB a d))) (.ok (.ret (.agg [.b neg,.s (quB a (gdB a d)),.s (quB d (gdB a d))]) [])) (.no 1)) (.no 1)) (.ok (.ret (.agg [.b neg,.s a,.s d]) []))) (.no 1)) (.ok (.ret (.agg [.b neg,.s a,.s d]) []))):=by kernel_rfl
theorem k76l (neg:Bool) (a d:ByteArray):evF prog O76 [] {} f62 [.bl neg,.s a,.s d] [] ql=
 Tr.br (decide (a=ByteArray.mk #[])) (.ok (.ret (.agg [.bl false,.s (ByteArray.mk #[]),.s (ByteArray.mk #[(1:UInt8)])]) [])) (.br (!decide (d=ByteArray.mk #[(1:UInt8)])) (.br (hz a&&hz d) (.br (!decide (gdB a d=ByteArray.mk #[(1:UInt8)])) (.br (bz a&&bz (gdB a d)&&decide ((0:Nat)<val (gdB a d))) (.br (bz d&&bz (gdB a d)&&decide ((0:Nat)<val (gdB a d))) (.ok (.ret (.agg [.bl neg,.s (quB a (gdB a d)),.s (quB d (gdB a d))]) [])) (.no 1)) (.no 1)) (.ok (.ret (.agg [.bl neg,.s a,.s d]) []))) (.no 1)) (.ok (.ret (.agg [.bl neg,.s a,.s d]) []))):=by kernel_rfl
def sgB (neg:Bool) (a:ByteArray) (minus:Bool) (b:ByteArray):Bool:=hide (sgn2 neg (bv a.data.toList) minus (bv b.data.toList)).1
def sgV (neg:Bool) (a:ByteArray) (minus:Bool) (b:ByteArray):ByteArray:=hide (nb (sgn2 neg (bv a.data.toList) minus (bv b.data.toList)).2)
def g75:Spec:=fun args hs K=>match args,hs with
 | [.b neg,.s a,.b minus,.s b],[]=>.br (bz a&&bz b) (K (.tup [.b (sgB neg a minus b),.s (sgV neg a minus b)]) []) (.no 1)
 | _,_=>.no 1
theorem k75 (neg minus:Bool) (a b:ByteArray):evF prog [(101,h108),(112,h111)] [] {} f61 [.b neg,.s a,.b minus,.s b] [] ql=
 Tr.br (neg==minus) (.br (bz a&&bz b) (.ok (.ret (.tup [.b neg,.s (adB a b)]) [])) (.no 1)) (.br (bz a&&bz b) (.br (leB b a) (.br (decide ((0:Int)=0)) (.ok (.ret (.tup [.b neg,.s (suB a b)]) [])) (.br (bz b&&bz a) (.br (leB a b) (.ok (.ret (.tup [.b minus,.s (suB b a)]) [])) (.ok (.ret (.tup [.b minus,.s (ByteArray.mk #[])]) []))) (.no 1))) (.br (decide ((1:Int)=0)) (.ok (.ret (.tup [.b neg,.s (ByteArray.mk #[])]) [])) (.br (bz b&&bz a) (.br (leB a b) (.ok (.ret (.tup [.b minus,.s (suB b a)]) [])) (.ok (.ret (.tup [.b minus,.s (ByteArray.mk #[])]) []))) (.no 1)))) (.no 1)):=by kernel_rfl
include hG in
theorem gk109 (hT:qp G):qc prog G 104 g109:=by
 refine spec_ofQ hG (.cons (hk112 hG hT) .nil) mix enter109 (L:=[]) (pol:={}) fun args hs K x h => ?_
 unfold g109 at h
 split at h
 case h_2=>cases h
 rename_i x n
 obtain⟨hc,hr⟩:=k8 h
 rw[kH]at hc
 refine⟨_,q1_sz,kA (by kernel_rfl),_,_,hr,fun hq => ?_⟩
 obtain⟨s1,s2,s3⟩:=sz_lt hq
 have hd:=x.den_nz
 have hg:=x.reduced
 unfold Nat.Coprime at hg
 have p1:=nb_size_pos hd
 have hgd:gdB (qt x) (qu x)=nb 1:=by rw[rnum_eq,rden_eq,gdB_nb,hg]
 have hzz:(hz (qt x)&&hz (qu x))=true:=by rw[rnum_eq,rden_eq,hz_bits s1 hc,hz_bits s2 hc];rfl
 rw[k109];try unfold zk1091;try unfold zk1092
 rw[k6 (kG (rden_empty x)),k5 (by rw[rden_eq];simp only[kD,kE];omega),k6 (kG (nb_head' hd))]
 by_cases h0:x.num.natAbs=0
 ·rw[k5 (kF ((qI x).2 h0)),k6 (rneg_zero h0),k6 (by rw[kF ((rden_one x).2 (rat_zero_den h0))];rfl),
   k6 (by rw[kF ((qI x).2 h0)];rfl),k5 (kF ((rden_one x).2 (rat_zero_den h0)))]
  exact⟨_,rfl,.refl _⟩
 ·have p2:=nb_size_pos h0
  rw[k6 (kG (fun h=>h0 ((qI x).1 h))),k5 (by rw[kG (fun h=>h0 ((qI x).1 h))];rfl),k5 (by rw[rnum_eq];simp only[kD,kE];omega),k6 (kG (nb_head' h0))]
  by_cases h1:x.den=1
  ·rw[k5 (kF ((rden_one x).2 h1))]
   exact⟨_,rfl,.refl _⟩
  ·rw[k6 (kG (fun h=>h1 ((rden_one x).1 h))),k5 hzz,k7,hgd]
   exact⟨_,rfl,rle_b (kF nb_onev)⟩
include hG in
theorem gk74 (hT:qp G):qc prog G 58 g74:=by
 refine qq hG (.cons (gk109 hG hT) (.cons (ok110 hG) .nil)) mix enter74 (L:=[]) (pol:={}) fun args hs K x h => ?_
 unfold g74 at h
 split at h
 case h_2=>cases h
 rename_i x n
 obtain⟨hc,hr⟩:=k8 h
 refine⟨kA (by kernel_rfl),_,_,_,?_,.refl _,hr⟩
 rw[k74,k5 hc]
 rfl
theorem quB_nb (n m:Nat):quB (nb n) (nb m)=nb (n/m):=by rw[quB,qh,qE,qE]
theorem mkq_nb (neg:Bool) (n m:Nat):mkq neg (nb n) (nb m)=mkz neg n m:=by rw[mkq,qh,qE,qE]
theorem muB_nb (n m:Nat):muB (nb n) (nb m)=nb (n*m):=by rw[muB,qh,qE,qE]
theorem adB_nb (n m:Nat):adB (nb n) (nb m)=nb (n+m):=by rw[adB,qh,qE,qE]
theorem gz {neg:Bool} {n d W:Nat} (hd:d≠0) (h1:n<2^W) (h2:d<2^W) (hW:0<W):sz (mkz neg n d)<=W:=by
 refine sz_le ?_ ?_ hW
 ·rw[mkz_natAbs hd];exact Nat.lt_of_le_of_lt (Nat.div_le_self _ _) h1
 ·rw[mkz_den hd];exact Nat.lt_of_le_of_lt (Nat.div_le_self _ _) h2
theorem made_z {nv:PV} {neg:Bool} (h:bof nv=some false) (d:Nat) {W:Nat} (hW:0<W):RLe (.agg [nv,.s ⟨#[]⟩,.s ⟨#[1]⟩]) (.q (mkz neg 0 d) W):=by
 rw[mkz_zero]
 exact rle_q (x:=0) h (Nat.le_trans (show sz 0<=1 by decide) hW)
theorem made_s {nv:PV} {neg:Bool} (h:bof nv=some neg) {n d W:Nat} (hn:n≠0) (hd:d≠0) (h1:n<2^W) (h2:d<2^W) (hW:0<W) {a b:ByteArray} (ha:a=nb (n/n.gcd d)) (hb:b=nb (d/n.gcd d)):
  RLe (.agg [nv,.s a,.s b]) (.q (mkz neg n d) W):=by
 have e1:a=qt (mkz neg n d):=by rw[ha,rnum_eq,mkz_natAbs hd]
 have e2:b=qu (mkz neg n d):=by rw[hb,rden_eq,mkz_den hd]
 rw[e1,e2]
 exact rle_q (by rw[mkz_rneg hd hn];exact h) (gz hd h1 h2 hW)
include hG in
theorem orcg76 (hT:qp G):OrcOK prog G O76:=.cons (ok110 hG) (.cons (hk112 hG hT) (.cons (hk113 hG) .nil))
include hG in
theorem gk76 (hT:qp G) (W:Nat):qc prog G 62 (g76 W):=by
 refine qq hG (orcg76 hG hT) mix enter76 (L:=[]) (pol:={}) fun args hs K x h => ?_
 unfold g76 at h
 split at h
 case h_2=>cases h
 rename_i nv a d
 split at h
 case h_2=>cases h
 rename_i neg hnv
 obtain⟨hc,hr⟩:=k8 h
 refine⟨kA (by kernel_rfl),?_⟩
 obtain⟨ha,hd,h3,h1,h2,hW,hW2⟩:=decP_iff.1 hc
 generalize bv a.data.toList=n at*
 generalize bv d.data.toList=m at*
 subst ha;subst hd
 rw[mkq_nb]at hr
 have key:∃ r,(evF prog O76 [] {} f62 [nv,.s (nb n),.s (nb m)] [] ql).run=some (.ret r [])/\RLe r (.q (mkz neg n m) W):=by
  have hgp:0<n.gcd m:=Nat.gcd_pos_of_pos_right _ h3
  have hgl:n.gcd m<=m:=Nat.le_of_dvd h3 (Nat.gcd_dvd_right _ _)
  have z1:=hz_bits h1 hW2
  have z2:=hz_bits h2 hW2
  have z3:=qF h1 hW2
  have z4:=qF h2 hW2
  have z5:=qF (Nat.lt_of_le_of_lt hgl h2) hW2
  rcases bof_cases hnv with rfl|rfl
  ·rw[k76]
   simp only[gdB_nb,quB_nb,val_nb]
   by_cases h0:n=0
   ·subst h0
    rw[k5 (by rfl)]
    exact⟨_,rfl,made_z rfl _ hW⟩
   ·rw[k6 (kG (fun h=>h0 (nb_eq_empty.1 h)))]
    by_cases hm:m=1
    ·subst hm
     rw[k6 (by rw[kF nb_onev];rfl)]
     exact⟨_,rfl,made_s rfl h0 (by omega) h1 h2 hW (by simp) (by simp)⟩
    ·rw[k5 (by rw[kG (fun h=>hm (nb_eq_one.1 h))];rfl),k5 (by rw[z1,z2];rfl)]
     by_cases hg:n.gcd m=1
     ·rw[k6 (by rw[hg,kF nb_onev];rfl)]
      exact⟨_,rfl,made_s rfl h0 (by omega) h1 h2 hW (by rw[hg,Nat.div_one]) (by rw[hg,Nat.div_one])⟩
     ·rw[k5 (by rw[kG (fun h=>hg (nb_eq_one.1 h))];rfl),k5 (by rw[z3,z5,kF hgp];rfl),k5 (by rw[z4,z5,kF hgp];rfl)]
      exact⟨_,rfl,made_s rfl h0 (by omega) h1 h2 hW rfl rfl⟩
  ·rw[k76l]
   simp only[gdB_nb,quB_nb,val_nb]
   by_cases h0:n=0
   ·subst h0
    rw[k5 (by rfl)]
    exact⟨_,rfl,made_z rfl _ hW⟩
   ·rw[k6 (kG (fun h=>h0 (nb_eq_empty.1 h)))]
    by_cases hm:m=1
    ·subst hm
     rw[k6 (by rw[kF nb_onev];rfl)]
     exact⟨_,rfl,made_s rfl h0 (by omega) h1 h2 hW (by simp) (by simp)⟩
    ·rw[k5 (by rw[kG (fun h=>hm (nb_eq_one.1 h))];rfl),k5 (by rw[z1,z2];rfl)]
     by_cases hg:n.gcd m=1
     ·rw[k6 (by rw[hg,kF nb_onev];rfl)]
      exact⟨_,rfl,made_s rfl h0 (by omega) h1 h2 hW (by rw[hg,Nat.div_one]) (by rw[hg,Nat.div_one])⟩
     ·rw[k5 (by rw[kG (fun h=>hg (nb_eq_one.1 h))];rfl),k5 (by rw[z3,z5,kF hgp];rfl),k5 (by rw[z4,z5,kF hgp];rfl)]
      exact⟨_,rfl,made_s rfl h0 (by omega) h1 h2 hW rfl rfl⟩
 obtain⟨r,k1,k2⟩:=key
 exact⟨_,_,_,k1,k2,hr⟩
include hG in
theorem gk75:qc prog G 61 g75:=by
 refine qq hG (.cons (hk108 hG) (.cons (hk111 hG) .nil)) mix enter75 (L:=[]) (pol:={}) fun args hs K x h => ?_
 unfold g75 at h
 split at h
 case h_2=>cases h
 rename_i neg a minus b
 obtain⟨hc,hr⟩:=k8 h
 refine⟨kA (by kernel_rfl),_,_,_,?_,.refl _,hr⟩
 have hc2:(bz b&&bz a)=true:=by rw[Bool.and_comm];exact hc
 rw[k75,sgB,sgV,qh,qh]
 unfold sgn2
 cases hn:neg==minus
 ·rw[k6 rfl,k5 hc]
  by_cases hle:bv b.data.toList<=bv a.data.toList
  ·rw[k5 (by rw[leB,qh];exact kF hle),k5 (by rfl),k7,suB,qh,if_pos hle]
  ·rw[k6 (by rw[leB,qh];exact kG hle),k6 (by rfl),k5 hc2,k5 (by rw[leB,qh];exact kF (by omega)),k7,suB,qh,if_neg hle]
 ·rw[k5 rfl,k5 hc,k7,adB,qh]
theorem sgB_nb (neg minus:Bool) (n m:Nat):sgB neg (nb n) minus (nb m)=(sgn2 neg n minus m).1:=by rw[sgB,qh,qE,qE]
theorem sgV_nb (neg minus:Bool) (n m:Nat):sgV neg (nb n) minus (nb m)=nb (sgn2 neg n minus m).2:=by rw[sgV,qh,qE,qE]
theorem pc_assume {P:Program} {G:World->(Nat->Prop)->Prop} {g:Nat} {args:List PV} {hs:List Blk} {r:PV} {hs':List Blk} (Q:Prop) (h1:∀ w S μ vs,RepVL w S μ args vs->Q) (h2:Q->PC P G g args hs r hs'):PC P G g args hs r hs':=
 fun w S μ vs hg hr=>h2 (h1 w S μ vs hr) w S μ vs hg hr
theorem mul_bits {a b n m:Nat} (h1:a<2^n) (h2:b<2^m):a*b<2^(n+m):=by
 rw[Nat.pow_add]
 exact Nat.mul_lt_mul'' h1 h2
theorem add_bits {a b n:Nat} (h1:a<2^n) (h2:b<2^n):a+b<2^(n+1):=by
 rw[Nat.pow_succ];omega
theorem up_bits {a n m:Nat} (h1:a<2^n) (h2:n<=m):a<2^m:=Nat.lt_of_lt_of_le h1 (Nat.pow_le_pow_right (by omega) h2)
def O21 (W:Nat):Orc:=[(58,g74),(61,g75),(62,g76 W),(60,h77)]
theorem k21 (x y:Rat) (n m W:Nat):evF prog (O21 W) [] {} f25 [.q x n,.q y m] [] ql=
 Tr.br (n.ble 800000) (.br (m.ble 800000) (.br (decide (qu x=qu y)) (.br (bz (qt x)&&bz (qt y)) (.br (qg (M76 (sgV (qo x) (qt x) (qo y) (qt y)) (qu x) W)) (.ok (.ret (.q (mkq (sgB (qo x) (qt x) (qo y) (qt y)) (sgV (qo x) (qt x) (qo y) (qt y)) (qu x)) W) [])) (.no 1)) (.no 1)) (.br (bz (qt x)&&bz (qu y)) (.br (bz (qt y)&&bz (qu x)) (.br (bz (muB (qt x) (qu y))&&bz (muB (qt y) (qu x))) (.br (bz (qu x)&&bz (qu y)) (.br (qg (M76 (sgV (qo x) (muB (qt x) (qu y)) (qo y) (muB (qt y) (qu x))) (muB (qu x) (qu y)) W)) (.ok (.ret (.q (mkq (sgB (qo x) (muB (qt x) (qu y)) (qo y) (muB (qt y) (qu x))) (sgV (qo x) (muB (qt x) (qu y)) (qo y) (muB (qt y) (qu x))) (muB (qu x) (qu y))) W) [])) (.no 1)) (.no 1)) (.no 1)) (.no 1)) (.no 1))) (.no 1)) (.no 1):=by kernel_rfl
def g21:Spec:=fun args hs K=>match args,hs with
 | [.q x n,.q y m],[]=>.br (Nat.ble (n+m+1) 800000) (K (.q (x+y) (n+m+1)) []) (.no 1)
 | _,_=>.no 1
include hG in
theorem orcg21 (hT:qp G) (W:Nat):OrcOK prog G (O21 W):=.cons (gk74 hG hT) (.cons (gk75 hG) (.cons (gk76 hG hT W) (.cons (hk77 hG) .nil)))
include hG in
theorem gk21 (hT:qp G):qc prog G 25 g21:=by
 intro args hs K x h
 unfold g21 at h
 split at h
 case h_2=>cases h
 rename_i x n y m
 obtain⟨hc,hr⟩:=k8 h
 rw[kH]at hc
 refine⟨_,_,?_,hr⟩
 refine pc_assume _ q2_sz fun hq=>qj hG (orcg21 hG hT (n+m+1)) mix enter21 (L:=[]) (pol:={}) (kA (by kernel_rfl)) ?_
 obtain⟨x1,x2,x3⟩:=sz_lt hq.1
 obtain⟨y1,y2,y3⟩:=sz_lt hq.2
 have dx:=x.den_pos
 have dy:=y.den_pos
 rw[k21,k5 (by rw[kH];omega),k5 (by rw[kH];omega)]
 by_cases hd:x.den=y.den
 ·have hb:=sgn2_le (qo x) x.num.natAbs (qo y) y.num.natAbs
  have b1:=add_bits (up_bits x1 (show n<=n+m by omega)) (up_bits y1 (show m<=n+m by omega))
  rw[k5 (kF (show qu x=qu y by rw[rden_eq,rden_eq,hd]))]
  simp only[rnum_eq,rden_eq,muB_nb,sgB_nb,sgV_nb]
  rw[k5 (by rw[qF x1 (by omega),qF y1 (by omega)];rfl),k5 (decP_iff.2 ⟨by rw[qE],by rw[qE],by rw[qE];exact dx,by rw[qE];omega,by rw[qE];exact up_bits x2 (by omega),by omega,hc⟩),k7,mkq_nb,<-rat_add_same x y hd]
 ·have b1:=mul_bits x1 y2
  have b2:=mul_bits y1 x2
  rw[Nat.add_comm m n]at b2
  have b3:=sgn2_le (qo x) (x.num.natAbs*y.den) (qo y) (y.num.natAbs*x.den)
  have b4:=mul_bits x2 y2
  have b5:=Nat.mul_pos dx dy
  have b6:=add_bits b1 b2
  rw[k6 (kG (show ¬ qu x=qu y from fun h=>hd (nb_inj h)))]
  simp only[rnum_eq,rden_eq,muB_nb,sgB_nb,sgV_nb]
  rw[k5 (by rw[qF x1 (by omega),qF y2 (by omega)];rfl),k5 (by rw[qF y1 (by omega),qF x2 (by omega)];rfl),k5 (by rw[qF b1 (by omega),qF b2 (by omega)];rfl),
   k5 (by rw[qF x2 (by omega),qF y2 (by omega)];rfl),k5 (decP_iff.2 ⟨by rw[qE],by rw[qE],by rw[qE];exact b5,by rw[qE];omega,by rw[qE];exact up_bits b4 (by omega),by omega,hc⟩),k7,mkq_nb,<-rat_add_mkz x y]
def O43 (W:Nat):Orc:=[(58,g74),(62,g76 W),(60,h77)]
theorem k43 (x y:Rat) (n m W:Nat):evF prog (O43 W) [] {} f75 [.q x n,.q y m] [] ql=
 Tr.br (n.ble 800000) (.br (m.ble 800000) (.br (bz (qt x)&&bz (qt y)) (.br (bz (qu x)&&bz (qu y)) (.br (qg (M76 (muB (qt x) (qt y)) (muB (qu x) (qu y)) W)) (.ok (.ret (.q (mkq (!qo x==qo y) (muB (qt x) (qt y)) (muB (qu x) (qu y))) W) [])) (.no 1)) (.no 1)) (.no 1)) (.no 1)) (.no 1):=by kernel_rfl
theorem k72 (x y:Rat) (n m W:Nat):evF prog (O43 W) [] {} f86 [.q x n,.q y m] [] ql=
 Tr.br (n.ble 800000) (.br (m.ble 800000) (.br (decide (qt y=ByteArray.mk #[])) (.ok (.ret (.tup [.agg [.bl false,.s (ByteArray.mk #[]),.s (ByteArray.mk #[])],.i .i64 12]) [])) (.br (bz (qt x)&&bz (qu y)) (.br (bz (qu x)&&bz (qt y)) (.br (qg (M76 (muB (qt x) (qu y)) (muB (qu x) (qt y)) W)) (.ok (.ret (.tup [.q (mkq (!qo x==qo y) (muB (qt x) (qu y)) (muB (qu x) (qt y))) W,.i .i64 0]) [])) (.no 1)) (.no 1)) (.no 1))) (.no 1)) (.no 1):=by kernel_rfl
def g43:Spec:=fun args hs K=>match args,hs with
 | [.q x n,.q y m],[]=>.br (Nat.ble (n+m) 800000) (K (.q (x*y) (n+m)) []) (.no 1)
 | _,_=>.no 1
include hG in
theorem orcg43 (hT:qp G) (W:Nat):OrcOK prog G (O43 W):=.cons (gk74 hG hT) (.cons (gk76 hG hT W) (.cons (hk77 hG) .nil))
include hG in
theorem gk43 (hT:qp G):qc prog G 75 g43:=by
 intro args hs K x h
 unfold g43 at h
 split at h
 case h_2=>cases h
 rename_i x n y m
 obtain⟨hc,hr⟩:=k8 h
 rw[kH]at hc
 refine⟨_,_,?_,hr⟩
 refine pc_assume _ q2_sz fun hq=>qj hG (orcg43 hG hT (n+m)) mix enter43 (L:=[]) (pol:={}) (kA (by kernel_rfl)) ?_
 obtain⟨x1,x2,x3⟩:=sz_lt hq.1
 obtain⟨y1,y2,y3⟩:=sz_lt hq.2
 have dx:=x.den_pos
 have dy:=y.den_pos
 have b1:=mul_bits x1 y1
 have b4:=mul_bits x2 y2
 have b5:=Nat.mul_pos dx dy
 rw[k43,k5 (by rw[kH];omega),k5 (by rw[kH];omega)]
 simp only[rnum_eq,rden_eq,muB_nb]
 rw[k5 (by rw[qF x1 (by omega),qF y1 (by omega)];rfl),k5 (by rw[qF x2 (by omega),qF y2 (by omega)];rfl),k5 (decP_iff.2 ⟨by rw[qE],by rw[qE],by rw[qE];exact b5,by rw[qE];exact b1,by rw[qE];exact b4,by omega,hc⟩),k7,mkq_nb,rat_mul_mkz x y]
 rfl
def g72:Spec:=fun args hs K=>match args,hs with
 | [.q x n,.q y m],[]=>.br (Nat.ble (n+m) 800000) (.br (decide (y=0)) (K (.tup [.agg [.bl false,.s ⟨#[]⟩,.s ⟨#[]⟩],.i .i64 12]) []) (K (.tup [.q (x/y) (n+m),.i .i64 0]) [])) (.no 1)
 | _,_=>.no 1
include hG in
theorem gk72 (hT:qp G):qc prog G 86 g72:=by
 intro args hs K x h
 unfold g72 at h
 split at h
 case h_2=>cases h
 rename_i x n y m
 obtain⟨hc,hr⟩:=k8 h
 rw[kH]at hc
 by_cases hy:y=0
 ·rw[k5 (kF hy)]at hr
  refine⟨_,_,qj hG (orcg43 hG hT (n+m)) mix enter72 (L:=[]) (pol:={}) (kA (by kernel_rfl)) ?_,hr⟩
  rw[k72,k5 (by rw[kH];omega),k5 (by rw[kH];omega),k5 (kF (by rw[hy];exact nb_zero))]
  rfl
 rw[k6 (kG hy)]at hr
 refine⟨_,_,?_,hr⟩
 refine pc_assume _ q2_sz fun hq=>qj hG (orcg43 hG hT (n+m)) mix enter72 (L:=[]) (pol:={}) (kA (by kernel_rfl)) ?_
 obtain⟨x1,x2,x3⟩:=sz_lt hq.1
 obtain⟨y1,y2,y3⟩:=sz_lt hq.2
 have hz:y.num.natAbs≠0:=fun h=>hy (Rat.num_eq_zero.1 (by omega))
 have dx:=x.den_pos
 have b1:=mul_bits x1 y2
 have b4:=mul_bits x2 y1
 have b5:=Nat.mul_pos dx (show 0<y.num.natAbs by omega)
 rw[k72,k5 (by rw[kH];omega),k5 (by rw[kH];omega),k6 (kG (fun h=>hz ((qI y).1 h)))]
 simp only[rnum_eq,rden_eq,muB_nb]
 rw[k5 (by rw[qF x1 (by omega),qF y2 (by omega)];rfl),k5 (by rw[qF x2 (by omega),qF y1 (by omega)];rfl),k5 (decP_iff.2 ⟨by rw[qE],by rw[qE],by rw[qE];exact b5,by rw[qE];exact b1,by rw[qE];exact b4,by omega,hc⟩),k7,mkq_nb,rat_div_mkz x y hz]
 rfl
include hG in
theorem orcg74 (hT:qp G):OrcOK prog G [(58,g74)]:=.cons (gk74 hG hT) .nil
theorem k83 (x:Rat) (n:Nat):evF prog [(58,g74)] [] {} f102 [.q x n] [] ql=
 Tr.br (n.ble 800000) (.br (!qo x) (.ok (.ret (.agg [.b !decide (qt x=ByteArray.mk #[]),.s (qt x),.s (qu x)]) [])) (.ok (.ret (.agg [.bl false,.s (qt x),.s (qu x)]) []))) (.no 1):=by kernel_rfl
theorem k28 (x:Rat) (n:Nat):evF prog [(58,g74)] [] {} f24 [.q x n] [] ql=
 Tr.br (n.ble 800000) (.ok (.ret (.agg [.bl false,.s (qt x),.s (qu x)]) [])) (.no 1):=by kernel_rfl
theorem k26 (x:Rat) (n:Nat):evF prog [(58,g74)] [] {} f97 [.q x n] [] ql=
 Tr.br (n.ble 800000) (.br (decide (qt x=ByteArray.mk #[])) (.ok (.ret (.i .i64 0) [])) (.br (qo x) (.ok (.ret (.i .i64 (-1)) [])) (.ok (.ret (.i .i64 1) [])))) (.no 1):=by kernel_rfl
def g83:Spec:=fun args hs K=>match args,hs with
 | [.q x n],[]=>.br (Nat.ble n 800000) (K (.q (-x) n) []) (.no 1)
 | _,_=>.no 1
theorem sz_neg (x:Rat):sz (-x)=sz x:=by unfold sz;rw[neg_natAbs,neg_den]
theorem sz_abs (x:Rat):sz (rabs x)=sz x:=by unfold sz;rw[rabs_natAbs,rabs_den]
include hG in
theorem gk83 (hT:qp G):qc prog G 102 g83:=by
 refine spec_ofQ hG (orcg74 hG hT) mix enter83 (L:=[]) (pol:={}) fun args hs K x h => ?_
 unfold g83 at h
 split at h
 case h_2=>cases h
 rename_i x n
 obtain⟨hc,hr⟩:=k8 h
 refine⟨_,q1_sz,kA (by kernel_rfl),_,_,hr,fun hq => ?_⟩
 have hz:sz (-x)<=n:=by rw[sz_neg];exact hq
 rw[k83,k5 hc,<-rnum_neg,<-rden_neg]
 by_cases h:qo x=true
 ·rw[k6 (by rw[h];rfl)]
  refine⟨_,rfl,rle_q ?_ hz⟩
  have:x.num<0:=of_decide_eq_true h
  show some false=some (decide (-x.num<0))
  rw[kG (by omega)]
 ·rw[k5 (by rw[Bool.not_eq_true]at h;rw[h];rfl)]
  refine⟨_,rfl,rle_q ?_ hz⟩
  have h0:¬ x.num<0:=fun h'=>h (kF h')
  show some (!decide (qt (-x)=⟨#[]⟩))=some (decide (-x.num<0))
  congr 1
  by_cases h1:x.num=0
  ·rw[kF ((qI _).2 (by rw[neg_natAbs];omega)),kG (by omega)];rfl
  ·rw[kG (fun h=>by have:=(qI _).1 h;rw[neg_natAbs]at this;omega),kF (by omega)];rfl
def g28:Spec:=fun args hs K=>match args,hs with
 | [.q x n],[]=>.br (Nat.ble n 800000) (K (.q (rabs x) n) []) (.no 1)
 | _,_=>.no 1
include hG in
theorem gk28 (hT:qp G):qc prog G 24 g28:=by
 refine spec_ofQ hG (orcg74 hG hT) mix enter28 (L:=[]) (pol:={}) fun args hs K x h => ?_
 unfold g28 at h
 split at h
 case h_2=>cases h
 rename_i x n
 obtain⟨hc,hr⟩:=k8 h
 refine⟨_,q1_sz,kA (by kernel_rfl),_,_,hr,fun hq => ?_⟩
 have hz:sz (rabs x)<=n:=by rw[sz_abs];exact hq
 have e1:qt x=qt (rabs x):=by rw[rnum_eq,rnum_eq,rabs_natAbs]
 have e2:qu x=qu (rabs x):=by rw[rden_eq,rden_eq,rabs_den]
 rw[k28,k5 hc,e1,e2]
 exact⟨_,rfl,rle_q (by rw[rabs_nonneg];rfl) hz⟩
def g26:Spec:=fun args hs K=>match args,hs with
 | [.q x n],[]=>.br (Nat.ble n 800000) (K (.i .i64 (rcmp x 0)) []) (.no 1)
 | _,_=>.no 1
include hG in
theorem gk26 (hT:qp G):qc prog G 97 g26:=by
 refine qq hG (orcg74 hG hT) mix enter26 (L:=[]) (pol:={}) fun args hs K x h => ?_
 unfold g26 at h
 split at h
 case h_2=>cases h
 rename_i x n
 obtain⟨hc,hr⟩:=k8 h
 refine⟨kA (by kernel_rfl),_,_,_,?_,.refl _,hr⟩
 rw[k26,k5 hc]
 unfold rcmp
 by_cases h0:x.num.natAbs=0
 ·have:x=0:=Rat.num_eq_zero.1 (by omega)
  rw[k5 (kF ((qI x).2 h0)),k7]
  subst this
  rfl
 ·rw[k6 (kG (fun h=>h0 ((qI x).1 h)))]
  by_cases h1:x<0
  ·rw[k5 (rneg_iff.2 h1),if_pos h1];rfl
  ·have h2:0<x:=by
    have hne:x≠0:=fun h=>h0 (by rw[h];rfl)
    grind
   rw[k6 (by rw[Bool.eq_false_iff,Ne,rneg_iff];exact h1),if_neg h1,if_pos h2];rfl
def O27:Orc:=[(58,g74),(60,h77),(59,h82)]
theorem k27 (x y:Rat) (n m:Nat):evF prog O27 [] {} f23 [.q x n,.q y m] [] ql=
 Tr.br (n.ble 800000) (.br (m.ble 800000) (.br (!qo x==qo y) (.br (qo x) (.ok (.ret (.i .i64 (-1)) [])) (.ok (.ret (.i .i64 1) []))) (.br (bz (qt x)&&bz (qu y)) (.br (bz (qt y)&&bz (qu x)) (.br (qo x) (.br (ib (0-ncmp (val (muB (qt x) (qu y))) (val (muB (qt y) (qu x))))) (.ok (.ret (.i .i64 (0-ncmp (val (muB (qt x) (qu y))) (val (muB (qt y) (qu x))))) [])) (.no 9002)) (.ok (.ret (.i .i64 (ncmp (val (muB (qt x) (qu y))) (val (muB (qt y) (qu x))))) []))) (.no 1)) (.no 1))) (.no 1)) (.no 1):=by kernel_rfl
def g27:Spec:=fun args hs K=>match args,hs with
 | [.q x n,.q y m],[]=>.br (Nat.ble (n+m) 800000) (K (.i .i64 (rcmp x y)) []) (.no 1)
 | _,_=>.no 1
include hG in
theorem orcg27 (hT:qp G):OrcOK prog G O27:=.cons (gk74 hG hT) (.cons (hk77 hG) (.cons (hk82 hG) .nil))
include hG in
theorem gk27 (hT:qp G):qc prog G 23 g27:=by
 refine spec_ofQ hG (orcg27 hG hT) mix enter27 (L:=[]) (pol:={}) fun args hs K x h => ?_
 unfold g27 at h
 split at h
 case h_2=>cases h
 rename_i x n y m
 obtain⟨hc,hr⟩:=k8 h
 rw[kH]at hc
 refine⟨_,q2_sz,kA (by kernel_rfl),_,_,hr,fun hq=>⟨_,?_,.refl _⟩⟩
 obtain⟨x1,x2,x3⟩:=sz_lt hq.1
 obtain⟨y1,y2,y3⟩:=sz_lt hq.2
 have p1:=x.den_pos
 have p2:=y.den_pos
 rw[k27,k5 (by rw[kH];omega),k5 (by rw[kH];omega),rcmp_sg]
 simp only[rnum_eq,rden_eq,muB_nb,val_nb]
 have z1:=qF x1 (by omega)
 have z2:=qF x2 (by omega)
 have z3:=qF y1 (by omega)
 have z4:=qF y2 (by omega)
 have nz:∀ z:Rat,qo z=true->0<z.num.natAbs:=by
  intro z hz
  have:z.num<0:=of_decide_eq_true hz
  omega
 cases hnx:qo x<;>cases hny:qo y
 ·rw[k6 (by rfl),k5 (by rw[z1,z4];rfl),k5 (by rw[z3,z2];rfl),k6 rfl,k7]
  unfold ncmp
  simp only[sg]
  simp only[Int.ofNat_lt]
 ·have h1:=Nat.mul_pos (nz y hny) p1
  rw[k5 (by rfl),k6 rfl,k7,if_neg (by simp only[sg];omega),if_pos (by simp only[sg];omega)]
 ·have h1:=Nat.mul_pos (nz x hnx) p2
  rw[k5 (by rfl),k5 rfl,k7,if_pos (by simp only[sg];omega)]
 ·have hn:=ncmp_range (x.num.natAbs*y.den) (y.num.natAbs*x.den)
  rw[k6 (by rfl),k5 (by rw[z1,z4];rfl),k5 (by rw[z3,z2];rfl),k5 rfl,k5 (by simp only[kD,kE];omega),k7]
  rw[neg_ncmp]
  rfl
def g71:Spec:=fun args hs K=>match args,hs with
 | [.i .i64 n],[]=>.br (decide (-72057594037927936<n)&&decide (n<=9223372036854775807)) (K (.q (n:Rat) (Nat.log2 n.natAbs+1)) []) (.no 1)
 | _,_=>.no 1
theorem sz_int (n:Int):sz (n:Rat)<=Nat.log2 n.natAbs+1:=by
 unfold sz
 show max (Nat.log2 n.natAbs) (Nat.log2 1)+1<=_
 have:Nat.log2 1=0:=by decide
 omega
include hG in
theorem gk71:qc prog G 53 g71:=by
 intro args hs K x h
 unfold g71 at h
 split at h
 case h_2=>cases h
 rename_i n
 obtain⟨hc,hr⟩:=k8 h
 obtain⟨r,hs',p,e⟩:=ok71 hG [.i .i64 n] [] (fun r hs'=>.ok (.ret r hs')) (.ret (.q (n:Rat) 64) []) (by show(Tr.br _ _ _).run=_;rw[k5 hc];rfl)
 cases e
 exact⟨_,_,p.le (rle_qq (sz_int n)) (.refl _),hr⟩
def g29:Spec:=fun args hs K=>match args,hs with
 | [.q x n,.q y m],[]=>.br (Nat.ble (n+m+1) 800000) (K (.q (x-y) (n+m+1)) []) (.no 1)
 | _,_=>.no 1
theorem k29 (x y:Rat) (n m:Nat):evF prog [(25,g21),(102,g83)] [] {} f54 [.q x n,.q y m] [] ql=
 Tr.br (m.ble 800000) (.br ((n+m+1).ble 800000) (.ok (.ret (.q (x + -y) (n+m+1)) [])) (.no 1)) (.no 1):=by kernel_rfl
include hG in
theorem gk29 (hT:qp G):qc prog G 54 g29:=by
 refine qq hG (.cons (gk21 hG hT) (.cons (gk83 hG hT) .nil)) mix enter29 (L:=[]) (pol:={}) fun args hs K x h => ?_
 unfold g29 at h
 split at h
 case h_2=>cases h
 rename_i x n y m
 obtain⟨hc,hr⟩:=k8 h
 refine⟨kA (by kernel_rfl),_,_,_,?_,.refl _,hr⟩
 have hc':=hc
 rw[kH]at hc'
 rw[k29,k5 (by rw[kH];omega),k5 hc,k7,Rat.sub_eq_add_neg]
theorem k80 (x y:Rat) (n m:Nat):evF prog [(23,g27),(58,g74)] [] {} f121 [.q x n,.q y m] [] ql=
 Tr.br ((n+m).ble 800000) (.br (decide (rcmp x y<=0)) (.br (n.ble 800000) (.ok (.ret (.q x n) [])) (.no 1)) (.br (m.ble 800000) (.ok (.ret (.q y m) [])) (.no 1))) (.no 1):=by kernel_rfl
def v80:Spec:=fun args hs K=>match args,hs with
 | [.q x n,.q y m],[]=>.br (qg (x=y/\n=m/\n<=400000)) (K (.q x n) []) (.no 1)
 | _,_=>.no 1
include hG in
theorem orcg80 (hT:qp G):OrcOK prog G [(23,g27),(58,g74)]:=.cons (gk27 hG hT) (.cons (gk74 hG hT) .nil)
include hG in
theorem vk80 (hT:qp G):qc prog G 121 v80:=by
 refine qq hG (orcg80 hG hT) mix enter80 (L:=[]) (pol:={}) fun args hs K x h => ?_
 unfold v80 at h
 split at h
 case h_2=>cases h
 rename_i x n y m
 obtain⟨hc,hr⟩:=k8 h
 obtain⟨rfl,rfl,hc⟩:=decP_iff.1 hc
 refine⟨kA (by kernel_rfl),_,_,_,?_,.refl _,hr⟩
 rw[k80,k5 (by rw[kH];omega),k5 (kF (rcmp_le.2 (Rat.le_refl))),k5 (by rw[kH];omega),k7]
theorem qH {x:Rat} {n m:Nat} (h:n<=m):VLe (.q x n) (.q x m):=by
 have key:∀ (w:World) (S:Nat->Prop) (μ:Mu) (cs:List Value),RepC w S μ (.q x n) cs->RepC w S μ (.q x m) cs:=by
  intro w S μ cs hc
  cases hc
  rename_i h'
  exact .q _ _ _ (Nat.le_trans h' h)
 refine⟨rfl,fun w S μ=>⟨key w S μ,fun v hv => ?_⟩⟩
 cases hv with
 | cell _ _ _ hv' _=>cases hv'
 | agg _ _ cs _ hc=>exact .agg _ _ _ rfl (key w S μ cs hc)
theorem vll0:VLeL [] []:=⟨rfl,fun _ _ _ h=>by cases h⟩
theorem qM {u v:PV} {us vs:List PV} (h:VLe u v) (h':VLeL us vs):VLeL (u::us) (v::vs):=by
 refine⟨by simp[h'.1],fun j a b ha hb => ?_⟩
 cases j with
 | zero=>simp at ha hb;subst ha;subst hb;exact h
 | succ j=>simp at ha hb;exact h'.2 j a b ha hb
theorem rle_of_vle {u v:PV} (hu:∀ m,unfr m u=(u,[])) (hv:∀ m,unfr m v=(v,[])) (h:VLe u v):RLe u v:=⟨fun m=>by rw[hu,hv];exact h,fun m=>by rw[hu,hv];exact .refl _⟩
theorem bof_v {hv:PV} {h:Bool} (e:bof hv=some h):VLe hv (.b h):=by
 rcases bof_cases e with rfl|rfl
 ·exact .refl _
 ·exact vle_bl h
theorem tn_le {hv:PV} {h:Bool} (e:bof hv=some h) {x y:Rat} {n m:Nat} (hxy:x=y) (hn:n<=m):VLe (.agg [hv,.q x n]) (.agg [.b h,.q y m]):=by
 subst hxy
 exact VLe.agg (qM (bof_v e) (qM (qH hn) vll0))
theorem tn_fr {hv:PV} {h:Bool} (e:bof hv=some h) {x:Rat} {n:Nat} (m:Nat):unfr m (.agg [hv,.q x n])=(.agg [hv,.q x n],[]):=by
 rcases bof_cases e with rfl|rfl<;>rfl
theorem tn_rle {hv:PV} {h:Bool} (e:bof hv=some h) {x y:Rat} {n m:Nat} (hxy:x=y) (hn:n<=m):RLe (.agg [hv,.q x n]) (.agg [.b h,.q y m]):=
 rle_of_vle (tn_fr e) (tn_fr (h:=h) rfl) (tn_le e hxy hn)
theorem q_rle {x y:Rat} {n m:Nat} (hxy:x=y) (hn:n<=m):RLe (.q x n) (.q y m):=by
 subst hxy
 exact rle_of_vle (fun _=>rfl) (fun _=>rfl) (qH hn)
def g50:Spec:=fun args hs K=>match args,hs with
 | [.q t k],[]=>.br (Nat.ble k 400000) (K (.agg [.bl false,.q t k]) []) (.no 1)
 | _,_=>.no 1
theorem enter50:Enters prog 135 f135 (qd f135):=⟨func135,by kernel_rfl,rfl⟩
theorem k50 (t:Rat) (k:Nat):evF prog [(121,v80)] [] {} f135 [.q t k] [] ql=
 Tr.br (qg (t=t/\k=k/\k<=400000)) (.ok (.ret (.agg [.bl false,.q t k]) [])) (.no 1):=by kernel_rfl
include hG in
theorem gk50 (hT:qp G):qc prog G 135 g50:=by
 refine qq hG (.cons (vk80 hG hT) .nil) mix enter50 (L:=[]) (pol:={}) fun args hs K x h => ?_
 unfold g50 at h
 split at h
 case h_2=>cases h
 rename_i t k
 obtain⟨hc,hr⟩:=k8 h
 rw[kH]at hc
 refine⟨kA (by kernel_rfl),_,_,_,?_,.refl _,hr⟩
 rw[k50,k5 (decP_iff.2 ⟨rfl,rfl,hc⟩),k7]
theorem enter124:Enters prog 202 f202 (qd f202):=⟨func202,by kernel_rfl,rfl⟩
def g124:Spec:=fun args hs K=>match args,hs with
 | [],[]=>K (.agg [.bl true,.q 0 1]) []
 | _,_=>.no 1
theorem k124 (_:Unit):evF prog [(53,g71)] [] {} f202 [] [] ql=
 Tr.br (decide ((-72057594037927936:Int)<0)&&decide ((0:Int)<=9223372036854775807)) (.ok (.ret (.agg [.bl true,.q (↑(0:Int):Rat) 1]) [])) (.no 1):=by kernel_rfl
theorem int1:(((1:Int):Int):Rat)=1:=rfl
include hG in
theorem gk124:qc prog G 202 g124:=by
 refine qq hG (.cons (gk71 hG) .nil) mix enter124 (L:=[]) (pol:={}) fun args hs K x h => ?_
 unfold g124 at h
 split at h
 case h_2=>cases h
 refine⟨kA (by kernel_rfl),_,_,_,?_,.refl _,h⟩
 rw[k124 ()]
 rfl
def ftT (h:Bool) (t:Rat):Rat:=hide (if h=true then 0 else t)
def g122:Spec:=fun args hs K=>match args,hs with
 | [.agg [hv,.q t k]],[]=>match bof hv with
  | some h=>.br (Nat.ble k 400000&&Nat.ble 1 k) (K (.agg [.b h,.q (ftT h t) k]) []) (.no 1)
  | none=>.no 1
 | _,_=>.no 1
theorem enter122:Enters prog 176 f176 (qd f176):=⟨func176,by kernel_rfl,rfl⟩
theorem k122 (h:Bool) (t:Rat) (k:Nat):evF prog [(135,g50),(202,g124)] [] {} f176 [.agg [.b h,.q t k]] [] ql=
 Tr.br h (.ok (.ret (.agg [.bl true,.q (0:Rat) 1]) [])) (.br (k.ble 400000) (.ok (.ret (.agg [.bl false,.q t k]) [])) (.no 1)):=by kernel_rfl
theorem tn_args {hv:PV} {h:Bool} (e:bof hv=some h) (t:Rat) (k:Nat):ArgsLe [.agg [hv,.q t k]] [.agg [.b h,.q t k]]:=.cons (tn_le e rfl (Nat.le_refl _)) .nil
include hG in
theorem gk122 (hT:qp G):qc prog G 176 g122:=by
 intro args hs K x h
 unfold g122 at h
 split at h
 case h_2=>cases h
 rename_i hv t k
 split at h
 case h_2=>cases h
 rename_i b hb
 obtain⟨hc,hr⟩:=k8 h
 simp only[kD,kH]at hc
 have key:∃ r,(evF prog [(135,g50),(202,g124)] [] {} f176 [.agg [.b b,.q t k]] [] ql).run=some (.ret r [])/\RLe r (.agg [.b b,.q (ftT b t) k]):=by
  rw[k122,ftT,qh]
  cases b
  ·rw[k6 rfl,k5 (by rw[kH];omega)]
   exact⟨_,rfl,tn_rle rfl rfl (Nat.le_refl _)⟩
  ·rw[k5 rfl]
   exact⟨_,rfl,tn_rle rfl rfl hc.2⟩
 obtain⟨r,k1,k2⟩:=key
 exact⟨_,_,PC.args (tn_args hb t k) ((qj hG (.cons (gk50 hG hT) (.cons (gk124 hG) .nil)) mix enter122 (L:=[]) (pol:={}) (kA (by kernel_rfl)) k1).le k2 (.refl _)),hr⟩
def qQ (h:Bool) (t:Rat):Rat:=hide (if h=true then -1 else (1-t*t)/(1+t*t))
def qB (h:Bool) (t:Rat):Rat:=hide (if h=true then 0 else (t+t)/(1+t*t))
def O133:Orc:=[(25,g21),(54,g29),(75,g43),(53,g71),(86,g72),(176,g122)]
theorem enter133:Enters prog 156 f156 (qd f156):=⟨func156,by kernel_rfl,rfl⟩
theorem enter134:Enters prog 157 f157 (qd f157):=⟨func157,by kernel_rfl,rfl⟩
theorem k133 (h:Bool) (t:Rat) (k:Nat):evF prog O133 [] {} f156 [.agg [.b h,.q t k]] [] ql=
 Tr.br (k.ble 400000&&Nat.ble 1 k) (.br h (.br (decide ((-72057594037927936:Int)<(-1))&&decide ((-1:Int)<=9223372036854775807)) (.ok (.ret (.q (↑(-1:Int):Rat) 1) [])) (.no 1)) (.br ((k+k).ble 800000) (.br (decide ((-72057594037927936:Int)<1)&&decide ((1:Int)<=9223372036854775807)) (.br (((Int.natAbs (1:Int)).log2+1+(k+k)+1).ble 800000) (.br (decide ((-72057594037927936:Int)<1)&&decide ((1:Int)<=9223372036854775807)) (.br (((Int.natAbs (1:Int)).log2+1+(k+k)+1).ble 800000) (.br (((Int.natAbs (1:Int)).log2+1+(k+k)+1+((Int.natAbs (1:Int)).log2+1+(k+k)+1)).ble 800000) (.br (decide ((↑(1:Int):Rat)+ftT h t*ftT h t=0)) (.ok (.ret (.agg [.bl false,.s (ByteArray.mk #[]),.s (ByteArray.mk #[])]) [])) (.ok (.ret (.q (((↑(1:Int):Rat)-ftT h t*ftT h t)/((↑(1:Int):Rat)+ftT h t*ftT h t)) ((Int.natAbs (1:Int)).log2+1+(k+k)+1+((Int.natAbs (1:Int)).log2+1+(k+k)+1))) []))) (.no 1)) (.no 1)) (.no 1)) (.no 1)) (.no 1)) (.no 1))) (.no 1):=by kernel_rfl
theorem k134 (h:Bool) (t:Rat) (k:Nat):evF prog O133 [] {} f157 [.agg [.b h,.q t k]] [] ql=
 Tr.br (k.ble 400000&&Nat.ble 1 k) (.br ((k+k+1).ble 800000) (.br (decide ((-72057594037927936:Int)<1)&&decide ((1:Int)<=9223372036854775807)) (.br ((k+k).ble 800000) (.br (((Int.natAbs (1:Int)).log2+1+(k+k)+1).ble 800000) (.br ((k+k+1+((Int.natAbs (1:Int)).log2+1+(k+k)+1)).ble 800000) (.br (decide ((↑(1:Int):Rat)+ftT h t*ftT h t=0)) (.ok (.ret (.agg [.bl false,.s (ByteArray.mk #[]),.s (ByteArray.mk #[])]) [])) (.ok (.ret (.q ((ftT h t+ftT h t)/((↑(1:Int):Rat)+ftT h t*ftT h t)) (k+k+1+((Int.natAbs (1:Int)).log2+1+(k+k)+1))) []))) (.no 1)) (.no 1)) (.no 1)) (.no 1)) (.no 1)) (.no 1):=by kernel_rfl
def g133:Spec:=fun args hs K=>match args,hs with
 | [.agg [hv,.q t k]],[]=>match bof hv with
  | some h=>.br (Nat.ble k 100000&&Nat.ble 1 k) (K (.q (qQ h t) (4*k+4)) []) (.no 1)
  | none=>.no 1
 | _,_=>.no 1
def g134:Spec:=fun args hs K=>match args,hs with
 | [.agg [hv,.q t k]],[]=>match bof hv with
  | some h=>.br (Nat.ble k 100000&&Nat.ble 1 k) (K (.q (qB h t) (4*k+4)) []) (.no 1)
  | none=>.no 1
 | _,_=>.no 1
include hG in
theorem orcg133 (hT:qp G):OrcOK prog G O133:=.cons (gk21 hG hT) (.cons (gk29 hG hT) (.cons (gk43 hG hT) (.cons (gk71 hG) (.cons (gk72 hG hT) (.cons (gk122 hG hT) .nil)))))
theorem sq_pos1 (t:Rat):¬ (1:Rat)+t*t=0:=by
 have:0<=t*t:=by
  rcases Rat.le_total (a:=0) (b:=t)with h|h
  ·exact Rat.mul_nonneg h h
  ·have:=Rat.mul_nonneg (show 0 <= -t by grind) (show 0 <= -t by grind)
   grind
 grind
theorem lg1:(Int.natAbs (1:Int)).log2=0:=by decide
theorem lgm1:(Int.natAbs (-1:Int)).log2=0:=by decide
include hG in
theorem gk133 (hT:qp G):qc prog G 156 g133:=by
 intro args hs K x h
 unfold g133 at h
 split at h
 case h_2=>cases h
 rename_i hv t k
 split at h
 case h_2=>cases h
 rename_i b hb
 obtain⟨hc,hr⟩:=k8 h
 simp only[kD,kH]at hc
 have key:∃ r,(evF prog O133 [] {} f156 [.agg [.b b,.q t k]] [] ql).run=some (.ret r [])/\RLe r (.q (qQ b t) (4*k+4)):=by
  rw[k133,k5 (by simp only[kD,kH];omega),qQ,qh]
  cases b
  ·rw[k6 rfl,ftT,qh]
   simp only[Bool.false_eq_true,if_false,int1,lg1]
   rw[k5 (by rw[kH];omega),k5 (by decide),k5 (by rw[kH];omega),k5 (by decide),k5 (by rw[kH];omega),k5 (by rw[kH];omega),k6 (kG (sq_pos1 t))]
   exact⟨_,rfl,q_rle rfl (by omega)⟩
  ·rw[k5 rfl,k5 (by decide)]
   exact⟨_,rfl,q_rle rfl (by omega)⟩
 obtain⟨r,k1,k2⟩:=key
 exact⟨_,_,PC.args (tn_args hb t k) ((qj hG (orcg133 hG hT) mix enter133 (L:=[]) (pol:={}) (kA (by kernel_rfl)) k1).le k2 (.refl _)),hr⟩
include hG in
theorem gk134 (hT:qp G):qc prog G 157 g134:=by
 intro args hs K x h
 unfold g134 at h
 split at h
 case h_2=>cases h
 rename_i hv t k
 split at h
 case h_2=>cases h
 rename_i b hb
 obtain⟨hc,hr⟩:=k8 h
 simp only[kD,kH]at hc
 have key:∃ r,(evF prog O133 [] {} f157 [.agg [.b b,.q t k]] [] ql).run=some (.ret r [])/\RLe r (.q (qB b t) (4*k+4)):=by
  rw[k134,k5 (by simp only[kD,kH];omega),qB,qh]
  simp only[int1,lg1]
  rw[k5 (by rw[kH];omega),k5 (by decide),k5 (by rw[kH];omega),k5 (by rw[kH];omega),k5 (by rw[kH];omega),k6 (kG (sq_pos1 _))]
  refine⟨_,rfl,q_rle ?_ (by omega)⟩
  rw[ftT,qh]
  cases b
  ·rfl
  ·simp only[if_true];grind
 obtain⟨r,k1,k2⟩:=key
 exact⟨_,_,PC.args (tn_args hb t k) ((qj hG (orcg133 hG hT) mix enter134 (L:=[]) (pol:={}) (kA (by kernel_rfl)) k1).le k2 (.refl _)),hr⟩
def O123:Orc:=[(135,g50),(53,g71),(86,g72),(202,g124)]
theorem enter123:Enters prog 201 f201 (qd f201):=⟨func201,by kernel_rfl,rfl⟩
theorem k123 (h:Bool) (t:Rat) (k:Nat):evF prog O123 [] {} f201 [.agg [.b h,.q t k]] [] ql=
 Tr.br (decide ((-72057594037927936:Int)<(-1))&&decide ((-1:Int)<=9223372036854775807)) (.br (((-1:Int).natAbs.log2+1+k).ble 800000) (.br (decide (t=0)) (.br (!decide ((12:Int)=0)) (.ok (.ret (.agg [.bl true,.q (0:Rat) 1]) [])) (.no 1)) (.br (!decide ((0:Int)=0)) (.ok (.ret (.agg [.bl true,.q (0:Rat) 1]) [])) (.br (((-1:Int).natAbs.log2+1+k).ble 400000) (.ok (.ret (.agg [.bl false,.q ((↑(-1:Int):Rat)/t) ((-1:Int).natAbs.log2+1+k)]) [])) (.no 1)))) (.no 1)) (.no 1):=by kernel_rfl
def opH (t:Rat):Bool:=hide (decide (t=0))
def opT (t:Rat):Rat:=hide (if t=0 then 0 else -1/t)
def g123:Spec:=fun args hs K=>match args,hs with
 | [.agg [hv,.q t k]],[]=>match bof hv with
  | some _=>.br (Nat.ble k 100000) (K (.agg [.b (opH t),.q (opT t) (k+1)]) []) (.no 1)
  | none=>.no 1
 | _,_=>.no 1
include hG in
theorem orcg123 (hT:qp G):OrcOK prog G O123:=.cons (gk50 hG hT) (.cons (gk71 hG) (.cons (gk72 hG hT) (.cons (gk124 hG) .nil)))
include hG in
theorem gk123 (hT:qp G):qc prog G 201 g123:=by
 intro args hs K x h
 unfold g123 at h
 split at h
 case h_2=>cases h
 rename_i hv t k
 split at h
 case h_2=>cases h
 rename_i b hb
 obtain⟨hc,hr⟩:=k8 h
 rw[kH]at hc
 have key:∃ r,(evF prog O123 [] {} f201 [.agg [.b b,.q t k]] [] ql).run=some (.ret r [])/\RLe r (.agg [.b (opH t),.q (opT t) (k+1)]):=by
  rw[k123]
  simp only[lgm1]
  rw[k5 (by decide),k5 (by rw[kH];omega),opH,opT,qh,qh]
  by_cases h0:t=0
  ·rw[k5 (kF h0),kF h0,if_pos h0]
   exact⟨_,rfl,tn_rle rfl rfl (by omega)⟩
  ·rw[k6 (kG h0),kG h0,if_neg h0,k6 (by decide),k5 (by rw[kH];omega)]
   exact⟨_,rfl,tn_rle rfl rfl (by omega)⟩
 obtain⟨r,k1,k2⟩:=key
 exact⟨_,_,PC.args (tn_args hb t k) ((qj hG (orcg123 hG hT) mix enter123 (L:=[]) (pol:={}) (kA (by kernel_rfl)) k1).le k2 (.refl _)),hr⟩
def O93:Orc:=[(25,g21),(54,g29),(75,g43),(135,g50),(53,g71),(86,g72),(176,g122),(201,g123),(202,g124)]
theorem enter93:Enters prog 170 f170 (qd f170):=⟨func170,by kernel_rfl,rfl⟩
theorem k93 (h:Bool) (t:Rat) (k:Nat) (g:Bool) (s:Rat) (l:Nat):evF prog O93 [] {} f170 [.agg [.b h,.q t k],.agg [.b g,.q s l]] [] ql=
 Tr.br (k.ble 400000&&Nat.ble 1 k) (.br (l.ble 400000&&Nat.ble 1 l) (.br h (.br g (.br (decide ((-72057594037927936:Int)<0)&&decide ((0:Int)<=9223372036854775807)) (.br (((Int.natAbs (0:Int)).log2+1).ble 400000) (.ok (.ret (.agg [.bl false,.q (↑(0:Int):Rat) 1]) [])) (.no 1)) (.no 1)) (.br h (.br (l.ble 100000) (.ok (.ret (.agg [.b (opH (ftT g s)),.q (opT (ftT g s)) (l+1)]) [])) (.no 1)) (.br g (.br (k.ble 100000) (.ok (.ret (.agg [.b (opH (ftT h t)),.q (opT (ftT h t)) (k+1)]) [])) (.no 1)) (.br ((k+l+1).ble 800000) (.br (decide ((-72057594037927936:Int)<1)&&decide ((1:Int)<=9223372036854775807)) (.br ((k+l).ble 800000) (.br (((Int.natAbs (1:Int)).log2+1+(k+l)+1).ble 800000) (.br ((k+l+1+((Int.natAbs (1:Int)).log2+1+(k+l)+1)).ble 800000) (.br (decide ((↑(1:Int):Rat)-ftT h t*ftT g s=0)) (.br (!decide ((12:Int)=0)) (.ok (.ret (.agg [.bl true,.q (0:Rat) 1]) [])) (.no 1)) (.br (!decide ((0:Int)=0)) (.ok (.ret (.agg [.bl true,.q (0:Rat) 1]) [])) (.br ((k+l+1+((Int.natAbs (1:Int)).log2+1+(k+l)+1)).ble 400000) (.ok (.ret (.agg [.bl false,.q ((ftT h t+ftT g s)/((↑(1:Int):Rat)-ftT h t*ftT g s)) (k+l+1+((Int.natAbs (1:Int)).log2+1+(k+l)+1))]) [])) (.no 1)))) (.no 1)) (.no 1)) (.no 1)) (.no 1)) (.no 1))))) (.br h (.br (l.ble 100000) (.ok (.ret (.agg [.b (opH (ftT g s)),.q (opT (ftT g s)) (l+1)]) [])) (.no 1)) (.br g (.br (k.ble 100000) (.ok (.ret (.agg [.b (opH (ftT h t)),.q (opT (ftT h t)) (k+1)]) [])) (.no 1)) (.br ((k+l+1).ble 800000) (.br (decide ((-72057594037927936:Int)<1)&&decide ((1:Int)<=9223372036854775807)) (.br ((k+l).ble 800000) (.br (((Int.natAbs (1:Int)).log2+1+(k+l)+1).ble 800000) (.br ((k+l+1+((Int.natAbs (1:Int)).log2+1+(k+l)+1)).ble 800000) (.br (decide ((↑(1:Int):Rat)-ftT h t*ftT g s=0)) (.br (!decide ((12:Int)=0)) (.ok (.ret (.agg [.bl true,.q (0:Rat) 1]) [])) (.no 1)) (.br (!decide ((0:Int)=0)) (.ok (.ret (.agg [.bl true,.q (0:Rat) 1]) [])) (.br ((k+l+1+((Int.natAbs (1:Int)).log2+1+(k+l)+1)).ble 400000) (.ok (.ret (.agg [.bl false,.q ((ftT h t+ftT g s)/((↑(1:Int):Rat)-ftT h t*ftT g s)) (k+l+1+((Int.natAbs (1:Int)).log2+1+(k+l)+1))]) [])) (.no 1)))) (.no 1)) (.no 1)) (.no 1)) (.no 1)) (.no 1))))) (.no 1)) (.no 1):=by kernel_rfl
def thH (h:Bool) (t:Rat) (g:Bool) (s:Rat):Bool:=hide (if h=true then (if g=true then false else decide (s=0))else if g=true then decide (t=0)else decide (1-t*s=0))
def thT (h:Bool) (t:Rat) (g:Bool) (s:Rat):Rat:=hide (if h=true then (if g=true then 0 else if s=0 then 0 else -1/s)else if g=true then (if t=0 then 0 else -1/t)else if 1-t*s=0 then 0 else (t+s)/(1-t*s))
include hG in
theorem orcg93 (hT:qp G):OrcOK prog G O93:=.cons (gk21 hG hT) (.cons (gk29 hG hT) (.cons (gk43 hG hT) (.cons (gk50 hG hT) (.cons (gk71 hG) (.cons (gk72 hG hT) (.cons (gk122 hG hT) (.cons (gk123 hG hT) (.cons (gk124 hG) .nil))))))))
theorem lg0:(Int.natAbs (0:Int)).log2=0:=by decide
theorem then_key (h:Bool) (t:Rat) (k:Nat) (g:Bool) (s:Rat) (l:Nat) (hk:k<=50000) (hl:l<=50000) (hk1:1<=k) (hl1:1<=l):
  ∃ r,(evF prog O93 [] {} f170 [.agg [.b h,.q t k],.agg [.b g,.q s l]] [] ql).run=some (.ret r [])/\RLe r (.agg [.b (thH h t g s),.q (thT h t g s) (2*k+2*l+3)]):=by
 rw[k93,k5 (by simp only[kD,kH];omega),k5 (by simp only[kD,kH];omega),thH,thT,qh,qh]
 simp only[lg0,lg1,opH,opT,ftT,qh,int1]
 cases h<;>cases g
 ·rw[k6 rfl,k6 rfl,k6 rfl,k5 (by rw[kH];omega),k5 (by decide),k5 (by rw[kH];omega),k5 (by rw[kH];omega),k5 (by rw[kH];omega)]
  simp only[Bool.false_eq_true,if_false]
  by_cases h0:1-t*s=0
  ·rw[k5 (kF h0),k5 (by decide),kF h0,if_pos h0]
   exact⟨_,rfl,tn_rle rfl rfl (by omega)⟩
  ·rw[k6 (kG h0),k6 (by decide),k5 (by rw[kH];omega),kG h0,if_neg h0]
   exact⟨_,rfl,tn_rle rfl rfl (by omega)⟩
 ·rw[k6 rfl,k6 rfl,k5 rfl,k5 (by rw[kH];omega)]
  exact⟨_,rfl,tn_rle rfl rfl (by omega)⟩
 ·rw[k5 rfl,k6 rfl,k5 rfl,k5 (by rw[kH];omega)]
  exact⟨_,rfl,tn_rle rfl rfl (by omega)⟩
 ·rw[k5 rfl,k5 rfl,k5 (by decide),k5 (by rw[kH];omega)]
  exact⟨_,rfl,tn_rle rfl rfl (by omega)⟩
def g93:Spec:=fun args hs K=>match args,hs with
 | [.agg [hv,.q t k],.agg [gv,.q s l]],[]=>match bof hv,bof gv with
  | some h,some g=>match l with
   | 1=>.br (qg (g=false/\s=0/\k<=50000)) (K (.agg [.b h,.q (ftT h t) k]) []) (.no 1)
   | l=>.br (Nat.ble k 50000&&Nat.ble 1 k&&Nat.ble l 50000&&Nat.ble 1 l) (K (.agg [.b (thH h t g s),.q (thT h t g s) (2*k+2*l+3)]) []) (.no 1)
  | _,_=>.no 1
 | _,_=>.no 1
theorem RepL_get {w:World} {S:Nat->Prop} {μ:Mu}:∀ {vs:List PV} {cs:List Value},RepL w S μ vs cs->∀ v,v∈vs->∃ ds,RepC w S μ v ds:=by
 intro vs
 induction vs with
 | nil=>intro cs _ v hv;cases hv
 | cons a vs ih=>
  intro cs h v hv
  cases h with
  | cons _ _ _ cs ds h h'=>
   rcases List.mem_cons.1 hv with rfl|hv
   ·exact⟨_,h⟩
   ·exact ih h' v hv
theorem RepC_q {w:World} {S:Nat->Prop} {μ:Mu} {x:Rat} {n:Nat} {cs:List Value} (h:RepC w S μ (.q x n) cs):sz x<=n:=by cases h;assumption
theorem RepV_agg {w:World} {S:Nat->Prop} {μ:Mu} {vs:List PV} {x:Value} (h:RepV w S μ (.agg vs) x) (v:PV) (hv:v∈vs):∃ ds,RepC w S μ v ds:=by
 cases h with
 | cell _ _ _ hv' _=>cases hv'
 | agg _ _ cs _ hc=>
  cases hc with
  | agg _ _ _ hl=>exact RepL_get hl v hv
theorem then_sz {hv:PV} {t:Rat} {k:Nat} {b:PV} (w:World) (S:Nat->Prop) (μ:Mu) (vs:List Value) (h:RepVL w S μ [.agg [hv,.q t k],b] vs):sz t<=k:=by
 cases h with
 | cons _ _ _ _ _ h _=>
  obtain⟨ds,hd⟩:=RepV_agg h (.q t k) (by simp)
  exact RepC_q hd
include hG in
theorem gk93 (hT:qp G):qc prog G 170 g93:=by
 intro args hs K x h
 unfold g93 at h
 split at h
 case h_2=>cases h
 rename_i hv t k gv s l
 split at h
 case h_2=>cases h
 rename_i b g hb hg
 have hargs:ArgsLe [.agg [hv,.q t k],.agg [gv,.q s l]] [.agg [.b b,.q t k],.agg [.b g,.q s l]]:=.cons (tn_le hb rfl (Nat.le_refl _)) (.cons (tn_le hg rfl (Nat.le_refl _)) .nil)
 split at h
 ·obtain⟨hc,hr⟩:=k8 h
  obtain⟨rfl,rfl,hk⟩:=decP_iff.1 hc
  refine⟨_,_,?_,hr⟩
  refine PC.args hargs (pc_assume _ then_sz fun hq => ?_)
  have hk1:=(sz_lt hq).2.2
  obtain⟨r,k1,k2⟩:=then_key b t k false 0 1 hk (by omega) hk1 (by omega)
  refine((qj hG (orcg93 hG hT) mix enter93 (L:=[]) (pol:={}) (kA (by kernel_rfl)) k1).le k2 (.refl _)).le ?_ (.refl _)
  have e1:thH b t false 0=b:=by
   rw[thH,qh]
   cases b
   ·simp only[Bool.false_eq_true,if_false]
    exact kG (by grind)
   ·rfl
  have e2:thT b t false 0=ftT b t:=by
   rw[thT,ftT,qh,qh]
   cases b
   ·simp only[Bool.false_eq_true,if_false]
    rw[if_neg (by grind)]
    grind
   ·rfl
  rw[e1,e2]
  refine rle_of_vle (fun _=>rfl) (fun _=>rfl) (VLe.agg (qM (.refl _) (qM (vle_qq ?_) vll0)))
  rw[ftT,qh]
  cases b
  ·exact hq
  ·exact Nat.le_trans (show sz 0<=1 by decide) hk1
 ·obtain⟨hc,hr⟩:=k8 h
  simp only[kD,kH]at hc
  obtain⟨r,k1,k2⟩:=then_key b t k g s l (by omega) (by omega) (by omega) (by omega)
  exact⟨_,_,PC.args hargs ((qj hG (orcg93 hG hT) mix enter93 (L:=[]) (pol:={}) (kA (by kernel_rfl)) k1).le k2 (.refl _)),hr⟩
end
section
open Go
theorem getD_mid {α:Type} (d:α) (A B:List α) (a:α):(A++a::B).getD A.length d=a:=by simp[List.getD_eq_getElem?_getD]
theorem set_mid {α:Type} (A B:List α) (a b:α):(A++a::B).set A.length b=A++b::B:=by simp
theorem rev_swap {α:Type} (d:α) (A M B:List α) (a b:α):
  (A++a::(M++b::B)).getD A.length d=a/\(A++a::(M++b::B)).getD (A.length+M.length+1) d=b/\
  ((A++a::(M++b::B)).set A.length b).set (A.length+M.length+1) a=(A++[b])++(M++(a::B)):=by
 have e:A++a::(M++b::B)=(A++a::M)++b::B:=by simp
 have l:A.length+M.length+1=(A++a::M).length:=by simp;omega
 have l2:A.length+M.length+1=(A++b::M).length:=by simp;omega
 refine⟨getD_mid d A _ a,?_,?_⟩
 ·rw[e,l];exact getD_mid d _ B b
 ·rw[set_mid,l2,show A++b::(M++b::B)=(A++b::M)++b::B by simp,set_mid]
  simp
theorem list_ends {α:Type} (l:List α):l.length<=1\/∃ a M b,l=a::(M++[b]):=by
 cases l with
 | nil=>exact .inl (by simp)
 | cons a t=>
  rcases List.eq_nil_or_concat t with h|⟨M,b,h⟩
  ·exact .inl (by simp[h])
  ·exact .inr ⟨a,M,b,by rw[h];simp⟩
theorem rev_goes {α:Type} {R:LS->Exit->LS->Prop} (st:List α->Int->Int->LS) (N:Nat)
  (hstep:∀ (A M B:List α) (a b:α),(A++a::(M++b::B)).length=N->R (st (A++a::(M++b::B)) A.length ((A.length+M.length+1:Nat):Int)) .normal (st ((A++[b])++(M++(a::B))) ((A.length+1:Nat):Int) ((A.length+M.length:Nat):Int)))
  (hend:∀ (A M B:List α),(A++(M++B)).length=N->M.length<=1->∀ (i j:Int),i=A.length->j=(A.length:Int)+M.length-1->R (st (A++(M++B)) i j) (.exit 0) (st (A++(M++B)) i j)):
  ∀ (n:Nat) (A M B:List α) (i j:Int),(A++(M++B)).length=N->M.length<=n->i=A.length->j=(A.length:Int)+M.length-1->∃ i' j',Goes R (st (A++(M++B)) i j) (.exit 0) (st (A++(M.reverse++B)) i' j')/\i'=(A.length+M.length/2:Nat)/\j'=(A.length:Int)+M.length-1-(M.length/2:Nat)
 | n,A,M,B,i,j,hN,hn,hi,hj=>by
  rcases list_ends M with h|⟨a,M',b,rfl⟩
  ·have hr:M.reverse=M:=by
    cases M with
    | nil=>rfl
    | cons a t=>
     have h':t.length+1<=1:=h
     have:t=[]:=List.eq_nil_of_length_eq_zero (by omega)
     subst this;rfl
   refine⟨i,j,?_,by rw[hi,show M.length/2=0 by omega];simp,by rw[hj,show M.length/2=0 by omega];simp⟩
   rw[hr]
   exact .last _ _ _ (hend A M B hN h i j hi hj) (by simp)
  ·match n,hn with
   | n+1,hn=>
    simp only[kI,List.length_append,kJ]at hn hj
    obtain⟨i',j',h1,h2,h3⟩:=rev_goes st N hstep hend n (A++[b]) M' (a::B) ((A.length+1:Nat):Int) ((A.length+M'.length:Nat):Int) (by rw[<-hN];simp) (by omega) (by simp) (by simp;omega)
    refine⟨i',j',?_,?_,?_⟩
    ·have e1:A++(a::(M'++[b])++B)=A++a::(M'++b::B):=by simp
     have e2:A++((a::(M'++[b])).reverse++B)=A++[b]++(M'.reverse++a::B):=by simp
     rw[e1,e2,hi,show j=((A.length+M'.length+1:Nat):Int) by omega]
     exact .more _ _ _ _ (hstep A M' B a b (by rw[<-e1];exact hN)) h1
    ·rw[h2];simp;omega
    ·rw[h3];simp;omega
end
section
open Go Tryz
set_option maxRecDepth 100000
variable {G:World->(Nat->Prop)->Prop} (hG:GOk G)
def b131:Code:=(qi (qd f145)).getD 0 .skip
def pol131:Pol:={live:=[(1,[0,2,3])]}
theorem enter131:Enters prog 145 f145 (qd f145):=⟨func145,by kernel_rfl,rfl⟩
theorem r131 (n:Nat) (xs:List Int) (i j:Int):qe prog [] [] pol131 f145.ntmps 1 [0,2,3] b131 ⟨[.sl 0 1 0 n,.i .i64 i,.i .i64 j],[some ⟨1,.ints .u8 xs⟩]⟩=
 Tr.br (decide (i<j)) (.br (ix (j) ((n:Int))) (.br ((0+j.toNat+1).ble xs.length) (.br (ix (i) ((n:Int))) (.br ((0+i.toNat+1).ble xs.length) (.br (ix (i) ((n:Int))) (.br ((0+i.toNat+1).ble xs.length) (.br (ix (j) ((n:Int))) (.br ((0+j.toNat+1).ble (xs.set (0+i.toNat) (xs.getD (0+j.toNat) (0:Int))).length) (.br (ib (i+1)) (.br (ib (j-1)) (.ok (.out .normal (LS.mk [.sl 0 1 0 n,.i .i64 (i+1),.i .i64 (j-1)] [some (.mk 1 (.ints .u8 ((xs.set (0+i.toNat) (xs.getD (0+j.toNat) (0:Int))).set (0+j.toNat) (xs.getD (0+i.toNat) (0:Int)))))]))) (.no 3003)) (.no 3005)) (.no 4001)) (.no 4002)) (.no 4003)) (.no 4004)) (.no 4005)) (.no 4006)) (.no 4009)) (.no 4010)) (.ok (.out (.exit 0) (LS.mk [.sl 0 1 0 n,.i .i64 i,.i .i64 j] [some (.mk 1 (.ints .u8 xs))]))):=by kernel_rfl
def st131 (xs:List Int) (i j:Int):LS:=⟨[.sl 0 1 0 xs.length,.i .i64 i,.i .i64 j],[some ⟨1,.ints .u8 xs⟩]⟩
theorem step131 (A M B:List Int) (a b:Int) (hs:(A++a::(M++b::B)).length<=1073741824):
  (qe prog [] [] pol131 f145.ntmps 1 [0,2,3] b131 (st131 (A++a::(M++b::B)) A.length ((A.length+M.length+1:Nat):Int))).run=
   some (.out .normal (st131 ((A++[b])++(M++(a::B))) ((A.length+1:Nat):Int) ((A.length+M.length:Nat):Int))):=by
 have hl:(A++a::(M++b::B)).length=A.length+M.length+B.length+2:=by simp;omega
 have hl2:((A++[b])++(M++(a::B))).length=A.length+M.length+B.length+2:=by simp;omega
 obtain⟨g1,g2,g3⟩:=rev_swap (0:Int) A M B a b
 have hs3:((A++a::(M++b::B)).set A.length b).length=A.length+M.length+B.length+2:=by rw[List.length_set,hl]
 unfold st131
 rw[r131]
 have e0:0+((A.length:Nat):Int).toNat=A.length:=by omega
 have e1:0+((A.length+M.length+1:Nat):Int).toNat=A.length+M.length+1:=by omega
 rw[e0,e1,g1,g2]
 repeat rw[k5 (by simp only[kD,kE,kH];omega)]
 rw[k7,g3,hl,hl2,show((A.length:Nat):Int)+1=((A.length+1:Nat):Int) by omega,show((A.length+M.length+1:Nat):Int)-1=((A.length+M.length:Nat):Int) by omega]
include hG in
theorem goes131 (xs:List Int) (hs:xs.length<=1073741824) (j:Int) (hj:j=(xs.length:Int)-1):∃ i' j',Goes (Rnd prog G f145.ntmps 1 [0,2,3] b131) (st131 xs 0 j) (.exit 0) (st131 xs.reverse i' j')/\
  i'=(xs.length/2:Nat)/\j'=(xs.length:Int)-1-(xs.length/2:Nat):=by
 have h:=rev_goes (R:=Rnd prog G f145.ntmps 1 [0,2,3] b131) st131 xs.length ?_ ?_ xs.length [] xs [] 0 j (by simp) (Nat.le_refl _) rfl (by simp;omega)
 ·obtain⟨i',j',h1,h2,h3⟩:=h
  simp only[List.nil_append,List.append_nil,kJ]at h1 h2 h3
  exact⟨i',j',h1,by omega,by omega⟩
 ·intro A M B a b hN
  exact qb hG OrcOK.nil mix (L:=[]) (pol:=pol131) (O:=[]) (kA (by kernel_rfl)) (Nat.le_refl _) (step131 A M B a b (by omega))
 ·intro A M B hN hM i j hi hj
  refine qb hG OrcOK.nil mix (L:=[]) (pol:=pol131) (O:=[]) (kA (by kernel_rfl)) (Nat.le_refl _) ?_
  unfold st131
  rw[r131,k6 (kG (by omega)),k7]
def l131:qA:=fun ls K=>match ls with
 | ⟨[.sl 0 1 0 n,.i .i64 i,.i .i64 j],[some ⟨1,.ints .u8 xs⟩]⟩=>.br (decide (n=xs.length)&&decide (i=0)&&decide (j=(xs.length:Int)-1)&&decide (xs.length<=1073741824))
   (K (.exit 0) (st131 xs.reverse (xs.length/2:Nat) ((xs.length:Int)-1-(xs.length/2:Nat)))) (.no 1)
 | _=>.no 1
theorem e131 (n:Nat) (xs:List Int):evF prog [] [(1,l131)] pol131 f145 [.sl 0 1 0 n] [⟨1,.ints .u8 xs⟩] ql=
 Tr.br (ib ((n:Int)-1)) (.br (decide (n=xs.length)&&decide ((0:Int)=0)&&decide ((n:Int)-1=(xs.length:Int)-1)&&decide (xs.length<=1073741824)) (.ok (.ret (.tup []) [Blk.mk 1 (.ints .u8 xs.reverse)])) (.no 1)) (.no 1003):=by kernel_rfl
theorem e131n (x:Unit):evF prog [] [(1,unr prog [] [] pol131 f145.ntmps 0 [0,2,3] b131 1)] pol131 f145 [.nil] [] ql=
 Tr.br (ib ((0:Int)-1)) (.br (decide ((0:Int)<0-1)) (.no 4010) (.ok (.ret (.tup []) []))) (.no 1003):=by kernel_rfl
def s131:Spec:=fun args hs K=>match args,hs with
 | [.sl 0 1 0 n],[⟨1,.ints .u8 xs⟩]=>.br (decide (n=xs.length)&&decide (xs.length<=1073741824)) (K (.tup []) [⟨1,.ints .u8 xs.reverse⟩]) (.no 1)
 | [.nil],[]=>K (.tup []) []
 | _,_=>.no 1
include hG in
theorem ok131:qc prog G 145 s131:=by
 intro args hs K x h
 unfold s131 at h
 split at h
 ·rename_i n xs
  obtain⟨hc,hr⟩:=k8 h
  simp only[kD,kE]at hc
  obtain⟨rfl,hs⟩:=hc
  refine⟨_,_,qj hG OrcOK.nil mix enter131 (hs:=[⟨1,.ints .u8 xs⟩]) (L:=[(1,l131)]) (pol:=pol131) (O:=[]) (qN (b:=b131) (live:=[0,2,3]) (sp:=l131) (m:=1) (by kernel_rfl) (by kernel_rfl) (by kernel_rfl) ?_) ?_,hr⟩
  ·intro ls K x hm h
   unfold l131 at h
   split at h
   case h_2=>cases h
   rename_i n i j xs
   obtain⟨hc,hr⟩:=k8 h
   simp only[kD,kE]at hc
   obtain⟨⟨⟨rfl,rfl⟩,rfl⟩,hs⟩:=hc
   obtain⟨i',j',h1,rfl,rfl⟩:=goes131 hG xs hs _ rfl
   exact⟨_,_,qx h1,hr⟩
  ·rw[e131]
   repeat rw[k5 (by simp only[kD,kE,eq_self,true_and,and_true];omega)]
   rw[k7]
 ·refine⟨_,_,qj hG OrcOK.nil mix enter131 (hs:=[]) (L:=[(1,unr prog [] [] pol131 f145.ntmps 0 [0,2,3] b131 1)]) (pol:=pol131) (O:=[]) (qN (b:=b131) (live:=[0,2,3]) (m:=0) (by kernel_rfl) (by kernel_rfl) (by kernel_rfl) (unr_ok (pol:=pol131) (L:=[]) hG OrcOK.nil mix (kA (by kernel_rfl)) 1)) ?_,h⟩
  rw[e131n ()]
  rfl
 ·cases h
def b119:Code:=(qi (qd f103)).getD 0 .skip
def pol119:Pol:={live:=[(2,[0,3])],own:=[13],wr:=[(145,[0])]}
theorem enter119:Enters prog 103 f103 (qd f103):=⟨func103,by kernel_rfl,rfl⟩
theorem r119n (x:Int):qe prog [] [] pol119 f103.ntmps 0 [0,3] b119 ⟨[.i .i64 x,.nil],[]⟩=
 Tr.br (decide (0<x)) (.br (!decide ((256:Int)=0)) (.br (Nat.blt (0:Nat) [IntKind.u8.wrap (x.tmod (256:Int))].length&&[IntKind.u8.wrap (x.tmod (256:Int))].length.ble 4294967296) (.br (!decide ((256:Int)=0)&&(ib (x.tdiv (256:Int)))) (.ok (.out .normal (LS.mk [.i .i64 (x.tdiv (256:Int)),.sl 0 1 0 1] [some (.mk 1 (.ints .u8 [IntKind.u8.wrap (x.tmod (256:Int))]))]))) (.no 4002)) (.no 5002)) (.no 5005)) (.ok (.out (.exit 0) (LS.mk [.i .i64 x,.nil] []))):=by kernel_rfl
theorem r119 (n:Nat) (x:Int) (xs:List Int):qe prog [] [] pol119 f103.ntmps 0 [0,3] b119 ⟨[.i .i64 x,.sl 0 1 0 n],[some ⟨1,.ints .u8 xs⟩]⟩=
 Tr.br (decide (0<x)) (.br (!decide ((256:Int)=0)) (.br (n.ble xs.length&&(n+[IntKind.u8.wrap (x.tmod (256:Int))].length).ble 4294967296) (.br (!decide ((256:Int)=0)&&(ib (x.tdiv (256:Int)))) (.ok (.out .normal (LS.mk [.i .i64 (x.tdiv (256:Int)),.sl 0 1 0 (n+[IntKind.u8.wrap (x.tmod (256:Int))].length)] [some (.mk 1 (.ints .u8 (List.take n (List.drop 0 xs)++[IntKind.u8.wrap (x.tmod (256:Int))])))]))) (.no 4002)) (.no 5002)) (.no 5005)) (.ok (.out (.exit 0) (LS.mk [.i .i64 x,.sl 0 1 0 n] [some (.mk 1 (.ints .u8 xs))]))):=by kernel_rfl
def st119 (x:Int) (xs:List Int):LS:=match xs with
 | []=>⟨[.i .i64 x,.nil],[]⟩
 | xs=>⟨[.i .i64 x,.sl 0 1 0 xs.length],[some ⟨1,.ints .u8 xs⟩]⟩
theorem step119 (n:Nat) (xs:List Int) (hn:n≠0) (h63:n<9223372036854775808) (hx:xs.length<=1048576):
  (qe prog [] [] pol119 f103.ntmps 0 [0,3] b119 (st119 n xs)).run=some (.out .normal (st119 ((n/256:Nat):Int) (xs++[((n%256:Nat):Int)]))):=by
 have h1:(n:Int).tdiv 256=((n/256:Nat):Int):=tdiv_nat n 256
 have h2:(n:Int).tmod 256=((n%256:Nat):Int):=tmod_nat n 256
 have h3:IntKind.u8.wrap ((n%256:Nat):Int)=((n%256:Nat):Int):=w8 (by omega) (by omega)
 have h4:n/256<=n:=Nat.div_le_self _ _
 cases xs with
 | nil=>
  show(qe prog [] [] pol119 f103.ntmps 0 [0,3] b119 ⟨[.i .i64 n,.nil],[]⟩).run=_
  rw[r119n,h1,h2,h3]
  repeat rw[k5 (by simp only[kD,kE,kH,Nat.blt_eq,kK,kM,kI,kJ];omega)]
  rw[k7]
  rfl
 | cons y ys=>
  show(qe prog [] [] pol119 f103.ntmps 0 [0,3] b119 ⟨[.i .i64 n,.sl 0 1 0 (y::ys).length],[some ⟨1,.ints .u8 (y::ys)⟩]⟩).run=_
  rw[r119,h1,h2,h3]
  repeat rw[k5 (by simp only[kD,kE,kH,kK,kM,kI,kJ]at hx ⊢;omega)]
  rw[k7,List.drop_zero,List.take_length]
  show _=some (Res.out .normal ⟨[.i .i64 ((n/256:Nat):Int),.sl 0 1 0 ((y::ys)++[((n%256:Nat):Int)]).length],[some ⟨1,.ints .u8 ((y::ys)++[((n%256:Nat):Int)])⟩]⟩)
  simp
include hG in
theorem goes119:∀ (f n:Nat) (xs:List Int),n<256^f->n<9223372036854775808->xs.length+f<=1048576->Goes (Rnd prog G f103.ntmps 0 [0,3] b119) (st119 n xs) (.exit 0) (st119 0 (xs++dg 256 n)):=by
 intro f
 induction f with
 | zero=>
  intro n xs h1 h2 h3
  have:n=0:=by simpa using h1
  subst this
  rw[dg_zero,List.append_nil]
  refine .last _ _ _ (qb hG OrcOK.nil mix (L:=[]) (pol:=pol119) (O:=[]) (kA (by kernel_rfl)) (Nat.zero_le _) ?_) (by simp)
  cases xs with
  | nil=>exact(congrArg Tr.run (r119n 0)).trans rfl
  | cons y ys=>exact(congrArg Tr.run (r119 (y::ys).length 0 (y::ys))).trans rfl
 | succ f ih=>
  intro n xs h1 h2 h3
  by_cases h0:n=0
  ·subst h0
   rw[dg_zero,List.append_nil]
   refine .last _ _ _ (qb hG OrcOK.nil mix (L:=[]) (pol:=pol119) (O:=[]) (kA (by kernel_rfl)) (Nat.zero_le _) ?_) (by simp)
   cases xs with
   | nil=>exact(congrArg Tr.run (r119n 0)).trans rfl
   | cons y ys=>exact(congrArg Tr.run (r119 (y::ys).length 0 (y::ys))).trans rfl
  ·refine .more _ _ _ _ (qb hG OrcOK.nil mix (L:=[]) (pol:=pol119) (O:=[]) (kA (by kernel_rfl)) (Nat.zero_le _) (step119 n xs h0 h2 (by omega))) ?_
   have h:=ih (n/256) (xs++[((n%256:Nat):Int)]) (by rw[Nat.div_lt_iff_lt_mul (by omega)];rwa[Nat.pow_succ]at h1) (by omega) (by simp;omega)
   rw[dg_pos (by omega) h0]
   simpa using h
def l119:qA:=fun ls K=>match ls with
 | ⟨[.i .i64 x,.nil],[]⟩=>.br (decide (0<x)&&decide (x<9223372036854775808)) (K (.exit 0) ⟨[.i .i64 0,.sl 0 1 0 (dg 256 x.toNat).length],[some ⟨1,.ints .u8 (dg 256 x.toNat)⟩]⟩)
   (.br (decide (x=0)) (K (.exit 0) ⟨[.i .i64 0,.nil],[]⟩) (.no 1))
 | _=>.no 1
theorem e119 (x:Int):evF prog [(145,s131)] [(2,l119)] pol119 f103 [.i .i64 x] [] ql=
 Tr.br (decide (0<x)&&decide (x<9223372036854775808)) (.br (decide ((dg (256:Nat) x.toNat).length=(dg (256:Nat) x.toNat).length)&&decide ((dg (256:Nat) x.toNat).length<=1073741824)) (.br ((0+(dg (256:Nat) x.toNat).length).ble (dg (256:Nat) x.toNat).reverse.length) (.ok (.ret (.s (ByteArray.mk (List.map (fun(n:Int)=>UInt8.ofNat n.toNat) (List.take (dg (256:Nat) x.toNat).length (List.drop 0 (dg (256:Nat) x.toNat).reverse))).toArray)) [])) (.no 7002)) (.no 1)) (.br (decide (x=0)) (.ok (.ret (.s (ByteArray.mk #[])) [])) (.no 1)):=by kernel_rfl
theorem dg_nbl (n:Nat):((dg 256 n).reverse.map fun x=>UInt8.ofNat x.toNat)=nbl n:=by
 induction n using Nat.strongRecOn with
 | _ n ih=>
  by_cases h:n=0
  ·subst h;rfl
  ·rw[dg_pos (by omega) h,nbl_pos h,List.reverse_cons,List.map_append,ih (n/256) (by omega)]
   have e:((n%256:Nat):Int).toNat=n%256:=Int.toNat_natCast _
   simp only[List.map_cons,List.map_nil,e]
def s119:Spec:=fun args hs K=>match args,hs with
 | [.i .i64 x],[]=>.br (decide (0<=x)&&decide (x<9223372036854775808)) (K (.s (nb x.toNat)) []) (.no 1)
 | _,_=>.no 1
include hG in
theorem ok119:qc prog G 103 s119:=by
 refine qq hG (.cons (ok131 hG) .nil) mix enter119 (L:=[(2,l119)]) (pol:=pol119) fun args hs K x h => ?_
 unfold s119 at h
 split at h
 case h_2=>cases h
 rename_i n
 obtain⟨hc,hr⟩:=k8 h
 simp only[kD,kE]at hc
 refine⟨qN (b:=b119) (live:=[0,3]) (sp:=l119) (m:=0) (by kernel_rfl) (by kernel_rfl) (by kernel_rfl) ?_,_,_,_,?_,.refl _,hr⟩
 ·intro ls K x hm h
  unfold l119 at h
  split at h
  case h_2=>cases h
  rename_i n
  by_cases h0:0<n
  ·by_cases h1:n<9223372036854775808
   ·rw[k5 (by simp only[kD,kE];omega)]at h
    obtain⟨k,rfl⟩:=Int.eq_ofNat_of_zero_le (show 0<=n by omega)
    have hg:=goes119 hG 8 k [] (by omega) (by omega) (by simp)
    rw[Int.toNat_natCast]at h
    refine⟨_,_,qx hg,?_⟩
    rw[List.nil_append]
    have:st119 0 (dg 256 k)=⟨[.i .i64 0,.sl 0 1 0 (dg 256 k).length],[some ⟨1,.ints .u8 (dg 256 k)⟩]⟩:=by
     rw[dg_pos (by omega) (show k≠0 by omega)];rfl
    rw[this];exact h
   ·rw[k6 (by rw[kG h1,Bool.and_false]),k6 (kG (by omega))]at h
    cases h
  ·rw[k6 (by rw[kG h0,Bool.false_and])]at h
   obtain⟨hc,hr⟩:=k8 h
   have:=of_decide_eq_true hc
   subst this
   exact⟨_,_,qx (goes119 hG 0 0 [] (by omega) (by omega) (by simp)),hr⟩
 ·rw[e119]
  by_cases h0:0<n
  ·have hl:(dg 256 n.toNat).length<=8:=dg_length_le (by omega) (by omega)
   have hlr:(dg 256 n.toNat).reverse.length=(dg 256 n.toNat).length:=List.length_reverse
   have ht:List.take (dg 256 n.toNat).length (List.drop 0 (dg 256 n.toNat).reverse)=(dg 256 n.toNat).reverse:=by
    rw[List.drop_zero,List.take_of_length_le (by omega)]
   rw[k5 (by simp only[kD,kE];omega),k5 (by simp only[kD,kE,eq_self,true_and];omega),k5 (by rw[kH];omega),k7,ht,dg_nbl]
   rfl
  ·have:n=0:=by omega
   subst this
   rfl
def b81:Code:=(qi (qd f55)).getD 0 .skip
def pol81:Pol:={live:=[(2,[0,1,4,5,6])]}
theorem enter81:Enters prog 55 f55 (qd f55):=⟨func55,by kernel_rfl,rfl⟩
theorem r81 (n d a b:Int) (z1 z2:ByteArray):qe prog [] [] pol81 f55.ntmps 0 [0,1,4,5,6] b81 ⟨[.i .i64 n,.i .i64 d,.ptr 0 3 0 0 [],.i .i64 a,.i .i64 b],[some ⟨3,.vals [.agg [.bl false,.s z1,.s z2]]⟩]⟩=
 Tr.br (decide (0<b)) (.br (!decide (b=0)) (.ok (.out .normal (LS.mk [.i .i64 n,.i .i64 d,.ptr 0 3 0 0 [],.i .i64 b,.i .i64 (a.tmod b)] [some (.mk 3 (.vals [.agg [.bl false,.s z1,.s z2]]))]))) (.no 4003)) (.ok (.out (.exit 0) (LS.mk [.i .i64 n,.i .i64 d,.ptr 0 3 0 0 [],.i .i64 a,.i .i64 b] [some (.mk 3 (.vals [.agg [.bl false,.s z1,.s z2]]))]))):=by kernel_rfl

def st81 (n d:Int) (z1 z2:ByteArray) (a b:Int):LS:=⟨[.i .i64 n,.i .i64 d,.ptr 0 3 0 0 [],.i .i64 a,.i .i64 b],[some ⟨3,.vals [.agg [.bl false,.s z1,.s z2]]⟩]⟩
include hG in
theorem goes81 (n d:Int) (z1 z2:ByteArray):∀ (y x:Nat),Goes (Rnd prog G f55.ntmps 0 [0,1,4,5,6] b81) (st81 n d z1 z2 x y) (.exit 0) (st81 n d z1 z2 (Nat.gcd x y) 0):=by
 intro y
 induction y using Nat.strongRecOn with
 | _ y ih=>
  intro x
  by_cases h:y=0
  ·subst h
   refine .last _ _ _ (qb hG OrcOK.nil mix (L:=[]) (pol:=pol81) (O:=[]) (kA (by kernel_rfl)) (Nat.zero_le _) ?_) (by simp)
   unfold st81
   rw[r81,k6 (by decide),k7,Nat.gcd_zero_right];rfl
  ·refine .more _ (st81 n d z1 z2 y (x%y:Nat)) _ _ (qb hG OrcOK.nil mix (L:=[]) (pol:=pol81) (O:=[]) (kA (by kernel_rfl)) (Nat.zero_le _) ?_) ?_
   ·unfold st81
    rw[r81,k5 (kF (by omega)),k5 (by rw[kG (by omega)];rfl),k7,tmod_nat]
   ·have:=ih (x%y) (Nat.mod_lt _ (by omega)) y
    rwa[Nat.gcd_comm y,<-Nat.gcd_rec,Nat.gcd_comm y]at this
def l81:qA:=fun ls K=>match ls with
 | ⟨[.i .i64 n,.i .i64 d,.ptr 0 3 0 0 [],.i .i64 a,.i .i64 b],[some ⟨3,.vals [.agg [.bl false,.s z1,.s z2]]⟩]⟩=>.br (decide (0<=a)&&decide (0<=b)) (K (.exit 0) (st81 n d z1 z2 (Nat.gcd a.toNat b.toNat) 0)) (.no 1)
 | _=>.no 1
theorem e81 (n d:Int):evF prog [(103,s119)] [(2,l81)] pol81 f55 [.i .i64 n,.i .i64 d] [] ql=
 Tr.br (ib (0-n)) (.br (decide (0<=if 0-n>n then 0-n else n)&&decide (0<=d)) (.br (!decide ((↑((if 0-n>n then 0-n else n).toNat.gcd d.toNat):Int)=0)&&(ib (n.tdiv (↑((if 0-n>n then 0-n else n).toNat.gcd d.toNat):Int)))) (.br (!decide ((↑((if 0-n>n then 0-n else n).toNat.gcd d.toNat):Int)=0)&&(ib (d.tdiv (↑((if 0-n>n then 0-n else n).toNat.gcd d.toNat):Int)))) (.br (ib (0-n.tdiv (↑((if 0-n>n then 0-n else n).toNat.gcd d.toNat):Int))) (.br (decide (0<=if 0-n.tdiv (↑((if 0-n>n then 0-n else n).toNat.gcd d.toNat):Int)>n.tdiv (↑((if 0-n>n then 0-n else n).toNat.gcd d.toNat):Int)then 0-n.tdiv (↑((if 0-n>n then 0-n else n).toNat.gcd d.toNat):Int)else n.tdiv (↑((if 0-n>n then 0-n else n).toNat.gcd d.toNat):Int))&&decide ((if 0-n.tdiv (↑((if 0-n>n then 0-n else n).toNat.gcd d.toNat):Int)>n.tdiv (↑((if 0-n>n then 0-n else n).toNat.gcd d.toNat):Int)then 0-n.tdiv (↑((if 0-n>n then 0-n else n).toNat.gcd d.toNat):Int)else n.tdiv (↑((if 0-n>n then 0-n else n).toNat.gcd d.toNat):Int))<9223372036854775808)) (.br (ix (d.tdiv (↑((if 0-n>n then 0-n else n).toNat.gcd d.toNat):Int)) ((9223372036854775808:Int))) (.ok (.ret (.agg [.b (decide (n.tdiv (↑((if 0-n>n then 0-n else n).toNat.gcd d.toNat):Int)<0)),.s (nb (if 0-n.tdiv (↑((if 0-n>n then 0-n else n).toNat.gcd d.toNat):Int)>n.tdiv (↑((if 0-n>n then 0-n else n).toNat.gcd d.toNat):Int)then 0-n.tdiv (↑((if 0-n>n then 0-n else n).toNat.gcd d.toNat):Int)else n.tdiv (↑((if 0-n>n then 0-n else n).toNat.gcd d.toNat):Int)).toNat),.s (nb (d.tdiv (↑((if 0-n>n then 0-n else n).toNat.gcd d.toNat):Int)).toNat)]) [])) (.no 1)) (.no 1)) (.no 6007)) (.no 5003)) (.no 5006)) (.no 1)) (.no 2005):=by kernel_rfl
def s81:Spec:=fun args hs K=>match args,hs with
 | [.i .i64 n,.i .i64 d],[]=>.br (decide (0<d)&&decide (d<4611686018427387904)&&decide (-4611686018427387904<n)&&decide (n<4611686018427387904)) (K (.q (mkRat n d.toNat) 64) []) (.no 1)
 | _,_=>.no 1
theorem max_neg (n:Int):(if (0:Int)-n>n then (0:Int)-n else n)=(n.natAbs:Int):=by split<;>omega
theorem mkRat_num_tdiv (n:Int) {k:Nat} (hk:k≠0):n.tdiv ((Nat.gcd n.natAbs k:Nat):Int)=(mkRat n k).num:=by
 rw[Rat.num_mkRat,if_neg hk,Nat.gcd_comm k]
 refine Int.tdiv_eq_ediv_of_dvd ?_
 rw[<-Int.dvd_natAbs];exact_mod_cast Nat.gcd_dvd_left n.natAbs k
theorem mkRat_den_tdiv (n:Int) {k:Nat} (hk:k≠0):(k:Int).tdiv ((Nat.gcd n.natAbs k:Nat):Int)=((mkRat n k).den:Int):=by
 rw[Rat.den_mkRat,if_neg hk,tdiv_nat,Nat.gcd_comm k]
include hG in
theorem ok81:qc prog G 55 s81:=by
 refine qq hG (.cons (ok119 hG) .nil) mix enter81 (L:=[(2,l81)]) (pol:=pol81) fun args hs K x h => ?_
 unfold s81 at h
 split at h
 case h_2=>cases h
 rename_i n d
 obtain⟨hc,hr⟩:=k8 h
 simp only[kD,kE]at hc
 refine⟨qN (b:=b81) (live:=[0,1,4,5,6]) (sp:=l81) (m:=0) (by kernel_rfl) (by kernel_rfl) (by kernel_rfl) ?_,?_⟩
 ·intro ls K x hm h
  unfold l81 at h
  split at h
  case h_2=>cases h
  rename_i n d a b z1 z2
  obtain⟨hc,hr⟩:=k8 h
  simp only[kD,kE]at hc
  obtain⟨a,rfl⟩:=Int.eq_ofNat_of_zero_le hc.1
  obtain⟨b,rfl⟩:=Int.eq_ofNat_of_zero_le hc.2
  exact⟨_,_,qx (goes81 hG n d z1 z2 b a),hr⟩
 ·obtain⟨k,rfl⟩:=Int.eq_ofNat_of_zero_le (show 0<=d by omega)
  have hk:k≠0:=by omega
  have hg:0<Nat.gcd n.natAbs k:=Nat.gcd_pos_of_pos_right _ (by omega)
  rw[e81]
  simp only[max_neg,Int.toNat_natCast,mkRat_num_tdiv n hk,mkRat_den_tdiv n hk]
  have h1:=mkRat_num_le n hk
  have h2:=mkRat_den_le n hk
  have hz:sz (mkRat n k)<=64:=sz_le (by omega) (by omega) (by omega)
  repeat rw[k5 (by simp only[kD,kE,kK,kM];omega)]
  exact⟨_,_,_,rfl,rle_q rfl hz,hr⟩

theorem enter23:Enters prog 65 f65 (qd f65):=⟨func65,by kernel_rfl,rfl⟩
def s23:Spec:=evF prog [(55,s81)] [] {} f65
include hG in
theorem ok23:qc prog G 65 s23:=spec_ev hG (.cons (ok81 hG) .nil) mix enter23 (fun _=>kA (by kernel_rfl))
end
section
open Go
set_option maxRecDepth 100000
variable {G:World->(Nat->Prop)->Prop} (hG:GOk G)
def pol19:Pol:={live:=[(4,[0,1,4,12,13])]}
theorem enter19:Enters Tryz.prog 20 Tryz.f20 (qd Tryz.f20):=⟨Tryz.func20,by kernel_rfl,rfl⟩
end
section
open Go Tryz
set_option maxRecDepth 100000
variable {G:World->(Nat->Prop)->Prop} (hG:GOk G)
theorem enter125:Enters prog 144 f144 (qd f144):=⟨func144,by kernel_rfl,rfl⟩
theorem e125 (x:Rat) (n:Nat):evF prog [(59,s82),(100,s107),(104,s109)] [] {} f144 [.q x n] [] ql=
 Tr.br (decide ((↑(qt x).size:Int)<=3)) (.br (decide ((↑(qu x).size:Int)<=2)) (.br (decide (x.num.natAbs<18446744073709551616)&&decide (x.den<18446744073709551616)) (.br (decide ((1000000:Int)<=9223372036854775807)) (.br (decide (ncmp (bv (qa x.num.natAbs x.num.natAbs []).toArray.toList) (bv (qa (Int.toNat 1000000) (Int.toNat 1000000) []).toArray.toList)<=0)) (.br (decide ((1000:Int)<=9223372036854775807)) (.ok (.ret (.b (decide (ncmp (bv (qa x.den x.den []).toArray.toList) (bv (qa (Int.toNat 1000) (Int.toNat 1000) []).toArray.toList)<=0))) [])) (.no 1)) (.ok (.ret (.bl false) []))) (.no 1)) (.no 1)) (.ok (.ret (.bl false) []))) (.ok (.ret (.bl false) [])):=by kernel_rfl
def smQ (x:Rat):Bool:=decide (x.num.natAbs<=1000000)&&decide (x.den<=1000)
theorem smQ_iff {x:Rat}:smQ x=true↔x.num.natAbs<=1000000/\x.den<=1000:=by simp[smQ]
def s125:Spec:=fun args hs K=>match args,hs with
 | [.q x _],[]=>.br (smQ x) (K (.bl true) []) (.no 1)
 | _,_=>.no 1
include hG in
theorem ok125:qc prog G 144 s125:=by
 refine qq hG (.cons (ok82 hG) (.cons (ok107 hG) (.cons (ok109 hG) .nil))) mix enter125 (L:=[]) (pol:={}) fun args hs K x h => ?_
 unfold s125 at h
 split at h
 case h_2=>cases h
 rename_i x n
 obtain⟨hc,hr⟩:=k8 h
 have hs:=smQ_iff.1 hc
 have a1:(qt x).size<=3:=nb_size_le (k:=3) (by omega)
 have a2:(qu x).size<=2:=nb_size_le (k:=2) (by omega)
 have t1:Int.toNat (1000000:Int)=1000000:=by decide
 have t2:Int.toNat (1000:Int)=1000:=by decide
 have nc:∀ n m:Nat,n<=m->ncmp n m<=0:=by
  intro n m h;unfold ncmp;split
  ·omega
  ·rw[if_neg (by omega)];omega
 refine⟨kA (by kernel_rfl),?_⟩
 rw[e125]
 simp only[bv_nb',bv_nb2]
 rw[k5 (kF (by omega)),k5 (kF (by omega)),k5 (by simp only[kD,kE];omega),k5 (by decide),
  k5 (kF (nc _ _ (by rw[t1];omega))),k5 (by decide)]
 exact⟨_,_,_,rfl,rle_b (kF (nc _ _ (by rw[t2];omega))),hr⟩
def b95:Code:=(qi (qd f96)).getD 0 .skip
def pol95:Pol:={live:=[(2,[2,5,6,7])]}
theorem enter95:Enters prog 96 f96 (qd f96):=⟨func96,by kernel_rfl,rfl⟩
theorem r95 (xs:List Rat) (n i:Int):qe prog [(144,s125)] [] pol95 f96.ntmps 0 [2,5,6,7] b95 ⟨[.bl false,.lst 3 (.rats 64 xs),.i .i64 n,.i .i64 i],[]⟩=
 Tr.br (decide (i<n)) (.br (ix (i) ((xs.length:Int))) (.br (smQ (xs.getD i.toNat 0)) (.br (ib (i+1)) (.ok (.out .normal (LS.mk [.bl false,.lst 3 (.rats 64 xs),.i .i64 n,.i .i64 (i+1)] []))) (.no 7002)) (.no 1)) (.no 4004)) (.ok (.out (.exit 0) (LS.mk [.bl false,.lst 3 (.rats 64 xs),.i .i64 n,.i .i64 i] []))):=by kernel_rfl
def st95 (xs:List Rat) (i:Nat):LS:=⟨[.bl false,.lst 3 (.rats 64 xs),.i .i64 xs.length,.i .i64 i],[]⟩
def l95:qA:=fun ls K=>match ls with
 | ⟨[.bl false,.lst 3 (.rats 64 xs),.i .i64 n,.i .i64 i],[]⟩=>.br (decide (n=xs.length)&&decide (i=0)&&decide (xs.length<=1073741824)&&xs.all smQ) (K (.exit 0) (st95 xs xs.length)) (.no 1)
 | _=>.no 1
include hG in
theorem orc95:OrcOK prog G [(144,s125)]:=.cons (ok125 hG) .nil
include hG in
theorem loop95:qz prog G f96.ntmps 0 [2,5,6,7] b95 l95:=by
 intro ls K y hm h
 unfold l95 at h
 split at h
 case h_2=>cases h
 rename_i xs n i
 obtain⟨hc,hr⟩:=k8 h
 simp only[kD,kE]at hc
 obtain⟨⟨⟨rfl,rfl⟩,hs⟩,ha⟩:=hc
 refine⟨_,_,qx (Goes.count (R:=Rnd prog G f96.ntmps 0 [2,5,6,7] b95) (st95 xs) (e:=.exit 0) (ls':=st95 xs xs.length) (by simp) xs.length 0 (fun j _ hj => ?_) ?_),hr⟩
 ·refine qb hG (orc95 hG) mix (L:=[]) (pol:=pol95) (O:=[(144,s125)]) (kA (by kernel_rfl)) (Nat.zero_le _) ?_
  unfold st95
  rw[r95,k5 (kF (by omega)),k5 (by simp only[kD,kE];omega),k5 (by
   rw[Int.toNat_natCast,List.getD_eq_getElem?_getD,List.getElem?_eq_getElem (show j<xs.length by omega)]
   exact List.all_eq_true.1 ha _ (List.getElem_mem _)),k5 (by simp only[kD,kE];omega),k7]
  rfl
 ·refine qb hG (orc95 hG) mix (L:=[]) (pol:=pol95) (O:=[(144,s125)]) (kA (by kernel_rfl)) (Nat.zero_le _) ?_
  unfold st95
  rw[Nat.zero_add,r95,k6 (kG (by omega)),k7]
theorem e95 (xs:List Rat):evF prog [(144,s125)] [(2,l95)] pol95 f96 [.lst 3 (.rats 64 xs)] [] ql=
 Tr.br (decide ((xs.length:Int)=(xs.length:Int))&&decide ((0:Int)=0)&&decide (xs.length<=1073741824)&&xs.all smQ) (.ok (.ret (.bl true) [])) (.no 1):=by kernel_rfl
def s95:Spec:=fun args hs K=>match args,hs with
 | [.lst 3 (.rats 64 xs)],[]=>.br (decide (xs.length<=1073741824)&&xs.all smQ) (K (.bl true) []) (.no 1)
 | _,_=>.no 1
include hG in
theorem ok95:qc prog G 96 s95:=by
 refine qq hG (orc95 hG) mix enter95 (L:=[(2,l95)]) (pol:=pol95) fun args hs K x h => ?_
 unfold s95 at h
 split at h
 case h_2=>cases h
 rename_i xs
 obtain⟨hc,hr⟩:=k8 h
 simp only[kD,kE]at hc
 refine⟨qN (b:=b95) (live:=[2,5,6,7]) (sp:=l95) (m:=0) (by kernel_rfl) (by kernel_rfl) (by kernel_rfl) (loop95 hG),_,_,_,?_,.refl _,hr⟩
 rw[e95,k5 (by simp only[kD,kE];exact⟨⟨⟨trivial,trivial⟩,hc.1⟩,hc.2⟩),k7]
def b94:Code:=(qi (qd f95)).getD 0 .skip
def pol94:Pol:={live:=[(2,[0,2,5,6])]}
theorem enter94:Enters prog 95 f95 (qd f95):=⟨func95,by kernel_rfl,rfl⟩
theorem r94 (a:ByteArray) (n i:Int):qe prog [] [] pol94 f95.ntmps 0 [0,2,5,6] b94 ⟨[.s a,.bl false,.i .i64 n,.i .i64 i],[]⟩=
 Tr.br (decide (i<n)) (.br (ix (i) ((a.size:Int))) (.br (decide ((↑(a.1.toList.getD i.toNat (0:UInt8)).toNat:Int)<97)) (.ok (.out .ret (LS.mk [.s a,.bl false,.i .i64 n,.i .i64 i] []))) (.br (ix (i) ((a.size:Int))) (.br (decide (122<(↑(a.1.toList.getD i.toNat (0:UInt8)).toNat:Int))) (.ok (.out .ret (LS.mk [.s a,.bl false,.i .i64 n,.i .i64 i] []))) (.br (ib (i+1)) (.ok (.out .normal (LS.mk [.s a,.bl false,.i .i64 n,.i .i64 (i+1)] []))) (.no 7002))) (.no 5003))) (.no 5008)) (.ok (.out (.exit 0) (LS.mk [.s a,.bl false,.i .i64 n,.i .i64 i] []))):=by kernel_rfl
def st94 (a:ByteArray) (i:Nat):LS:=⟨[.s a,.bl false,.i .i64 a.size,.i .i64 i],[]⟩
def isNm (a:ByteArray):Bool:=a.data.toList.all (fun c=>decide (97<=c.toNat)&&decide (c.toNat<=122))&&decide (1<=a.size)&&decide (a.size<=12)
def l94:qA:=fun ls K=>match ls with
 | ⟨[.s a,.bl false,.i .i64 n,.i .i64 i],[]⟩=>.br (decide (n=a.size)&&decide (i=0)&&isNm a) (K (.exit 0) (st94 a a.size)) (.no 1)
 | _=>.no 1
include hG in
theorem loop94:qz prog G f95.ntmps 0 [0,2,5,6] b94 l94:=by
 intro ls K y hm h
 unfold l94 at h
 split at h
 case h_2=>cases h
 rename_i a n i
 obtain⟨hc,hr⟩:=k8 h
 simp only[kD,kE,isNm]at hc
 obtain⟨⟨rfl,rfl⟩,⟨ha,h1⟩,h2⟩:=hc
 have hl:=ba_len a
 refine⟨_,_,qx (Goes.count (R:=Rnd prog G f95.ntmps 0 [0,2,5,6] b94) (st94 a) (e:=.exit 0) (ls':=st94 a a.size) (by simp) a.size 0 (fun j _ hj => ?_) ?_),hr⟩
 ·refine qb hG .nil mix (L:=[]) (pol:=pol94) (O:=[]) (kA (by kernel_rfl)) (Nat.zero_le _) ?_
  have hb:=List.all_eq_true.1 ha (a.data.toList[j]'(by omega)) (List.getElem_mem _)
  simp only[kD,kE]at hb
  have hg:(a.data.toList.getD ((j:Nat):Int).toNat 0)=a.data.toList[j]'(by omega):=by
   rw[Int.toNat_natCast,List.getD_eq_getElem?_getD,List.getElem?_eq_getElem (show j<a.data.toList.length by omega)];rfl
  unfold st94
  rw[r94,hg,k5 (kF (by omega)),k5 (by simp only[kD,kE];omega),k6 (kG (by omega)),k5 (by simp only[kD,kE];omega),k6 (kG (by omega)),k5 (by simp only[kD,kE];omega),k7]
  rfl
 ·refine qb hG .nil mix (L:=[]) (pol:=pol94) (O:=[]) (kA (by kernel_rfl)) (Nat.zero_le _) ?_
  unfold st94
  rw[Nat.zero_add,r94,k6 (kG (by omega)),k7]
theorem e94 (a:ByteArray):evF prog [] [(2,l94)] pol94 f95 [.s a] [] ql=
 Tr.br (decide ((a.size:Int)=(a.size:Int))&&decide ((0:Int)=0)&&isNm a) (.br (decide (1<=(a.size:Int))) (.ok (.ret (.b (decide ((a.size:Int)<=12))) [])) (.ok (.ret (.bl false) []))) (.no 1):=by kernel_rfl
def s94:Spec:=fun args hs K=>match args,hs with
 | [.s a],[]=>.br (isNm a) (K (.bl true) []) (.no 1)
 | _,_=>.no 1
include hG in
theorem ok94:qc prog G 95 s94:=by
 refine qq hG .nil mix enter94 (L:=[(2,l94)]) (pol:=pol94) fun args hs K x h => ?_
 unfold s94 at h
 split at h
 case h_2=>cases h
 rename_i a
 obtain⟨hc,hr⟩:=k8 h
 refine⟨qN (b:=b94) (live:=[0,2,5,6]) (sp:=l94) (m:=0) (by kernel_rfl) (by kernel_rfl) (by kernel_rfl) (loop94 hG),?_⟩
 rw[e94,k5 (by rw[hc];simp)]
 unfold isNm at hc
 simp only[kD,kE]at hc
 rw[k5 (kF (by omega))]
 exact⟨_,_,_,rfl,rle_b (kF (by omega)),hr⟩
end
section
namespace Prof
def pr (s a:Rat):Prop:=∃ p r:Nat,1<=p/\p<=12/\1<=r/\r<=8/\s=mkRat p 6/\a=mkRat r 8
def dist (x:Rat):Prop:=∃ q:Nat,q<40/\x=mkRat q 4
def Bd (x:Rat) (n d:Nat):Prop:=x.num.natAbs<=n/\x.den<=d
theorem Bd.mk {x:Rat} {n d:Nat} (hd:d≠0) (h:x=mkRat n d):Bd x n d:=by
 have:=rat_small hd h
 exact⟨by simpa using this.1,this.2⟩
theorem Bd.le {x:Rat} {n d n' d':Nat} (h:Bd x n d) (h1:n<=n') (h2:d<=d'):Bd x n' d':=⟨Nat.le_trans h.1 h1,Nat.le_trans h.2 h2⟩
theorem Bd.cross {x y:Rat} {n d n' d' N:Nat} (h:Bd x n d) (h':Bd y n' d') (hN:n*d'<N):x.num.natAbs*y.den<N:=Nat.lt_of_le_of_lt (Nat.mul_le_mul h.1 h'.2) hN
theorem mk_pos {n d:Nat} (hn:0<n) (hd:0<d):(0:Rat)<mkRat n d:=by
 rw[Rat.mkRat_eq_div,Rat.div_def]
 exact Rat.mul_pos (Rat.intCast_pos.2 (by omega)) (Rat.inv_pos.2 (Rat.natCast_pos.2 hd))
section
variable {s a:Rat} (h:pr s a)
include h
theorem pr.pos:0<s/\0<a:=by
 obtain⟨p,r,h1,h2,h3,h4,rfl,rfl⟩:=h
 exact⟨mk_pos (by omega) (by omega),mk_pos (by omega) (by omega)⟩
theorem pr.bs:Bd s 12 6:=by
 obtain⟨p,r,h1,h2,h3,h4,rfl,rfl⟩:=h
 exact(Bd.mk (by omega) rfl).le (by omega) (Nat.le_refl _)
end
theorem dist.bx {x:Rat} (h:dist x):Bd x 39 4:=by
 obtain⟨q,h1,rfl⟩:=h
 exact(Bd.mk (by omega) rfl).le (by omega) (Nat.le_refl _)
section
variable {x s a:Rat} (hx:dist x) (h:pr s a) {n:Nat} (hn:n<=50) (h1:1<=n)
include hx h hn h1
end
def vals (x s a:Rat) (n:Nat):List Rat:=(List.range n).map fun j=>val (x/cover s a n) s a n (j+1)
end Prof
end
section
open Prof
theorem natAbs_mul_le {a b:Int} {n m:Nat} (h:a.natAbs<=n) (h':b.natAbs<=m):(a*b).natAbs<=n*m:=by
 rw[Int.natAbs_mul];exact Nat.mul_le_mul h h'
theorem Prof.Bd.mul {x y:Rat} {n d n' d':Nat} (h:Bd x n d) (h':Bd y n' d'):Bd (x*y) (n*n') (d*d'):=by
 have hd:x.den*y.den≠0:=Nat.mul_ne_zero x.den_nz y.den_nz
 have:=rat_small hd (Rat.mul_def' x y)
 exact⟨Nat.le_trans this.1 (natAbs_mul_le h.1 h'.1),Nat.le_trans this.2 (Nat.mul_le_mul h.2 h'.2)⟩
theorem Prof.Bd.sub {x y:Rat} {n d n' d':Nat} (h:Bd x n d) (h':Bd y n' d'):Bd (x-y) (n*d'+n'*d) (d*d'):=by
 have hd:x.den*y.den≠0:=Nat.mul_ne_zero x.den_nz y.den_nz
 have:=rat_small hd (Rat.sub_def' x y)
 refine⟨Nat.le_trans this.1 ?_,Nat.le_trans this.2 (Nat.mul_le_mul h.2 h'.2)⟩
 have h1:=natAbs_mul_le (a:=x.num) (b:=(y.den:Int)) h.1 (by simpa using h'.2)
 have h2:=natAbs_mul_le (a:=y.num) (b:=(x.den:Int)) h'.1 (by simpa using h.2)
 omega
theorem Prof.Bd.add {x y:Rat} {n d n' d':Nat} (h:Bd x n d) (h':Bd y n' d'):Bd (x+y) (n*d'+n'*d) (d*d'):=by
 have hd:x.den*y.den≠0:=Nat.mul_ne_zero x.den_nz y.den_nz
 have:=rat_small hd (Rat.add_def' x y)
 refine⟨Nat.le_trans this.1 ?_,Nat.le_trans this.2 (Nat.mul_le_mul h.2 h'.2)⟩
 have h1:=natAbs_mul_le (a:=x.num) (b:=(y.den:Int)) h.1 (by simpa using h'.2)
 have h2:=natAbs_mul_le (a:=y.num) (b:=(x.den:Int)) h'.1 (by simpa using h.2)
 omega
def tri (ax ay bx by_ cx cy:Rat):Rat:=(bx-ax)*(cy-ay)-(by_-ay)*(cx-ax)
def cB (x:Rat):Bool:=decide (x.num.natAbs<=1000)&&decide (x.den<=8)
theorem cB_iff {x:Rat}:cB x=true↔Bd x 1000 8:=by simp[cB,Bd]
end
section
open Go Tryz
set_option maxRecDepth 100000
variable {G:World->(Nat->Prop)->Prop} (hG:GOk G)
theorem enter41:Enters prog 141 f141 (qd f141):=⟨func141,by kernel_rfl,rfl⟩
def s41:Spec:=evF prog [(54,s29)] [] {} f141
include hG in
theorem ok41:qc prog G 141 s41:=spec_ev hG (.cons (ok29 hG) .nil) mix enter41 (fun _=>kA (by kernel_rfl))
theorem enter97:Enters prog 215 f215 (qd f215):=⟨func215,by kernel_rfl,rfl⟩
def s97:Spec:=evF prog [(54,s29),(75,s43)] [] {} f215
include hG in
theorem ok97:qc prog G 215 s97:=spec_ev hG (.cons (ok29 hG) (.cons (ok43 hG) .nil)) mix enter97 (fun _=>kA (by kernel_rfl))
theorem enter146:Enters prog 190 f190 (qd f190):=⟨func190,by kernel_rfl,rfl⟩
def O146:Orc:=[(97,s26),(141,s41),(215,s97)]
theorem e146 (ax ay bx by_ cx cy:Rat) (w1 w2 w3 w4 w5 w6:Nat):evF prog O146 [] {} f190 [.agg [.q ax w1,.q ay w2],.agg [.q bx w3,.q by_ w4],.agg [.q cx w5,.q cy w6]] [] ql=
 Tr.br (s32 bx&&s32 ax&&decide (bx.num.natAbs*ax.den<72057594037927936)&&decide (ax.num.natAbs*bx.den<72057594037927936)) (.br (s32 by_&&s32 ay&&decide (by_.num.natAbs*ay.den<72057594037927936)&&decide (ay.num.natAbs*by_.den<72057594037927936)) (.br (s32 cx&&s32 ax&&decide (cx.num.natAbs*ax.den<72057594037927936)&&decide (ax.num.natAbs*cx.den<72057594037927936)) (.br (s32 cy&&s32 ay&&decide (cy.num.natAbs*ay.den<72057594037927936)&&decide (ay.num.natAbs*cy.den<72057594037927936)) (.br (s32 (bx-ax)&&s32 (cy-ay)) (.br (s32 (by_-ay)&&s32 (cx-ax)) (.br (s32 ((bx-ax)*(cy-ay))&&s32 ((by_-ay)*(cx-ax))&&decide (((bx-ax)*(cy-ay)).num.natAbs*((by_-ay)*(cx-ax)).den<72057594037927936)&&decide (((by_-ay)*(cx-ax)).num.natAbs*((bx-ax)*(cy-ay)).den<72057594037927936)) (.br (s64 ((bx-ax)*(cy-ay)-(by_-ay)*(cx-ax))) (.ok (.ret (.i .i64 (rcmp ((bx-ax)*(cy-ay)-(by_-ay)*(cx-ax)) (0:Rat))) [])) (.no 1)) (.no 1)) (.no 1)) (.no 1)) (.no 1)) (.no 1)) (.no 1)) (.no 1):=by kernel_rfl
def s146:Spec:=fun args hs K=>match args,hs with
 | [.agg [.q ax _,.q ay _],.agg [.q bx _,.q by_ _],.agg [.q cx _,.q cy _]],[]=>.br (cB ax&&cB ay&&cB bx&&cB by_&&cB cx&&cB cy) (K (.i .i64 (rcmp (tri ax ay bx by_ cx cy) 0)) []) (.no 1)
 | _,_=>.no 1
theorem Bd32' {x:Rat} {n d:Nat} (h:Prof.Bd x n d) (h1:n<4294967296) (h2:d<4294967296):s32 x=true:=s32_iff.2 ⟨Nat.lt_of_le_of_lt h.1 h1,Nat.lt_of_le_of_lt h.2 h2⟩
theorem subOk {x y:Rat} {n d n' d':Nat} (h:Prof.Bd x n d) (h':Prof.Bd y n' d') (h1:n<4294967296) (h2:d<4294967296) (h3:n'<4294967296) (h4:d'<4294967296) (h5:n*d'<72057594037927936) (h6:n'*d<72057594037927936):
  (s32 x&&s32 y&&decide (x.num.natAbs*y.den<72057594037927936)&&decide (y.num.natAbs*x.den<72057594037927936))=true:=by
 rw[Bd32' h h1 h2,Bd32' h' h3 h4]
 simp only[Bool.true_and,kD,kE]
 exact⟨h.cross h' h5,h'.cross h h6⟩
theorem Bd64 {x:Rat} {n d:Nat} (h:Prof.Bd x n d) (h1:n<18446744073709551616) (h2:d<18446744073709551616):s64 x=true:=by
 simp only[s64,kD,kE]
 exact⟨Nat.lt_of_le_of_lt h.1 h1,Nat.lt_of_le_of_lt h.2 h2⟩
include hG in
theorem orc146:OrcOK prog G O146:=.cons (ok26 hG) (.cons (ok41 hG) (.cons (ok97 hG) .nil))
include hG in
theorem ok146:qc prog G 190 s146:=by
 refine qq hG (orc146 hG) mix enter146 (L:=[]) (pol:={}) fun args hs K x h => ?_
 unfold s146 at h
 split at h
 case h_2=>cases h
 rename_i ax w1 ay w2 bx w3 by_ w4 cx w5 cy w6
 obtain⟨hc,hr⟩:=k8 h
 simp only[kD,cB_iff]at hc
 obtain⟨⟨⟨⟨⟨h1,h2⟩,h3⟩,h4⟩,h5⟩,h6⟩:=hc
 refine⟨kA (by kernel_rfl),_,_,_,?_,.refl _,hr⟩
 have d1:=h3.sub h1
 have d2:=h6.sub h2
 have d3:=h4.sub h2
 have d4:=h5.sub h1
 have m1:=d1.mul d2
 have m2:=d3.mul d4
 rw[e146,k5 (subOk h3 h1 (by omega) (by omega) (by omega) (by omega) (by omega) (by omega)),k5 (subOk h4 h2 (by omega) (by omega) (by omega) (by omega) (by omega) (by omega)),
  k5 (subOk h5 h1 (by omega) (by omega) (by omega) (by omega) (by omega) (by omega)),k5 (subOk h6 h2 (by omega) (by omega) (by omega) (by omega) (by omega) (by omega)),
  k5 (by rw[Bd32' d1 (by omega) (by omega),Bd32' d2 (by omega) (by omega)];rfl),k5 (by rw[Bd32' d3 (by omega) (by omega),Bd32' d4 (by omega) (by omega)];rfl),
  k5 (subOk m1 m2 (by omega) (by omega) (by omega) (by omega) (by omega) (by omega)),k5 (Bd64 (m1.sub m2) (by omega) (by omega)),k7]
 rfl
def pv (px py:Nat->Rat):Nat->PV:=fun i=>.agg [.q (px i) 64,.q (py i) 64]
def b135:Code:=(qi (qd f151)).getD 0 .skip
def i135:Code:=(qi (qd f151)).getD 1 .skip
def pol135:Pol:={live:=[(7,[0,4,5,18,19,20]),(10,[0,4,5,6,7,8,18,19,20])]}
theorem enter135:Enters prog 151 f151 (qd f151):=⟨func151,by kernel_rfl,rfl⟩
theorem q135 (n:Nat) (px py:Nat->Rat) (e m i k:Int) (x y:Rat):qe prog [(190,s146)] [] pol135 f151.ntmps 0 [0,4,5,6,7,8,18,19,20] i135 ⟨[.lst 6 (.fn n (pv px py)),.i .i64 e,.i .i64 m,.i .i64 i,.ptr 0 6 0 0 [],.i .i64 k,.lst 6 (.fn n (pv px py)),.i .i64 m,.i .i64 i],[some ⟨6,.vals [.agg [.q x 64,.q y 64]]⟩]⟩=
 Tr.br (decide (k<m)) (.br (ib (i+1)) (.br (!decide (m=0)) (.br (ix ((i+1).tmod m) ((n:Int))) (.br (ib (i+k)) (.br (!decide (m=0)) (.br (ix ((i+k).tmod m) ((n:Int))) (.br (cB x&&cB y&&cB (px ((i+1).tmod m).toNat)&&cB (py ((i+1).tmod m).toNat)&&cB (px ((i+k).tmod m).toNat)&&cB (py ((i+k).tmod m).toNat)) (.br (decide (rcmp (tri x y (px ((i+1).tmod m).toNat) (py ((i+1).tmod m).toNat) (px ((i+k).tmod m).toNat) (py ((i+k).tmod m).toNat)) (0:Rat)<=0)) (.ok (.out .ret (LS.mk [.lst 6 (.fn n fun(a:Nat)=>.agg [.q (px a) 64,.q (py a) 64]),.i .i64 3,.i .i64 m,.i .i64 i,.ptr 0 6 0 0 [],.i .i64 k,.lst 6 (.fn n fun(a:Nat)=>.agg [.q (px a) 64,.q (py a) 64]),.i .i64 m,.i .i64 i] [some (.mk 6 (.vals [.agg [.q x 64,.q y 64]]))]))) (.br (ib (k+1)) (.ok (.out .normal (LS.mk [.lst 6 (.fn n fun(a:Nat)=>.agg [.q (px a) 64,.q (py a) 64]),.i .i64 e,.i .i64 m,.i .i64 i,.ptr 0 6 0 0 [],.i .i64 (k+1),.lst 6 (.fn n fun(a:Nat)=>.agg [.q (px a) 64,.q (py a) 64]),.i .i64 m,.i .i64 i] [some (.mk 6 (.vals [.agg [.q x 64,.q y 64]]))]))) (.no 12002))) (.no 1)) (.no 13004)) (.no 13005)) (.no 13007)) (.no 13012)) (.no 13013)) (.no 13015)) (.ok (.out (.exit 3) (LS.mk [.lst 6 (.fn n fun(a:Nat)=>.agg [.q (px a) 64,.q (py a) 64]),.i .i64 e,.i .i64 m,.i .i64 i,.ptr 0 6 0 0 [],.i .i64 k,.lst 6 (.fn n fun(a:Nat)=>.agg [.q (px a) 64,.q (py a) 64]),.i .i64 m,.i .i64 i] [some (.mk 6 (.vals [.agg [.q x 64,.q y 64]]))]))):=by kernel_rfl
def polyB (n:Nat) (px py:Nat->Rat):Bool:=decide (3<=n)&&decide (n<=8)&&(List.range n).all (fun i=>cB (px i)&&cB (py i))&&
 (List.range n).all (fun i=>(List.range n).all fun k=>decide (k<2)||decide (0<tri (px i) (py i) (px ((i+1)%n)) (py ((i+1)%n)) (px ((i+k)%n)) (py ((i+k)%n))))
theorem polyB_c {n:Nat} {px py:Nat->Rat} (h:polyB n px py=true):3<=n/\n<=8/\(∀ i,i<n->cB (px i)=true/\cB (py i)=true)/\
  ∀ i k,i<n->2<=k->k<n->0<tri (px i) (py i) (px ((i+1)%n)) (py ((i+1)%n)) (px ((i+k)%n)) (py ((i+k)%n)):=by
 simp only[polyB,kD,kE,List.all_eq_true,List.mem_range,Bool.or_eq_true]at h
 obtain⟨⟨⟨h1,h2⟩,h3⟩,h4⟩:=h
 exact⟨h1,h2,h3,fun i k hi hk hkn=>(h4 i hi k hkn).resolve_left (by omega)⟩
def sti135 (n i:Nat) (px py:Nat->Rat) (k:Int):LS:=⟨[.lst 6 (.fn n (pv px py)),.i .i64 0,.i .i64 n,.i .i64 i,.ptr 0 6 0 0 [],.i .i64 k,.lst 6 (.fn n (pv px py)),.i .i64 n,.i .i64 i],[some ⟨6,.vals [.agg [.q (px i) 64,.q (py i) 64]]⟩]⟩
def Pi135 (ls:LS):Prop:=∃ n i px py,ls=sti135 n i px py 2/\i<n/\polyB n px py=true
def li135:qA:=fun ls K=>.br (qg (Pi135 ls)) (K (.exit 3) ⟨ls.t.set 5 (ls.t.getD 2 .any),ls.h⟩) (.no 1)
include hG in
theorem orc135:OrcOK prog G [(190,s146)]:=.cons (ok146 hG) .nil
include hG in
theorem loopi135:qz prog G f151.ntmps 0 [0,4,5,6,7,8,18,19,20] i135 li135:=by
 intro ls K y hm h
 obtain⟨hc,hr⟩:=k8 h
 obtain⟨n,i,px,py,rfl,hi,hp⟩:=decP_iff.1 hc
 obtain⟨p1,p2,p3,p4⟩:=polyB_c hp
 refine⟨_,_,qx (Goes.count (R:=Rnd prog G f151.ntmps 0 [0,4,5,6,7,8,18,19,20] i135) (fun k=>sti135 n i px py ((k:Nat):Int)) (e:=.exit 3) (ls':=sti135 n i px py n) (by simp) (n-2) 2 (fun k hk2 hk => ?_) ?_),hr⟩
 ·refine qb hG (orc135 hG) mix (L:=[]) (pol:=pol135) (O:=[(190,s146)]) (kA (by kernel_rfl)) (Nat.zero_le _) ?_
  have e1:(((i:Nat):Int)+1).tmod n=(((i+1)%n:Nat):Int):=tmod_nat (i+1) n
  have e2:(((i:Nat):Int)+((k:Nat):Int)).tmod n=(((i+k)%n:Nat):Int):=tmod_nat (i+k) n
  have m1:=Nat.mod_lt (i+1) (show 0<n by omega)
  have m2:=Nat.mod_lt (i+k) (show 0<n by omega)
  unfold sti135
  rw[q135,e1,e2,Int.toNat_natCast,Int.toNat_natCast]
  have c1:=p3 i hi
  have c2:=p3 _ m1
  have c3:=p3 _ m2
  have c4:=p4 i k hi hk2 (by omega)
  generalize (i+1)%n=u at*
  generalize (i+k)%n=v at*
  rw[k5 (kF (by omega)),k5 (by simp only[kD,kE];omega),k5 (by rw[kK,kM];omega),k5 (by simp only[kD,kE];omega),k5 (by simp only[kD,kE];omega),k5 (by rw[kK,kM];omega),
   k5 (by simp only[kD,kE];omega),k5 (by rw[c1.1,c1.2,c2.1,c2.2,c3.1,c3.2];rfl),k6 (kG (by rw[rcmp_le];exact Rat.not_le.2 c4)),k5 (by simp only[kD,kE];omega),k7]
  rfl
 ·refine qb hG (orc135 hG) mix (L:=[]) (pol:=pol135) (O:=[(190,s146)]) (kA (by kernel_rfl)) (Nat.zero_le _) ?_
  unfold sti135
  rw[q135,k6 (kG (by omega)),k7,show((2+(n-2):Nat):Int)=(n:Int) by omega]
  rfl
theorem r135 (n:Nat) (px py:Nat->Rat) (m i:Int):qe prog [(190,s146)] [(10,li135)] pol135 f151.ntmps 0 [0,4,5,18,19,20] b135 ⟨[.lst 6 (.fn n (pv px py)),.i .i64 0,.i .i64 m,.lst 6 (.fn n (pv px py)),.i .i64 m,.i .i64 i],[]⟩=
 Tr.br (decide (i<m)) (.br (ix (i) ((n:Int))) (.br (qg (Pi135 (LS.mk [.lst 6 (.fn n fun(a:Nat)=>.agg [.q (px a) 64,.q (py a) 64]),.i .i64 0,.i .i64 m,.i .i64 i,.ptr 0 6 0 0 [],.i .i64 2,.lst 6 (.fn n fun(a:Nat)=>.agg [.q (px a) 64,.q (py a) 64]),.i .i64 m,.i .i64 i] [some (.mk 6 (.vals [.agg [.q (px i.toNat) 64,.q (py i.toNat) 64]]))]))) (.br (ib (i+1)) (.ok (.out .normal (LS.mk [.lst 6 (.fn n fun(a:Nat)=>.agg [.q (px a) 64,.q (py a) 64]),.i .i64 0,.i .i64 m,.lst 6 (.fn n fun(a:Nat)=>.agg [.q (px a) 64,.q (py a) 64]),.i .i64 m,.i .i64 (i+1)] []))) (.no 15002)) (.no 1)) (.no 9005)) (.ok (.out (.exit 1) (LS.mk [.lst 6 (.fn n fun(a:Nat)=>.agg [.q (px a) 64,.q (py a) 64]),.i .i64 0,.i .i64 m,.lst 6 (.fn n fun(a:Nat)=>.agg [.q (px a) 64,.q (py a) 64]),.i .i64 m,.i .i64 i] []))):=by kernel_rfl
def sto135 (n:Nat) (px py:Nat->Rat) (i:Int):LS:=⟨[.lst 6 (.fn n (pv px py)),.i .i64 0,.i .i64 n,.lst 6 (.fn n (pv px py)),.i .i64 n,.i .i64 i],[]⟩
def Po135 (ls:LS):Prop:=∃ n px py,ls=sto135 n px py 0/\polyB n px py=true
def lo135:qA:=fun ls K=>.br (qg (Po135 ls)) (K (.exit 1) ⟨ls.t.set 5 (ls.t.getD 2 .any),ls.h⟩) (.no 1)
include hG in
theorem lps135 {m:Nat} (hm:m=0):LpsOK prog G pol135 f151.ntmps m [(10,li135)] b135:=by
 subst hm
 exact qN (b:=i135) (live:=[0,4,5,6,7,8,18,19,20]) (sp:=li135) (by kernel_rfl) (by kernel_rfl) (by kernel_rfl) (loopi135 hG)
include hG in
theorem loopo135:qz prog G f151.ntmps 0 [0,4,5,18,19,20] b135 lo135:=by
 intro ls K y hm h
 obtain⟨hc,hr⟩:=k8 h
 obtain⟨n,px,py,rfl,hp⟩:=decP_iff.1 hc
 obtain⟨p1,p2,p3,p4⟩:=polyB_c hp
 refine⟨_,_,qx (Goes.count (R:=Rnd prog G f151.ntmps 0 [0,4,5,18,19,20] b135) (fun i=>sto135 n px py ((i:Nat):Int)) (e:=.exit 1) (ls':=sto135 n px py n) (by simp) n 0 (fun i _ hi => ?_) ?_),hr⟩
 ·refine qb hG (orc135 hG) mix (L:=[(10,li135)]) (pol:=pol135) (O:=[(190,s146)]) (lps135 hG rfl) (Nat.zero_le _) ?_
  unfold sto135
  rw[r135,Int.toNat_natCast,k5 (kF (by omega)),k5 (by simp only[kD,kE];omega),k5 (decP_iff.2 ⟨n,i,px,py,rfl,by omega,hp⟩),k5 (by simp only[kD,kE];omega),k7]
  rfl
 ·refine qb hG (orc135 hG) mix (L:=[(10,li135)]) (pol:=pol135) (O:=[(190,s146)]) (lps135 hG rfl) (Nat.zero_le _) ?_
  unfold sto135
  rw[r135,k6 (kG (by omega)),k7,Nat.zero_add]
  rfl
theorem e135 (n:Nat) (px py:Nat->Rat):evF prog [(190,s146)] [(7,lo135),(10,li135)] pol135 f151 [.lst 6 (.fn n (pv px py)),.i .i64 8] [] ql=
 Tr.br (decide (8<(n:Int))) (.ok (.ret (.i .i64 2) [])) (.br (decide ((n:Int)<3)) (.ok (.ret (.i .i64 3) [])) (.br (qg (Po135 (LS.mk [.lst 6 (.fn n fun(a:Nat)=>.agg [.q (px a) 64,.q (py a) 64]),.i .i64 0,.i .i64 (n:Int),.lst 6 (.fn n fun(a:Nat)=>.agg [.q (px a) 64,.q (py a) 64]),.i .i64 (n:Int),.i .i64 0] []))) (.ok (.ret (.i .i64 0) [])) (.no 1))):=by kernel_rfl
def P135 (args:List PV):Prop:=∃ v n px py,args=[v,.i .i64 8]/\VLe v (.lst 6 (.fn n (pv px py)))/\polyB n px py=true
def s135:Spec:=fun args hs K=>match hs with
 | []=>.br (qg (P135 args)) (K (.i .i64 0) []) (.no 1)
 | _=>.no 1
theorem loops135:qi (qd f151)=[b135,i135]:=by kernel_rfl
include hG in
theorem ok135:qc prog G 151 s135:=by
 intro args hs K x h
 unfold s135 at h
 split at h
 case h_2=>cases h
 obtain⟨hc,hr⟩:=k8 h
 obtain⟨v,n,px,py,rfl,hv,hp⟩:=decP_iff.1 hc
 obtain⟨p1,p2,p3,p4⟩:=polyB_c hp
 refine⟨_,_,PC.args (.cons hv (.refl _)) (qj hG (orc135 hG) mix enter135 (hs:=[]) (L:=[(7,lo135),(10,li135)]) (pol:=pol135) (O:=[(190,s146)]) (LpsOK.of loops135 fun a ha live sp h1 h2 => ?_) ?_),hr⟩
 ·simp only[List.mem_cons,List.not_mem_nil,or_false]at ha
  rcases ha with rfl|rfl
  ·have e1:assoc (qr b135) pol135.live=some [0,4,5,18,19,20]:=by kernel_rfl
   have e2:Lps.look (qr b135) [(7,lo135),(10,li135)]=some lo135:=by kernel_rfl
   rw[e1]at h1;rw[e2]at h2;cases h1;cases h2
   exact loopo135 hG
  ·have e1:assoc (qr i135) pol135.live=some [0,4,5,6,7,8,18,19,20]:=by kernel_rfl
   have e2:Lps.look (qr i135) [(7,lo135),(10,li135)]=some li135:=by kernel_rfl
   rw[e1]at h1;rw[e2]at h2;cases h1;cases h2
   exact loopi135 hG
 ·rw[e135,k6 (kG (by omega)),k6 (kG (by omega)),k5 (decP_iff.2 ⟨n,px,py,rfl,hp⟩),k7]
theorem enter126:Enters prog 117 f117 (qd f117):=⟨func117,by kernel_rfl,rfl⟩
def s126:Spec:=evF prog [(151,s135)] [] {} f117
include hG in
theorem ok126:qc prog G 117 s126:=spec_ev hG (.cons (ok135 hG) .nil) mix enter126 (fun _=>kA (by kernel_rfl))
structure Lk where
 len:Rat
 low:Rat
 high:Rat
 spd:Rat
 brk:Rat
 np:Nat
 px:Nat->Rat
 py:Nat->Rat
def lkPV (d:Lk):PV:=.agg [.q d.len 64,.q d.low 64,.q d.high 64,.q d.spd 64,.q d.brk 64,.lst 6 (.fn d.np (pv d.px d.py))]
def lkB (d:Lk):Bool:=smQ d.len&&smQ d.low&&smQ d.high&&smQ d.spd&&smQ d.brk&&decide (0<d.len)&&decide (d.low<d.high)&&decide (0<d.spd)&&decide (0<d.brk)&&polyB d.np d.px d.py
def b96:Code:=(qi (qd f98)).getD 0 .skip
def pol96:Pol:={live:=[(9,[2,50,51,52])]}
def O96:Orc:=[(97,s26),(23,s27),(96,s95),(117,s126)]
theorem enter96:Enters prog 98 f98 (qd f98):=⟨func98,by kernel_rfl,rfl⟩
def st96 (n:Nat) (px py:Nat->Rat) (i:Int):LS:=⟨[.i .i64 0,.lst 6 (.fn n (pv px py)),.i .i64 n,.i .i64 i],[]⟩
theorem r96 (n:Nat) (px py:Nat->Rat) (i:Int):qe prog O96 [] pol96 f98.ntmps 0 [2,50,51,52] b96 (st96 n px py i)=
 Tr.br (decide (i<(n:Int))) (.br (ix (i) ((n:Int))) (.br (decide ([px i.toNat,py i.toNat].length<=1073741824)&&[px i.toNat,py i.toNat].all smQ) (.br (ib (i+1)) (.ok (.out .normal (LS.mk [.i .i64 0,.lst 6 (.fn n fun(a:Nat)=>.agg [.q (px a) 64,.q (py a) 64]),.i .i64 (n:Int),.i .i64 (i+1)] []))) (.no 14002)) (.no 1)) (.no 11004)) (.ok (.out (.exit 0) (LS.mk [.i .i64 0,.lst 6 (.fn n fun(a:Nat)=>.agg [.q (px a) 64,.q (py a) 64]),.i .i64 (n:Int),.i .i64 i] []))):=by kernel_rfl
def Pl96 (ls:LS):Prop:=∃ n px py,ls=st96 n px py 0/\polyB n px py=true
def l96:qA:=fun ls K=>.br (qg (Pl96 ls)) (K (.exit 0) ⟨ls.t.set 3 (ls.t.getD 2 .any),ls.h⟩) (.no 1)
theorem e96 (d:Lk):evF prog O96 [(9,l96)] pol96 f98 [lkPV d] [] ql=
 Tr.br (decide ([d.len,d.low,d.high,d.spd,d.brk].length<=1073741824)&&[d.len,d.low,d.high,d.spd,d.brk].all smQ) (.br (s64 d.len) (.br (decide (rcmp d.len (0:Rat)<=0)) (.ok (.ret (.i .i64 1) [])) (.br (s32 d.low&&s32 d.high) (.br (decide (0<=rcmp d.low d.high)) (.ok (.ret (.i .i64 1) [])) (.br (s64 d.spd) (.br (decide (rcmp d.spd (0:Rat)<=0)) (.ok (.ret (.i .i64 1) [])) (.br (s64 d.brk) (.br (decide (rcmp d.brk (0:Rat)<=0)) (.ok (.ret (.i .i64 1) [])) (.br (qg (P135 [.lst 6 (.fn d.np fun(a:Nat)=>.agg [.q (d.px a) 64,.q (d.py a) 64]),.i .i64 8])) (.br (!decide ((0:Int)=0)) (.ok (.ret (.i .i64 0) [])) (.br (qg (Pl96 (LS.mk [.i .i64 0,.lst 6 (.fn d.np fun(a:Nat)=>.agg [.q (d.px a) 64,.q (d.py a) 64]),.i .i64 (d.np:Int),.i .i64 0] []))) (.ok (.ret (.i .i64 0) [])) (.no 1))) (.no 1))) (.no 1))) (.no 1))) (.no 1))) (.no 1)) (.no 1):=by kernel_rfl
def P96 (args:List PV):Prop:=∃ v d,args=[v]/\VLe v (lkPV d)/\lkB d=true
def s96:Spec:=fun args hs K=>match hs with
 | []=>.br (qg (P96 args)) (K (.i .i64 0) []) (.no 1)
 | _=>.no 1
theorem cB_smQ {x:Rat} (h:cB x=true):smQ x=true:=by
 simp only[cB,kD,kE]at h
 exact smQ_iff.2 ⟨by omega,by omega⟩
theorem smQ_s32 {x:Rat} (h:smQ x=true):s32 x=true:=by
 have:=smQ_iff.1 h
 exact s32_iff.2 ⟨by omega,by omega⟩
theorem lkB_c {d:Lk} (h:lkB d=true):smQ d.len=true/\smQ d.low=true/\smQ d.high=true/\smQ d.spd=true/\smQ d.brk=true/\0<d.len/\d.low<d.high/\0<d.spd/\0<d.brk/\polyB d.np d.px d.py=true:=by
 simp only[lkB,kD,kE]at h
 obtain⟨⟨⟨⟨⟨⟨⟨⟨⟨h1,h2⟩,h3⟩,h4⟩,h5⟩,h6⟩,h7⟩,h8⟩,h9⟩,h10⟩:=h
 exact⟨h1,h2,h3,h4,h5,h6,h7,h8,h9,h10⟩
include hG in
theorem orc96:OrcOK prog G O96:=.cons (ok26 hG) (.cons (ok27 hG) (.cons (ok95 hG) (.cons (ok126 hG) .nil)))
include hG in
theorem loop96:qz prog G f98.ntmps 0 [2,50,51,52] b96 l96:=by
 intro ls K y hm h
 obtain⟨hc,hr⟩:=k8 h
 obtain⟨n,px,py,rfl,hp⟩:=decP_iff.1 hc
 obtain⟨p1,p2,p3,p4⟩:=polyB_c hp
 refine⟨_,_,qx (Goes.count (R:=Rnd prog G f98.ntmps 0 [2,50,51,52] b96) (fun i=>st96 n px py ((i:Nat):Int)) (e:=.exit 0) (ls':=st96 n px py n) (by simp) n 0 (fun i _ hi => ?_) ?_),hr⟩
 ·refine qb hG (orc96 hG) mix (L:=[]) (pol:=pol96) (O:=O96) (kA (by kernel_rfl)) (Nat.zero_le _) ?_
  have c:=p3 i (by omega)
  rw[r96,Int.toNat_natCast,k5 (kF (by omega)),k5 (by simp only[kD,kE];omega),k5 (by
   simp only[List.all_cons,List.all_nil,cB_smQ c.1,cB_smQ c.2,kI,kJ];rfl),k5 (by simp only[kD,kE];omega),k7]
  rfl
 ·refine qb hG (orc96 hG) mix (L:=[]) (pol:=pol96) (O:=O96) (kA (by kernel_rfl)) (Nat.zero_le _) ?_
  rw[r96,k6 (kG (by omega)),k7,Nat.zero_add]
  rfl
include hG in
theorem ok96:qc prog G 98 s96:=by
 intro args hs K x h
 unfold s96 at h
 split at h
 case h_2=>cases h
 obtain⟨hc,hr⟩:=k8 h
 obtain⟨v,d,rfl,hv,hd⟩:=decP_iff.1 hc
 obtain⟨h1,h2,h3,h4,h5,h6,h7,h8,h9,h10⟩:=lkB_c hd
 refine⟨_,_,PC.args (.cons hv (.refl _)) (qj hG (orc96 hG) mix enter96 (hs:=[]) (L:=[(9,l96)]) (pol:=pol96) (O:=O96) (qN (b:=b96) (live:=[2,50,51,52]) (sp:=l96) (m:=0) (by kernel_rfl) (by kernel_rfl) (by kernel_rfl) (loop96 hG)) ?_),hr⟩
 rw[e96,k5 (by simp only[List.all_cons,List.all_nil,h1,h2,h3,h4,h5,kI,kJ];rfl),
  k5 (s32_s64 (smQ_s32 h1)),k6 (kG (by rw[rcmp_le];exact Rat.not_le.2 h6)),k5 (by rw[smQ_s32 h2,smQ_s32 h3];rfl),k6 (kG (by rw[rcmp_ge];exact Rat.not_le.2 h7)),
  k5 (s32_s64 (smQ_s32 h4)),k6 (kG (by rw[rcmp_le];exact Rat.not_le.2 h8)),k5 (s32_s64 (smQ_s32 h5)),k6 (kG (by rw[rcmp_le];exact Rat.not_le.2 h9)),
  k5 (decP_iff.2 ⟨_,d.np,d.px,d.py,rfl,.refl _,h10⟩),k6 (by decide),k5 (decP_iff.2 ⟨d.np,d.px,d.py,rfl,h10⟩),k7]

structure Am where
 name:ByteArray
 bx:Rat
 by_:Rat
 t:Rat
 n:Nat
 lk:Nat->Lk
def qm (A:Am):PV:=.agg [.s A.name,.agg [.agg [.q A.bx 64,.q A.by_ 64],.agg [.bl false,.q A.t 64]],.lst 16 (.fn A.n (fun j=>lkPV (A.lk j)))]
def armB (A:Am):Bool:=isNm A.name&&smQ A.bx&&smQ A.by_&&smQ A.t&&decide (1<=A.n)&&decide (A.n<=3)&&(List.range A.n).all (fun j=>lkB (A.lk j))
theorem armB_c {A:Am} (h:armB A=true):isNm A.name=true/\smQ A.bx=true/\smQ A.by_=true/\smQ A.t=true/\1<=A.n/\A.n<=3/\∀ j,j<A.n->lkB (A.lk j)=true:=by
 simp only[armB,kD,kE,List.all_eq_true,List.mem_range]at h
 obtain⟨⟨⟨⟨⟨⟨h1,h2⟩,h3⟩,h4⟩,h5⟩,h6⟩,h7⟩:=h
 exact⟨h1,h2,h3,h4,h5,h6,h7⟩
def b52:Code:=(qi (qd f49)).getD 0 .skip
def pol52:Pol:={live:=[(9,[2,48,49,50])]}
def O52:Orc:=[(97,s26),(95,s94),(96,s95),(98,s96)]
theorem enter52:Enters prog 49 f49 (qd f49):=⟨func49,by kernel_rfl,rfl⟩
def st52 (n:Nat) (lk:Nat->Lk) (i:Int):LS:=⟨[.i .i64 0,.lst 16 (.fn n (fun j=>lkPV (lk j))),.i .i64 n,.i .i64 i],[]⟩
theorem r52 (n:Nat) (lk:Nat->Lk) (i:Int):qe prog O52 [] pol52 f49.ntmps 0 [2,48,49,50] b52 (st52 n lk i)=
 Tr.br (decide (i<(n:Int))) (.br (ix (i) ((n:Int))) (.br (qg (P96 [lkPV (lk i.toNat)])) (.br (!decide ((0:Int)=0)) (.ok (.out .ret (LS.mk [.i .i64 0,.lst 16 (.fn n fun(j:Nat)=>lkPV (lk j)),.i .i64 (n:Int),.i .i64 i] []))) (.br (ib (i+1)) (.ok (.out .normal (LS.mk [.i .i64 0,.lst 16 (.fn n fun(j:Nat)=>lkPV (lk j)),.i .i64 (n:Int),.i .i64 (i+1)] []))) (.no 15002))) (.no 1)) (.no 11004)) (.ok (.out (.exit 0) (LS.mk [.i .i64 0,.lst 16 (.fn n fun(j:Nat)=>lkPV (lk j)),.i .i64 (n:Int),.i .i64 i] []))):=by kernel_rfl
def Pl52 (ls:LS):Prop:=∃ n lk,ls=st52 n lk 0/\n<=3/\∀ j,j<n->lkB (lk j)=true
def l52:qA:=fun ls K=>.br (qg (Pl52 ls)) (K (.exit 0) ⟨ls.t.set 3 (ls.t.getD 2 .any),ls.h⟩) (.no 1)
theorem e52 (A:Am):evF prog O52 [(9,l52)] pol52 f49 [qm A] [] ql=
 Tr.br (isNm A.name) (.br (decide (3<(A.n:Int))) (.ok (.ret (.i .i64 2) [])) (.br (decide ((A.n:Int)=0)) (.ok (.ret (.i .i64 1) [])) (.br (decide ([A.bx,A.by_,A.t].length<=1073741824)&&[A.bx,A.by_,A.t].all smQ) (.br (qg (Pl52 (LS.mk [.i .i64 0,.lst 16 (.fn A.n fun(j:Nat)=>lkPV (A.lk j)),.i .i64 (A.n:Int),.i .i64 0] []))) (.ok (.ret (.i .i64 0) [])) (.no 1)) (.no 1)))) (.no 1):=by kernel_rfl
def P52 (args:List PV):Prop:=∃ v A,args=[v]/\VLe v (qm A)/\armB A=true
def s52:Spec:=fun args hs K=>match hs with
 | []=>.br (qg (P52 args)) (K (.i .i64 0) []) (.no 1)
 | _=>.no 1
include hG in
theorem orc52:OrcOK prog G O52:=.cons (ok26 hG) (.cons (ok94 hG) (.cons (ok95 hG) (.cons (ok96 hG) .nil)))
include hG in
theorem loop52:qz prog G f49.ntmps 0 [2,48,49,50] b52 l52:=by
 intro ls K y hm h
 obtain⟨hc,hr⟩:=k8 h
 obtain⟨n,lk,rfl,hn,hp⟩:=decP_iff.1 hc
 refine⟨_,_,qx (Goes.count (R:=Rnd prog G f49.ntmps 0 [2,48,49,50] b52) (fun i=>st52 n lk ((i:Nat):Int)) (e:=.exit 0) (ls':=st52 n lk n) (by simp) n 0 (fun i _ hi => ?_) ?_),hr⟩
 ·refine qb hG (orc52 hG) mix (L:=[]) (pol:=pol52) (O:=O52) (kA (by kernel_rfl)) (Nat.zero_le _) ?_
  rw[r52,Int.toNat_natCast,k5 (kF (by omega)),k5 (by simp only[kD,kE];omega),k5 (decP_iff.2 ⟨_,lk i,rfl,.refl _,hp i (by omega)⟩),k6 (by decide),k5 (by simp only[kD,kE];omega),k7]
  rfl
 ·refine qb hG (orc52 hG) mix (L:=[]) (pol:=pol52) (O:=O52) (kA (by kernel_rfl)) (Nat.zero_le _) ?_
  rw[r52,k6 (kG (by omega)),k7,Nat.zero_add]
  rfl
include hG in
theorem ok52:qc prog G 49 s52:=by
 intro args hs K x h
 unfold s52 at h
 split at h
 case h_2=>cases h
 obtain⟨hc,hr⟩:=k8 h
 obtain⟨v,A,rfl,hv,hA⟩:=decP_iff.1 hc
 obtain⟨h1,h2,h3,h4,h5,h6,h7⟩:=armB_c hA
 refine⟨_,_,PC.args (.cons hv (.refl _)) (qj hG (orc52 hG) mix enter52 (hs:=[]) (L:=[(9,l52)]) (pol:=pol52) (O:=O52) (qN (b:=b52) (live:=[2,48,49,50]) (sp:=l52) (m:=0) (by kernel_rfl) (by kernel_rfl) (by kernel_rfl) (loop52 hG)) ?_),hr⟩
 rw[e52,k5 h1,k6 (kG (by omega)),k6 (kG (by omega)),k5 (by simp only[List.all_cons,List.all_nil,h2,h3,h4,kI,kJ];rfl)]
 first
  | rw[k5 (decP_iff.2 ⟨A.n,A.lk,rfl,h6,h7⟩),k7]
  | rw[k6 (by decide),k5 (decP_iff.2 ⟨A.n,A.lk,rfl,h6,h7⟩),k7]
theorem enter85:Enters prog 57 f57 (qd f57):=⟨func57,by kernel_rfl,rfl⟩
theorem e85 (A:Am) (k:Int):evF prog [(49,s52)] [] {} f57 [qm A,.i .i64 k] [] ql=
 Tr.br (qg (P52 [qm A])) (.br (!decide ((0:Int)=0)) (.ok (.ret (.i .i64 0) [])) (.br (!decide (k=(A.n:Int))) (.ok (.ret (.i .i64 1) [])) (.ok (.ret (.i .i64 0) [])))) (.no 1):=by kernel_rfl
def P85 (args:List PV):Prop:=∃ v A,args=[v,.i .i64 ((A.n:Nat):Int)]/\VLe v (qm A)/\armB A=true
def s85:Spec:=fun args hs K=>match hs with
 | []=>.br (qg (P85 args)) (K (.i .i64 0) []) (.no 1)
 | _=>.no 1
include hG in
theorem ok85:qc prog G 57 s85:=by
 intro args hs K x h
 unfold s85 at h
 split at h
 case h_2=>cases h
 obtain⟨hc,hr⟩:=k8 h
 obtain⟨v,A,rfl,hv,hA⟩:=decP_iff.1 hc
 refine⟨_,_,PC.args (.cons hv (.refl _)) (qj hG (.cons (ok52 hG) .nil) mix enter85 (hs:=[]) (L:=[]) (pol:={}) (kA (by kernel_rfl)) ?_),hr⟩
 rw[e85,k5 (decP_iff.2 ⟨_,A,rfl,.refl _,hA⟩),k6 (by decide),k6 (by simp),k7]
end
section
open Go
set_option maxRecDepth 100000
variable {G:World->(Nat->Prop)->Prop} (hG:GOk G)
def fldV (v:PV) (k:Nat):PV:=match v with
 | .agg vs=>vs.getD k .any
 | _=>.any
def dq (v:PV):Rat:=match v with
 | .q x _=>x
 | _=>0
def ds (v:PV):ByteArray:=match v with
 | .s x=>x
 | _=>⟨#[]⟩
def dn (v:PV):Nat:=match v with
 | .lst _ c=>c.len
 | _=>0
def dg' (v:PV) (i:Nat):PV:=match v with
 | .lst _ c=>c.get i
 | _=>.any
def dLk (v:PV):Lk:=⟨dq (fldV v 0),dq (fldV v 1),dq (fldV v 2),dq (fldV v 3),dq (fldV v 4),dn (fldV v 5),fun i=>dq (fldV (dg' (fldV v 5) i) 0),fun i=>dq (fldV (dg' (fldV v 5) i) 1)⟩
def dArm (v:PV):Am:=⟨ds (fldV v 0),dq (fldV (fldV (fldV v 1) 0) 0),dq (fldV (fldV (fldV v 1) 0) 1),dq (fldV (fldV (fldV v 1) 1) 1),dn (fldV v 2),fun j=>dLk (dg' (fldV v 2) j)⟩
def okA (v:PV):Prop:=VLe v (qm (dArm v))/\armB (dArm v)=true
theorem okA_arm {A:Am} (h:armB A=true):okA (qm A):=⟨.refl _,h⟩
end
section
open Go Tryz
set_option maxRecDepth 100000
variable {G:World->(Nat->Prop)->Prop} (hG:GOk G)
theorem enter45:Enters prog 14 f14 (qd f14):=⟨func14,by kernel_rfl,rfl⟩
theorem e45 (l:List Int) (n:Int):evF prog [(28,s24)] [] {} f14 [.ptr 0 1 0 0 [],.i .i64 n] [⟨1,.vals [.agg [.lst 1 (.ints .i64 l)]]⟩] ql=
 Tr.br (decide ((l.length:Int)=0)) (.ok (.ret (PV.i .i64 0) [{e:=1,c:=Cont.vals [PV.agg [PV.lst 1 (.ints .i64 l)]]}])) (.br (decide (n<1)) (.ok (.ret (PV.i .i64 0) [{e:=1,c:=Cont.vals [PV.agg [PV.lst 1 (.ints .i64 l)]]}])) (.br (ix ((0:Int)) ((l.length:Int))) (.br (decide ((0:Int)<=1)&&decide (1<=(l.length:Int))) (.br (decide (0<n)&&decide (n<=4294967296)) (.ok (.ret (PV.i .i64 (l.getD (Int.toNat 0) (0:Int)%n)) [{e:=1,c:=Cont.vals [PV.agg [PV.lst 1 (.ints .i64 (List.take ((Cont.ints .i64 l).len-Int.toNat 1) (List.drop (Int.toNat 1) l)))]]}])) (.no 1)) (.no 5004)) (.no 4003))):=by kernel_rfl
theorem e45n (n:Int):evF prog [(28,s24)] [] {} f14 [.ptr 0 1 0 0 [],.i .i64 n] [⟨1,.vals [.agg [.nil]]⟩] ql=
 Tr.br (decide ((0:Int)=0)) (.ok (.ret (PV.i .i64 0) [{e:=1,c:=Cont.vals [PV.agg [PV.nil]]}])) (.br (decide (n<1)) (.ok (.ret (PV.i .i64 0) [{e:=1,c:=Cont.vals [PV.agg [PV.nil]]}])) (.no 4003)):=by kernel_rfl
def nx (v:PV) (n:Int):Int:=(intsW v).headD 0%n
def rs (v:PV):PV:=match v with
 | .lst 1 (.ints .i64 xs)=>.lst 1 (.ints .i64 xs.tail)
 | v=>v
theorem qG {v:PV} (h:okW v=true):okW (rs v)=true:=by
 rcases okW_cases h with rfl|⟨xs,rfl⟩<;>rfl
theorem qw (v:PV) {n:Int} (h:0<n):0<=nx v n/\nx v n<n:=⟨Int.emod_nonneg _ (by omega),Int.emod_lt_of_pos _ h⟩
def s45:Spec:=fun args hs K=>match args,hs with
 | [.ptr 0 1 0 0 [],.i .i64 n],[⟨1,.vals [.agg [.w v]]⟩]=>.br (okW v&&decide (0<n)&&decide (n<=4294967296)) (K (.i .i64 (nx v n)) [⟨1,.vals [.agg [.w (rs v)]]⟩]) (.no 1)
 | _,_=>.no 1
include hG in
theorem ok45:qc prog G 14 s45:=by
 intro args hs K x h
 unfold s45 at h
 split at h
 case h_2=>cases h
 rename_i n v
 obtain⟨hc,hr⟩:=k8 h
 simp only[kD,kE]at hc
 obtain⟨⟨hw,h0⟩,h1⟩:=hc
 have ho:=KsLe.one (KLe.vals (e:=1) (VLeL.cons (VLe.agg (VLeL.cons (vle_w_out hw) .nil)) .nil))
 have hi:=KsLe.one (KLe.vals (e:=1) (VLeL.cons (VLe.agg (VLeL.cons (vle_w_in (qG hw)) .nil)) .nil))
 refine⟨_,_,PC.blocks ho (PC.le (r:=.i .i64 (nx v n)) (hs':=[⟨1,.vals [.agg [rs v]]⟩]) ?_ (.refl _) hi),hr⟩
 rcases okW_cases hw with rfl|⟨l,rfl⟩
 ·refine qj hG (.cons (ok24 hG) .nil) mix enter45 (L:=[]) (pol:={}) (kA (by kernel_rfl)) ?_
  rw[e45n,k5 (by decide),k7]
  show some (Res.ret (.i .i64 0) _)=some (Res.ret (.i .i64 (0%n)) _)
  rw[Int.zero_emod];rfl
 ·refine qj hG (.cons (ok24 hG) .nil) mix enter45 (L:=[]) (pol:={}) (kA (by kernel_rfl)) ?_
  rw[e45]
  cases l with
  | nil=>
   rw[k5 (by decide),k7]
   show some (Res.ret (.i .i64 0) _)=some (Res.ret (.i .i64 (0%n)) _)
   rw[Int.zero_emod];rfl
  | cons y ys=>
   have hl:(y::ys).length=ys.length+1:=rfl
   rw[k6 (kG (by omega)),k6 (kG (by omega)),k5 (by simp only[kD,kE];omega),k5 (by simp only[kD,kE];omega),k5 (by simp only[kD,kE];omega),k7]
   have ht:List.take ((Cont.ints .i64 (y::ys)).len-Int.toNat 1) (List.drop (Int.toNat 1) (y::ys))=ys:=by
    show List.take (ys.length+1-1) ys=ys
    rw[Nat.add_sub_cancel,List.take_length]
   rw[ht]
   rfl
theorem enter104:Enters prog 92 f92 (qd f92):=⟨func92,by kernel_rfl,rfl⟩
theorem e104 (a b:Int):evF prog [(55,s81)] [] {} f92 [.i .i64 a,.i .i64 b] [] ql=
 Tr.br (decide ((0:Int)<4)&&decide ((4:Int)<4611686018427387904)&&decide ((-4611686018427387904:Int)<a)&&decide (a<4611686018427387904)) (.br (decide ((0:Int)<4)&&decide ((4:Int)<4611686018427387904)&&decide ((-4611686018427387904:Int)<b)&&decide (b<4611686018427387904)) (.ok (.ret (PV.agg [PV.q (mkRat a (Int.toNat 4)) 64,PV.q (mkRat b (Int.toNat 4)) 64]) [])) (.no 1)) (.no 1):=by kernel_rfl
def smI (a:Int):Bool:=decide (-1000000<a)&&decide (a<1000000)
theorem smI_iff {a:Int}:smI a=true ↔ -1000000<a/\a<1000000:=by simp[smI]
def s104:Spec:=fun args hs K=>match args,hs with
 | [.i .i64 a,.i .i64 b],[]=>.br (smI a&&smI b) (K (.agg [.q (mkRat a 4) 64,.q (mkRat b 4) 64]) []) (.no 1)
 | _,_=>.no 1
include hG in
theorem ok104:qc prog G 92 s104:=by
 refine qq hG (.cons (ok81 hG) .nil) mix enter104 (L:=[]) (pol:={}) fun args hs K x h => ?_
 unfold s104 at h
 split at h
 case h_2=>cases h
 rename_i a b
 obtain⟨hc,hr⟩:=k8 h
 simp only[kD,smI_iff]at hc
 refine⟨kA (by kernel_rfl),_,_,_,?_,.refl _,hr⟩
 rw[e104]
 repeat rw[k5 (by simp only[kD,kE];omega)]
 rw[k7]
 rfl
theorem enter105:Enters prog 93 f93 (qd f93):=⟨func93,by kernel_rfl,rfl⟩
theorem e105 (a b c d:Int):evF prog [(92,s104)] [] {} f93 [.i .i64 a,.i .i64 b,.i .i64 c,.i .i64 d] [] ql=
 Tr.br (smI a&&smI b) (.br (smI c&&smI b) (.br (smI c&&smI d) (.br (smI a&&smI d) (.ok (.ret (PV.lst 6 (.vals [PV.agg [PV.q (mkRat a (4:Nat)) 64,PV.q (mkRat b (4:Nat)) 64],PV.agg [PV.q (mkRat c (4:Nat)) 64,PV.q (mkRat b (4:Nat)) 64],PV.agg [PV.q (mkRat c (4:Nat)) 64,PV.q (mkRat d (4:Nat)) 64],PV.agg [PV.q (mkRat a (4:Nat)) 64,PV.q (mkRat d (4:Nat)) 64]])) [])) (.no 1)) (.no 1)) (.no 1)) (.no 1):=by kernel_rfl
def s105:Spec:=fun args hs K=>match args,hs with
 | [.i .i64 a,.i .i64 b,.i .i64 c,.i .i64 d],[]=>.br (smI a&&smI b&&smI c&&smI d) (K (.lst 6 (.vals [.agg [.q (mkRat a 4) 64,.q (mkRat b 4) 64],.agg [.q (mkRat c 4) 64,.q (mkRat b 4) 64],.agg [.q (mkRat c 4) 64,.q (mkRat d 4) 64],.agg [.q (mkRat a 4) 64,.q (mkRat d 4) 64]])) []) (.no 1)
 | _,_=>.no 1
include hG in
theorem ok105:qc prog G 93 s105:=by
 refine qq hG (.cons (ok104 hG) .nil) mix enter105 (L:=[]) (pol:={}) fun args hs K x h => ?_
 unfold s105 at h
 split at h
 case h_2=>cases h
 rename_i a b c d
 obtain⟨hc,hr⟩:=k8 h
 simp only[kD]at hc
 obtain⟨⟨⟨ha,hb⟩,hc⟩,hd⟩:=hc
 refine⟨kA (by kernel_rfl),_,_,_,?_,.refl _,hr⟩
 rw[e105,k5 (by rw[ha,hb];rfl),k5 (by rw[hc,hb];rfl),k5 (by rw[hc,hd];rfl),k5 (by rw[ha,hd];rfl),k7]
def b68:Code:=(qi (qd f47)).getD 0 .skip
def pol68:Pol:={live:=[(4,[0,4,5,30,31])],wr:=[(14,[0])]}
def O68:Orc:=[(14,s45),(55,s81),(92,s104),(93,s105)]
theorem enter68:Enters prog 47 f47 (qd f47):=⟨func47,by kernel_rfl,rfl⟩
def lkC (a b c d e:Rat) (s:Cont):PV:=.agg [.q a 64,.q b 64,.q c 64,.q d 64,.q e 64,.lst 6 s]
def zArm (z1 z2 z3 z4 z5 z6 z7:ByteArray):PV:=.agg [.s z1,.agg [.agg [.agg [.bl false,.s z2,.s z3],.agg [.bl false,.s z4,.s z5]],.agg [.bl false,.agg [.bl false,.s z6,.s z7]]],.nil]
def frA (nm:ByteArray) (bx by_ t:Rat) (l:PV):PV:=.agg [.s nm,.agg [.agg [.q bx 64,.q by_ 64],.agg [.bl false,.q t 64]],l]
def E:ByteArray:=⟨#[]⟩
def st68 (v:PV) (nm:ByteArray) (bx by_ t:Rat) (l:PV) (bs:List (Option Blk)) (c i:Int):LS:=⟨[.ptr 0 1 0 0 [],.ptr 1 12 0 0 [],.ptr 2 12 0 0 [],.i .i64 c,.i .i64 i],[some ⟨1,.vals [.agg [.w v]]⟩,some ⟨12,.vals [zArm E E E E E E E]⟩,some ⟨12,.vals [frA nm bx by_ t l]⟩]++bs⟩
def r6 (v:PV):PV:=rs (rs (rs (rs (rs (rs v)))))
def shV (v:PV):Cont:=if nx (rs (rs (rs (rs (rs v))))) 3=2 then
  .vals [.agg [.q (mkRat (-1) 4) 64,.q (mkRat (-1) 4) 64],.agg [.q (mkRat (4+2*nx v 4+1) 4) 64,.q (mkRat 0 4) 64],.agg [.q (mkRat (-1) 4) 64,.q (mkRat 1 4) 64]]
 else .vals [.agg [.q (mkRat (-1) 4) 64,.q (mkRat (-1) 4) 64],.agg [.q (mkRat (4+2*nx v 4+1) 4) 64,.q (mkRat (-1) 4) 64],.agg [.q (mkRat (4+2*nx v 4+1) 4) 64,.q (mkRat 1 4) 64],.agg [.q (mkRat (-1) 4) 64,.q (mkRat 1 4) 64]]
def lenV (v:PV):Rat:=mkRat (4+2*nx v 4) (Int.toNat 4)
def lowV (v:PV):Rat:=mkRat (-1-nx (rs v) 6) (Int.toNat 3)
def highV (v:PV):Rat:=mkRat (1+nx (rs (rs v)) 6) (Int.toNat 3)
def spdV (v:PV):Rat:=mkRat 1 (4+nx (rs (rs (rs v))) 8).toNat
def brkV (v:PV):Rat:=mkRat 1 (10+nx (rs (rs (rs (rs v)))) 20).toNat
def lkV (v:PV):PV:=lkC (lenV v) (lowV v) (highV v) (spdV v) (brkV v) (shV v)
def okN (v:PV) (n:Int):Bool:=okW v&&decide (0<n)&&decide (n<=4294967296)
def ovf (x:Int):Bool:=decide ((-9223372036854775808:Int)<=x)&&decide (x<=9223372036854775807)
def frq (d n:Int):Bool:=decide (0<d)&&decide (d<4611686018427387904)&&decide ((-4611686018427387904:Int)<n)&&decide (n<4611686018427387904)
def tr68 (v:PV) (L:Cont->LS):Tr:=
 .br (okN v 4) (.br (ovf (2*nx v 4)) (.br (ovf (4+2*nx v 4)) (.br (frq 4 (4+2*nx v 4))
 (.br (okN (rs v) 6) (.br (ovf (-1-nx (rs v) 6)) (.br (frq 3 (-1-nx (rs v) 6))
 (.br (okN (rs (rs v)) 6) (.br (ovf (1+nx (rs (rs v)) 6)) (.br (frq 3 (1+nx (rs (rs v)) 6))
 (.br (okN (rs (rs (rs v))) 8) (.br (ovf (4+nx (rs (rs (rs v))) 8)) (.br (frq (4+nx (rs (rs (rs v))) 8) 1)
 (.br (okN (rs (rs (rs (rs v)))) 20) (.br (ovf (10+nx (rs (rs (rs (rs v)))) 20)) (.br (frq (10+nx (rs (rs (rs (rs v)))) 20) 1)
 (.br (ovf (4+2*nx v 4+1)) (.br (smI (-1)&&smI (-1)&&smI (4+2*nx v 4+1)&&smI 1)
 (.br (okN (rs (rs (rs (rs (rs v))))) 3) (.br (decide (nx (rs (rs (rs (rs (rs v))))) 3=2))
  (.br (ovf (4+2*nx v 4+1)) (.br (smI (4+2*nx v 4+1)&&smI 0)
   (.ok (.out .normal (L (.vals [.agg [.q (mkRat (-1) 4) 64,.q (mkRat (-1) 4) 64],.agg [.q (mkRat (4+2*nx v 4+1) 4) 64,.q (mkRat 0 4) 64],.agg [.q (mkRat (-1) 4) 64,.q (mkRat 1 4) 64]])))) (.no 1)) (.no 1))
  (.ok (.out .normal (L (.vals [.agg [.q (mkRat (-1) 4) 64,.q (mkRat (-1) 4) 64],.agg [.q (mkRat (4+2*nx v 4+1) 4) 64,.q (mkRat (-1) 4) 64],.agg [.q (mkRat (4+2*nx v 4+1) 4) 64,.q (mkRat 1 4) 64],.agg [.q (mkRat (-1) 4) 64,.q (mkRat 1 4) 64]])))))
 (.no 1)) (.no 1)) (.no 1)) (.no 1)) (.no 1)) (.no 1)) (.no 1)) (.no 1)) (.no 1)) (.no 1)) (.no 1)) (.no 1)) (.no 1)) (.no 1)) (.no 1)) (.no 1)) (.no 1)) (.no 1)) (.no 1)
theorem tr68_run (v:PV) (hw:okW v=true) (L:Cont->LS):(tr68 v L).run=some (.out .normal (L (shV v))):=by
 have w1:=qG hw
 have w2:=qG w1
 have w3:=qG w2
 have w4:=qG w3
 have w5:=qG w4
 have g0:=qw v (show(0:Int)<4 by omega)
 have g1:=qw (rs v) (show(0:Int)<6 by omega)
 have g2:=qw (rs (rs v)) (show(0:Int)<6 by omega)
 have g3:=qw (rs (rs (rs v))) (show(0:Int)<8 by omega)
 have g4:=qw (rs (rs (rs (rs v)))) (show(0:Int)<20 by omega)
 unfold tr68 shV
 by_cases hb:nx (rs (rs (rs (rs (rs v))))) 3=2
 ·rw[if_pos hb]
  repeat rw[k5 (by simp only[okN,ovf,frq,hw,w1,w2,w3,w4,w5,Bool.true_and,kD,kE,smI_iff];omega)]
  rw[k7]
 ·rw[if_neg hb]
  repeat rw[k5 (by simp only[okN,ovf,frq,hw,w1,w2,w3,w4,w5,Bool.true_and,kD,kE,smI_iff];omega)]
  rw[k6 (kG hb),k7]
theorem step68a (v:PV) (hw:okW v=true) (nm:ByteArray) (bx by_ t:Rat) (c:Int) (hc:0<c):
  (qe prog O68 [] pol68 f47.ntmps 1 [0,4,5,30,31] b68 (st68 v nm bx by_ t .nil [] c 0)).run=some (.out .normal (st68 (r6 v) nm bx by_ t (.sl 3 16 0 1) [some ⟨16,.vals [lkV v]⟩] c 1)):=
 (show _=(Tr.br (decide ((0:Int)<c)) (tr68 v fun s=>st68 (r6 v) nm bx by_ t (.sl 3 16 0 1) [some ⟨16,.vals [lkC (lenV v) (lowV v) (highV v) (spdV v) (brkV v) s]⟩] c 1) (.ok (.out (.exit 0) (st68 v nm bx by_ t .nil [] c 0)))).run by kernel_rfl).trans ((k5 (kF hc)).trans (tr68_run v hw _))
theorem step68b (v:PV) (hw:okW v=true) (nm:ByteArray) (bx by_ t:Rat) (c:Int) (a1 b1 c1 d1 e1:Rat) (s1:Cont) (hc:1<c):
  (qe prog O68 [] pol68 f47.ntmps 1 [0,4,5,30,31] b68 (st68 v nm bx by_ t (.sl 3 16 0 1) [some ⟨16,.vals [lkC a1 b1 c1 d1 e1 s1]⟩] c 1)).run=some (.out .normal (st68 (r6 v) nm bx by_ t (.sl 3 16 0 2) [some ⟨16,.vals [lkC a1 b1 c1 d1 e1 s1,lkV v]⟩] c 2)):=
 (show _=(Tr.br (decide ((1:Int)<c)) (tr68 v fun s=>st68 (r6 v) nm bx by_ t (.sl 3 16 0 2) [some ⟨16,.vals [lkC a1 b1 c1 d1 e1 s1,lkC (lenV v) (lowV v) (highV v) (spdV v) (brkV v) s]⟩] c 2) (.ok (.out (.exit 0) (st68 v nm bx by_ t (.sl 3 16 0 1) [some ⟨16,.vals [lkC a1 b1 c1 d1 e1 s1]⟩] c 1)))).run by kernel_rfl).trans ((k5 (kF hc)).trans (tr68_run v hw _))
theorem step68c (v:PV) (hw:okW v=true) (nm:ByteArray) (bx by_ t:Rat) (c:Int) (a1 b1 c1 d1 e1 a2 b2 c2 d2 e2:Rat) (s1 s2:Cont) (hc:2<c):
  (qe prog O68 [] pol68 f47.ntmps 1 [0,4,5,30,31] b68 (st68 v nm bx by_ t (.sl 3 16 0 2) [some ⟨16,.vals [lkC a1 b1 c1 d1 e1 s1,lkC a2 b2 c2 d2 e2 s2]⟩] c 2)).run=some (.out .normal (st68 (r6 v) nm bx by_ t (.sl 3 16 0 3) [some ⟨16,.vals [lkC a1 b1 c1 d1 e1 s1,lkC a2 b2 c2 d2 e2 s2,lkV v]⟩] c 3)):=
 (show _=(Tr.br (decide ((2:Int)<c)) (tr68 v fun s=>st68 (r6 v) nm bx by_ t (.sl 3 16 0 3) [some ⟨16,.vals [lkC a1 b1 c1 d1 e1 s1,lkC a2 b2 c2 d2 e2 s2,lkC (lenV v) (lowV v) (highV v) (spdV v) (brkV v) s]⟩] c 3) (.ok (.out (.exit 0) (st68 v nm bx by_ t (.sl 3 16 0 2) [some ⟨16,.vals [lkC a1 b1 c1 d1 e1 s1,lkC a2 b2 c2 d2 e2 s2]⟩] c 2)))).run by kernel_rfl).trans ((k5 (kF hc)).trans (tr68_run v hw _))
def Pl68 (v z:PV) (u1 u2 u3:Nat) (c i:Int):Prop:=okW v=true/\i=0/\1<=c/\c<=3/\z=zArm E E E E E E E/\u1=64/\u2=64/\u3=64
def l68:qA:=fun ls K=>match ls with
 | ⟨[.ptr 0 1 0 0 [],.ptr 1 12 0 0 [],.ptr 2 12 0 0 [],.i .i64 c,.i .i64 i],[some ⟨1,.vals [.agg [.w v]]⟩,some ⟨12,.vals [z]⟩,some ⟨12,.vals [.agg [.s nm,.agg [.agg [.q bx u1,.q by_ u2],.agg [.bl false,.q t u3]],.nil]]⟩]⟩=>
  .br (qg (Pl68 v z u1 u2 u3 c i)) (.br (decide (c=1)) (K (.exit 0) (st68 (r6 v) nm bx by_ t (.sl 3 16 0 1) [some ⟨16,.vals [lkV v]⟩] c 1))
   (.br (decide (c=2)) (K (.exit 0) (st68 (r6 (r6 v)) nm bx by_ t (.sl 3 16 0 2) [some ⟨16,.vals [lkV v,lkV (r6 v)]⟩] c 2))
    (K (.exit 0) (st68 (r6 (r6 (r6 v))) nm bx by_ t (.sl 3 16 0 3) [some ⟨16,.vals [lkV v,lkV (r6 v),lkV (r6 (r6 v))]⟩] c 3)))) (.no 1)
 | _=>.no 1
include hG in
theorem orc68:OrcOK prog G O68:=.cons (ok45 hG) (.cons (ok81 hG) (.cons (ok104 hG) (.cons (ok105 hG) .nil)))
include hG in
theorem rnd68 {ls ls':LS} {e:Exit} (hl:1<=ls.h.length) (h:(qe prog O68 [] pol68 f47.ntmps 1 [0,4,5,30,31] b68 ls).run=some (.out e ls')):Rnd prog G f47.ntmps 1 [0,4,5,30,31] b68 ls e ls':=
 qb hG (orc68 hG) mix (L:=[]) (pol:=pol68) (O:=O68) (kA (by kernel_rfl)) hl h
theorem okW_r6 {v:PV} (h:okW v=true):okW (r6 v)=true:=qG (qG (qG (qG (qG (qG h)))))
include hG in
theorem loop68:qz prog G f47.ntmps 1 [0,4,5,30,31] b68 l68:=by
 intro ls K y hm h
 unfold l68 at h
 split at h
 case h_2=>cases h
 rename_i c i v z nm bx u1 by_ u2 t u3
 obtain⟨hc,hr⟩:=k8 h
 obtain⟨hw,rfl,h1,h3,rfl,rfl,rfl,rfl⟩:=decP_iff.1 hc
 have a1:=rnd68 hG (ls:=st68 v nm bx by_ t .nil [] c 0) (by simp[st68]) (step68a v hw nm bx by_ t c (by omega))
 have w1:=okW_r6 hw
 by_cases e1:c=1
 ·subst e1
  rw[k5 (by decide)]at hr
  have a2:=rnd68 hG (ls:=st68 (r6 v) nm bx by_ t (.sl 3 16 0 1) [some ⟨16,.vals [lkV v]⟩] 1 1) (ls':=st68 (r6 v) nm bx by_ t (.sl 3 16 0 1) [some ⟨16,.vals [lkV v]⟩] 1 1) (e:=.exit 0) (by simp[st68]) (by kernel_rfl)
  exact⟨_,_,qx (.more _ _ _ _ a1 (.last _ _ _ a2 (by simp))),hr⟩
 ·rw[k6 (kG e1)]at hr
  have a2:=rnd68 hG (ls:=st68 (r6 v) nm bx by_ t (.sl 3 16 0 1) [some ⟨16,.vals [lkV v]⟩] c 1) (by simp[st68]) (step68b (r6 v) w1 nm bx by_ t c _ _ _ _ _ _ (by omega))
  by_cases e2:c=2
  ·subst e2
   rw[k5 (by decide)]at hr
   have a3:=rnd68 hG (ls:=st68 (r6 (r6 v)) nm bx by_ t (.sl 3 16 0 2) [some ⟨16,.vals [lkV v,lkV (r6 v)]⟩] 2 2) (ls':=st68 (r6 (r6 v)) nm bx by_ t (.sl 3 16 0 2) [some ⟨16,.vals [lkV v,lkV (r6 v)]⟩] 2 2) (e:=.exit 0) (by simp[st68]) (by kernel_rfl)
   exact⟨_,_,qx (.more _ _ _ _ a1 (.more _ _ _ _ a2 (.last _ _ _ a3 (by simp)))),hr⟩
  ·have e3:c=3:=by omega
   subst e3
   rw[k6 (by decide)]at hr
   have a3:=rnd68 hG (ls:=st68 (r6 (r6 v)) nm bx by_ t (.sl 3 16 0 2) [some ⟨16,.vals [lkV v,lkV (r6 v)]⟩] 3 2) (by simp[st68]) (step68c (r6 (r6 v)) (okW_r6 w1) nm bx by_ t 3 _ _ _ _ _ _ _ _ _ _ _ _ (by omega))
   have a4:=rnd68 hG (ls:=st68 (r6 (r6 (r6 v))) nm bx by_ t (.sl 3 16 0 3) [some ⟨16,.vals [lkV v,lkV (r6 v),lkV (r6 (r6 v))]⟩] 3 3) (ls':=st68 (r6 (r6 (r6 v))) nm bx by_ t (.sl 3 16 0 3) [some ⟨16,.vals [lkV v,lkV (r6 v),lkV (r6 (r6 v))]⟩] 3 3) (e:=.exit 0) (by simp[st68]) (by kernel_rfl)
   exact⟨_,_,qx (.more _ _ _ _ a1 (.more _ _ _ _ a2 (.more _ _ _ _ a3 (.last _ _ _ a4 (by simp))))),hr⟩
def lf68 (v:PV) (vs:List PV) (u:PV):Tr:=.ok (.ret (frA ⟨#[111,110,101]⟩ (mkRat (40*0) 4) (mkRat 0 4) (mkRat ([(0:Int),1,-1,1].getD (nx v 4).toNat 0) (1+nx (rs v) 3).toNat) (.fr 16 (.vals vs))) [⟨1,.vals [.agg [.w u]]⟩])
theorem e68 (v:PV):(evF prog O68 [(4,l68)] pol68 f47 [.ptr 0 1 0 0 [],.i .i64 0] [⟨1,.vals [.agg [.w v]]⟩] ql).run=
  (Tr.br (okN v 4) (.br (ix (nx v 4) (([(0:Int),1,-1,1].length:Int))) (.br (okN (rs v) 3) (.br (ovf (1+nx (rs v) 3)) (.br (frq (1+nx (rs v) 3) ([(0:Int),1,-1,1].getD (nx v 4).toNat 0)) (.br (okN (rs (rs v)) 3) (.br (ovf (1+nx (rs (rs v)) 3)) (.br (qg (Pl68 (rs (rs (rs v))) (zArm E E E E E E E) 64 64 64 (1+nx (rs (rs v)) 3) 0)) (.br (decide (1+nx (rs (rs v)) 3=1)) (lf68 v [lkV (rs (rs (rs v)))] (r6 (rs (rs (rs v))))) (.br (decide (1+nx (rs (rs v)) 3=2)) (lf68 v [lkV (rs (rs (rs v))),lkV (r6 (rs (rs (rs v))))] (r6 (r6 (rs (rs (rs v)))))) (lf68 v [lkV (rs (rs (rs v))),lkV (r6 (rs (rs (rs v)))),lkV (r6 (r6 (rs (rs (rs v)))))] (r6 (r6 (r6 (rs (rs (rs v))))))))) (.no 1)) (.no 1)) (.no 1)) (.no 1)) (.no 1)) (.no 1)) (.no 1)) (.no 1)).run:=by kernel_rfl
theorem okN_t {v:PV} {n:Int} (h:okW v=true) (h1:0<n) (h2:n<=4294967296):okN v n=true:=by
 simp only[okN,h,Bool.true_and,kD,kE];omega
def itR6:Nat->PV->PV
 | 0,v=>v
 | k+1,v=>itR6 k (r6 v)
def lkD (v:PV):Lk:=⟨lenV v,lowV v,highV v,spdV v,brkV v,(shV v).len,fun i=>dq (fldV ((shV v).get i) 0),fun i=>dq (fldV ((shV v).get i) 1)⟩
def armD (v:PV):Am:=⟨⟨#[111,110,101]⟩,mkRat (40*0) 4,mkRat 0 4,mkRat ([(0:Int),1,-1,1].getD (nx v 4).toNat 0) (1+nx (rs v) 3).toNat,(1+nx (rs (rs v)) 3).toNat,fun j=>lkD (itR6 j (rs (rs (rs v))))⟩
theorem shV_get (v:PV) (i:Nat) (h:i<(shV v).len):(shV v).get i=.agg [.q (dq (fldV ((shV v).get i) 0)) 64,.q (dq (fldV ((shV v).get i) 1)) 64]:=by
 unfold shV at*
 by_cases hb:nx (rs (rs (rs (rs (rs v))))) 3=2
 ·simp only[hb,if_true,Cont.len,kI,kJ]at h ⊢
  match i,h with
  | 0,_=>rfl
  | 1,_=>rfl
  | 2,_=>rfl
  | i+3,h=>omega
 ·simp only[hb,if_false,Cont.len,kI,kJ]at h ⊢
  match i,h with
  | 0,_=>rfl
  | 1,_=>rfl
  | 2,_=>rfl
  | 3,_=>rfl
  | i+4,h=>omega
theorem lkV_le (v:PV):VLe (lkV v) (lkPV (lkD v)):=by
 refine VLe.agg (VLeL.cons (.refl _) (VLeL.cons (.refl _) (VLeL.cons (.refl _) (VLeL.cons (.refl _) (VLeL.cons (.refl _) (VLeL.cons ?_ .nil))))))
 refine VLe.lst rfl fun i hi => ?_
 have:=shV_get v i hi
 have e:(Cont.fn (lkD v).np (pv (lkD v).px (lkD v).py)).get i=(shV v).get i:=this.symm
 rw[e]
 exact .refl _
theorem rle_arm (nm:ByteArray) (bx by_ t:Rat) (vs:List PV) (n:Nat) (f:Nat->PV) (hl:vs.length=n) (h:∀ (i:Nat) (v:PV),vs[i]? = some v->noRef 8 v=true/\VLe v (f i)):
  RLe (frA nm bx by_ t (.fr 16 (.vals vs))) (frA nm bx by_ t (.fr 16 (.fn n f))):=by
 subst hl
 exact⟨fun m=>.refl _,fun m=>KsLe.one (KLe.fn rfl h)⟩
def armFr (A:Am):PV:=frA A.name A.bx A.by_ A.t (.fr 16 (.fn A.n (fun j=>lkPV (A.lk j))))
def s68:Spec:=fun args hs K=>match args,hs with
 | [.ptr 0 1 0 0 [],.i .i64 k],[⟨1,.vals [.agg [.w v]]⟩]=>.br (okW v&&decide (k=0)) (K (armFr (armD v)) [⟨1,.vals [.agg [.w (itR6 (armD v).n (rs (rs (rs v))))]]⟩]) (.no 1)
 | _,_=>.no 1
include hG in
theorem ok68:qc prog G 47 s68:=by
 refine qq hG (orc68 hG) mix enter68 (L:=[(4,l68)]) (pol:=pol68) fun args hs K x h => ?_
 unfold s68 at h
 split at h
 case h_2=>cases h
 rename_i k v
 obtain⟨hc,hr⟩:=k8 h
 simp only[kD,kE]at hc
 obtain⟨hw,rfl⟩:=hc
 refine⟨qN (b:=b68) (live:=[0,4,5,30,31]) (sp:=l68) (m:=1) (by kernel_rfl) (by kernel_rfl) (by kernel_rfl) (loop68 hG),?_⟩
 have w1:=qG hw
 have w2:=qG w1
 have w3:=qG w2
 have g0:=qw v (show(0:Int)<4 by omega)
 have g1:=qw (rs v) (show(0:Int)<3 by omega)
 have g2:=qw (rs (rs v)) (show(0:Int)<3 by omega)
 have gt:∀ i:Nat,-2<[(0:Int),1,-1,1].getD i 0/\[(0:Int),1,-1,1].getD i 0<2:=by
  intro i
  match i with
  | 0=>decide
  | 1=>decide
  | 2=>decide
  | 3=>decide
  | i+4=>exact⟨by show(-2:Int)<0;decide,by show(0:Int)<2;decide⟩
 have gt':=gt (nx v 4).toNat
 rw[e68]
 rw[k5 (okN_t hw (by decide) (by decide)),k5 (by simp only[kD,kE,kI,kJ];omega),k5 (okN_t w1 (by decide) (by decide)),
  k5 (by simp only[ovf,kD,kE];omega),k5 (by simp only[frq,kD,kE];omega),k5 (okN_t w2 (by decide) (by decide)),k5 (by simp only[ovf,kD,kE];omega),
  k5 (decP_iff.2 ⟨w3,rfl,by omega,by omega,rfl,rfl,rfl,rfl⟩)]
 have hn:(armD v).n=(1+nx (rs (rs v)) 3).toNat:=rfl
 have one:∀ (vs:List PV),vs.length=(armD v).n->(∀ i u,vs[i]? = some u->u=lkV (itR6 i (rs (rs (rs v)))))->
   RLe (frA (armD v).name (armD v).bx (armD v).by_ (armD v).t (.fr 16 (.vals vs))) (armFr (armD v)):=by
  intro vs hl hv
  refine rle_arm _ _ _ _ _ _ _ hl fun i u hu => ?_
  rw[hv i u hu]
  exact⟨rfl,lkV_le _⟩
 by_cases e1:1+nx (rs (rs v)) 3=1
 ·have hn1:(armD v).n=1:=by omega
  rw[hn1]at hr
  rw[k5 (kF e1)]
  refine⟨_,_,_,rfl,one [lkV (rs (rs (rs v)))] (by rw[hn1];rfl) (fun i u hu => ?_),hr⟩
  match i,hu with
  | 0,hu=>exact(Option.some.inj hu).symm
  | i+1,hu=>simp at hu
 ·rw[k6 (kG e1)]
  by_cases e2:1+nx (rs (rs v)) 3=2
  ·have hn1:(armD v).n=2:=by omega
   rw[hn1]at hr
   rw[k5 (kF e2)]
   refine⟨_,_,_,rfl,one [lkV (rs (rs (rs v))),lkV (r6 (rs (rs (rs v))))] (by rw[hn1];rfl) (fun i u hu => ?_),hr⟩
   match i,hu with
   | 0,hu=>exact(Option.some.inj hu).symm
   | 1,hu=>exact(Option.some.inj hu).symm
   | i+2,hu=>simp at hu
  ·have hn1:(armD v).n=3:=by omega
   rw[hn1]at hr
   rw[k6 (kG e2)]
   refine⟨_,_,_,rfl,one [lkV (rs (rs (rs v))),lkV (r6 (rs (rs (rs v)))),lkV (r6 (r6 (rs (rs (rs v)))))] (by rw[hn1];rfl) (fun i u hu => ?_),hr⟩
   match i,hu with
   | 0,hu=>exact(Option.some.inj hu).symm
   | 1,hu=>exact(Option.some.inj hu).symm
   | 2,hu=>exact(Option.some.inj hu).symm
   | i+3,hu=>simp at hu
theorem enter15:Enters prog 13 f13 (qd f13):=⟨func13,by kernel_rfl,rfl⟩
def pol15:Pol:={own:=[6],wr:=[(47,[0])]}
theorem e15 (v:PV):evF prog [(47,s68)] [] pol15 f13 [.w v] [] ql=
 Tr.br (okW v&&decide ((0:Int)=0)) (.br ((armD v).n.ble (armD v).n) (.ok (.ret (PV.agg [PV.s (armD v).name,PV.agg [PV.agg [PV.q (armD v).bx 64,PV.q (armD v).by_ 64],PV.agg [PV.bl false,PV.q (armD v).t 64]],PV.fr 16 (.fn (armD v).n fun(j:Nat)=>PV.agg [PV.q ((armD v).lk (j+0)).len 64,PV.q ((armD v).lk (j+0)).low 64,PV.q ((armD v).lk (j+0)).high 64,PV.q ((armD v).lk (j+0)).spd 64,PV.q ((armD v).lk (j+0)).brk 64,PV.lst 6 (.fn ((armD v).lk (j+0)).np fun(a:Nat)=>PV.agg [PV.q (((armD v).lk (j+0)).px a) 64,PV.q (((armD v).lk (j+0)).py a) 64])])]) [])) (.no 15)) (.no 1):=by kernel_rfl
def s15:Spec:=fun args hs K=>match args,hs with
 | [.w v],[]=>.br (okW v) (K (armFr (armD v)) []) (.no 1)
 | _,_=>.no 1
include hG in
theorem ok15:qc prog G 13 s15:=by
 refine qq hG (.cons (ok68 hG) .nil) mix enter15 (L:=[]) (pol:=pol15) fun args hs K x h => ?_
 unfold s15 at h
 split at h
 case h_2=>cases h
 rename_i v
 obtain⟨hc,hr⟩:=k8 h
 refine⟨kA (by kernel_rfl),_,_,_,?_,.refl _,hr⟩
 rw[e15,k5 (by rw[hc];decide),k5 (by rw[kH];omega),k7]
 rfl

theorem smQ_mk {n:Int} {d:Nat} (hd:d≠0) (hn:n.natAbs<=1000000) (hd2:d<=1000):smQ (mkRat n d)=true:=
 smQ_iff.2 ⟨Nat.le_trans (mkRat_num_le n hd) hn,Nat.le_trans (mkRat_den_le n hd) hd2⟩
theorem mk_posI {n:Int} {d:Nat} (hn:0<n) (hd:0<d):(0:Rat)<mkRat n d:=by
 rw[show n=((n.toNat:Nat):Int) by omega];exact Prof.mk_pos (by omega) hd
theorem mk_negI {n:Int} {d:Nat} (hn:n<0) (hd:0<d):mkRat n d<(0:Rat):=by
 have h:=mk_posI (n := -n) (d:=d) (by omega) hd
 rw[<-Rat.neg_mkRat]at h
 grind
def shF (g:Int) (b:Bool):Cont:=match b with
 | true=>.vals [.agg [.q (mkRat (-1) 4) 64,.q (mkRat (-1) 4) 64],.agg [.q (mkRat (4+2*g+1) 4) 64,.q (mkRat 0 4) 64],.agg [.q (mkRat (-1) 4) 64,.q (mkRat 1 4) 64]]
 | false=>.vals [.agg [.q (mkRat (-1) 4) 64,.q (mkRat (-1) 4) 64],.agg [.q (mkRat (4+2*g+1) 4) 64,.q (mkRat (-1) 4) 64],.agg [.q (mkRat (4+2*g+1) 4) 64,.q (mkRat 1 4) 64],.agg [.q (mkRat (-1) 4) 64,.q (mkRat 1 4) 64]]
theorem shV_F (v:PV):shV v=shF (nx v 4) (decide (nx (rs (rs (rs (rs (rs v))))) 3=2)):=by
 unfold shV
 by_cases hb:nx (rs (rs (rs (rs (rs v))))) 3=2
 ·rw[if_pos hb,kF hb];rfl
 ·rw[if_neg hb,kG hb];rfl
theorem shF_ok:∀ (g:Nat) (b:Bool),g<4->polyB (shF g b).len (fun i=>dq (fldV ((shF g b).get i) 0)) (fun i=>dq (fldV ((shF g b).get i) 1))=true
 | 0,true,_=>by kernel_rfl
 | 1,true,_=>by kernel_rfl
 | 2,true,_=>by kernel_rfl
 | 3,true,_=>by kernel_rfl
 | 0,false,_=>by kernel_rfl
 | 1,false,_=>by kernel_rfl
 | 2,false,_=>by kernel_rfl
 | 3,false,_=>by kernel_rfl
theorem lkB_V (v:PV):lkB (lkD v)=true:=by
 have g0:=qw v (show(0:Int)<4 by omega)
 have g1:=qw (rs v) (show(0:Int)<6 by omega)
 have g2:=qw (rs (rs v)) (show(0:Int)<6 by omega)
 have g3:=qw (rs (rs (rs v))) (show(0:Int)<8 by omega)
 have g4:=qw (rs (rs (rs (rs v)))) (show(0:Int)<20 by omega)
 have t3:Int.toNat 3=3:=rfl
 have t4:Int.toNat 4=4:=rfl
 have p:=shF_ok (nx v 4).toNat (decide (nx (rs (rs (rs (rs (rs v))))) 3=2)) (by omega)
 rw[Int.toNat_of_nonneg g0.1,<-shV_F]at p
 have hlh:lowV v<highV v:=by
  have a:=mk_negI (n := -1-nx (rs v) 6) (d:=3) (by omega) (by omega)
  have b:=mk_posI (n:=1+nx (rs (rs v)) 6) (d:=3) (by omega) (by omega)
  unfold lowV highV
  rw[t3]
  grind
 simp only[lkB,kD,kE]
 refine⟨⟨⟨⟨⟨⟨⟨⟨⟨?_,?_⟩,?_⟩,?_⟩,?_⟩,?_⟩,hlh⟩,?_⟩,?_⟩,p⟩
 ·exact smQ_mk (by omega) (by omega) (by omega)
 ·exact smQ_mk (by omega) (by omega) (by omega)
 ·exact smQ_mk (by omega) (by omega) (by omega)
 ·exact smQ_mk (by omega) (by omega) (by omega)
 ·exact smQ_mk (by omega) (by omega) (by omega)
 ·exact mk_posI (by omega) (by omega)
 ·exact mk_posI (by omega) (by omega)
 ·exact mk_posI (by omega) (by omega)
theorem armB_V (v:PV):armB (armD v)=true:=by
 have g0:=qw v (show(0:Int)<4 by omega)
 have g1:=qw (rs v) (show(0:Int)<3 by omega)
 have g2:=qw (rs (rs v)) (show(0:Int)<3 by omega)
 have hn:(armD v).n=(1+nx (rs (rs v)) 3).toNat:=rfl
 simp only[armB,kD,kE,List.all_eq_true]
 refine⟨⟨⟨⟨⟨⟨by kernel_rfl,by kernel_rfl⟩,by kernel_rfl⟩,?_⟩,by omega⟩,by omega⟩,fun j _=>lkB_V _⟩
 have gt:∀ i:Nat,([(0:Int),1,-1,1].getD i 0).natAbs<=1:=by
  intro i
  match i with
  | 0=>decide
  | 1=>decide
  | 2=>decide
  | 3=>decide
  | i+4=>show(0:Int).natAbs<=1;decide
 have:=gt (nx v 4).toNat
 exact smQ_mk (by omega) (by omega) (by omega)
def b106a:Code:=(qi (qd f94)).getD 0 .skip
def b106b:Code:=(qi (qd f94)).getD 1 .skip
def pol106:Pol:={live:=[(3,[1,4,5,12,13,14]),(8,[1,4,5,26,27,28])]}
theorem enter106:Enters prog 94 f94 (qd f94):=⟨func94,by kernel_rfl,rfl⟩
def st106a (x:Rat) (w:Nat) (bl:List UInt8) (i:Nat):LS:=⟨[.ptr 0 3 0 0 [],.i .i64 (bv (bl.take i):Nat),.i .i64 0,.lst 1 (.ints .u8 (bl.map fun c=>(c.toNat:Int))),.i .i64 (bl.length:Nat),.i .i64 (i:Nat)],[some ⟨3,.vals [.q x w]⟩]⟩
def st106b (x:Rat) (w:Nat) (a:Int) (bl:List UInt8) (i:Nat):LS:=⟨[.ptr 0 3 0 0 [],.i .i64 a,.i .i64 (bv (bl.take i):Nat),.lst 1 (.ints .u8 (bl.map fun c=>(c.toNat:Int))),.i .i64 (bl.length:Nat),.i .i64 (i:Nat)],[some ⟨3,.vals [.q x w]⟩]⟩
theorem r106a (x:Rat) (w:Nat) (a b n i:Int) (l:List Int):qe prog [] [] pol106 f94.ntmps 0 [1,4,5,12,13,14] b106a ⟨[.ptr 0 3 0 0 [],.i .i64 a,.i .i64 b,.lst 1 (.ints .u8 l),.i .i64 n,.i .i64 i],[some ⟨3,.vals [.q x w]⟩]⟩=
 Tr.br (decide (i<n)) (.br (ix (i) ((l.length:Int))) (.br (ib ((256:Int)*a)) (.br (ib ((256:Int)*a+IntKind.i64.wrap (l.getD i.toNat 0))) (.br (ib (i+1)) (.ok (.out .normal (LS.mk [.ptr 0 3 0 0 [],.i .i64 ((256:Int)*a+IntKind.i64.wrap (l.getD i.toNat 0)),.i .i64 b,.lst 1 (.ints .u8 l),.i .i64 n,.i .i64 (i+1)] [some (.mk 3 (.vals [.q x w]))]))) (.no 7002)) (.no 6002)) (.no 6005)) (.no 5003)) (.ok (.out (.exit 0) (LS.mk [.ptr 0 3 0 0 [],.i .i64 a,.i .i64 b,.lst 1 (.ints .u8 l),.i .i64 n,.i .i64 i] [some (.mk 3 (.vals [.q x w]))]))):=by kernel_rfl
theorem r106b (x:Rat) (w:Nat) (a b n i:Int) (l:List Int):qe prog [] [] pol106 f94.ntmps 0 [1,4,5,26,27,28] b106b ⟨[.ptr 0 3 0 0 [],.i .i64 a,.i .i64 b,.lst 1 (.ints .u8 l),.i .i64 n,.i .i64 i],[some ⟨3,.vals [.q x w]⟩]⟩=
 Tr.br (decide (i<n)) (.br (ix (i) ((l.length:Int))) (.br (ib ((256:Int)*b)) (.br (ib ((256:Int)*b+IntKind.i64.wrap (l.getD i.toNat 0))) (.br (ib (i+1)) (.ok (.out .normal (LS.mk [.ptr 0 3 0 0 [],.i .i64 a,.i .i64 ((256:Int)*b+IntKind.i64.wrap (l.getD i.toNat 0)),.lst 1 (.ints .u8 l),.i .i64 n,.i .i64 (i+1)] [some (.mk 3 (.vals [.q x w]))]))) (.no 12002)) (.no 11002)) (.no 11005)) (.no 10003)) (.ok (.out (.exit 2) (LS.mk [.ptr 0 3 0 0 [],.i .i64 a,.i .i64 b,.lst 1 (.ints .u8 l),.i .i64 n,.i .i64 i] [some (.mk 3 (.vals [.q x w]))]))):=by kernel_rfl
def bI (l:List Int):Int:=(bv (l.map fun n=>UInt8.ofNat n.toNat):Nat)
theorem bI_map (bl:List UInt8):bI (bl.map fun c=>(c.toNat:Int))=(bv bl:Nat):=by
 unfold bI
 rw[List.map_map]
 have:(List.map ((fun n:Int=>UInt8.ofNat n.toNat)∘fun c:UInt8=>(c.toNat:Int)) bl)=bl:=by
  rw[List.map_congr_left (g:=id) (fun c _=>by simp),List.map_id]
 rw[this]
def F106 (l:List Int) (n i:Int):Prop:=∃ bl:List UInt8,l=(bl.map fun c=>(c.toNat:Int))/\n=(bl.length:Nat)/\i=0/\bl.length<=2
def l106a:qA:=fun ls K=>match ls with
 | ⟨[.ptr 0 3 0 0 [],.i .i64 a,.i .i64 b,.lst 1 (.ints .u8 l),.i .i64 n,.i .i64 i],[some ⟨3,.vals [.q x w]⟩]⟩=>.br (qg (F106 l n i/\a=0/\b=0)) (K (.exit 0) ⟨[.ptr 0 3 0 0 [],.i .i64 (bI l),.i .i64 b,.lst 1 (.ints .u8 l),.i .i64 n,.i .i64 n],[some ⟨3,.vals [.q x w]⟩]⟩) (.no 1)
 | _=>.no 1
def l106b:qA:=fun ls K=>match ls with
 | ⟨[.ptr 0 3 0 0 [],.i .i64 a,.i .i64 b,.lst 1 (.ints .u8 l),.i .i64 n,.i .i64 i],[some ⟨3,.vals [.q x w]⟩]⟩=>.br (qg (F106 l n i/\b=0)) (K (.exit 2) ⟨[.ptr 0 3 0 0 [],.i .i64 a,.i .i64 (bI l),.lst 1 (.ints .u8 l),.i .i64 n,.i .i64 n],[some ⟨3,.vals [.q x w]⟩]⟩) (.no 1)
 | _=>.no 1
theorem bv2_lt (bl:List UInt8) (i:Nat) (h:bl.length<=2):bv (bl.take i)<65536:=by
 have h1:=bv_lt (bl.take i)
 have h2:256^(bl.take i).length<=256^2:=Nat.pow_le_pow_right (by omega) (by rw[List.length_take];omega)
 omega
theorem bv_take_succ (bl:List UInt8) (i:Nat) (h:i<bl.length):bv (bl.take (i+1))=bv (bl.take i)*256+(bl.getD i 0).toNat:=by
 rw[List.take_add_one,List.getElem?_eq_getElem h,List.getD_eq_getElem?_getD,List.getElem?_eq_getElem h]
 exact bv_snoc _ _
theorem byte_get (bl:List UInt8) (i:Nat) (h:i<bl.length):IntKind.i64.wrap ((bl.map fun c=>(c.toNat:Int)).getD i 0)=((bl.getD i 0).toNat:Int):=by
 rw[List.getD_eq_getElem?_getD,List.getD_eq_getElem?_getD,List.getElem?_map,List.getElem?_eq_getElem h]
 have:=UInt8.toNat_lt (bl[i])
 show IntKind.i64.wrap ((bl[i].toNat:Nat):Int)=((bl[i].toNat:Nat):Int)
 exact wi64 (by omega) (by omega)
include hG in
theorem loop106a:qz prog G f94.ntmps 0 [1,4,5,12,13,14] b106a l106a:=by
 intro ls K y hm h
 unfold l106a at h
 split at h
 case h_2=>cases h
 rename_i a b l n i x w
 obtain⟨hc,hr⟩:=k8 h
 obtain⟨⟨bl,rfl,rfl,rfl,hl⟩,rfl,rfl⟩:=decP_iff.1 hc
 have hg:=Goes.count (R:=Rnd prog G f94.ntmps 0 [1,4,5,12,13,14] b106a) (fun i=>st106a x w bl i) (e:=.exit 0) (ls':=st106a x w bl bl.length) (by simp) bl.length 0
  (fun i _ hi=>qb hG .nil mix (L:=[]) (pol:=pol106) (O:=[]) (kA (by kernel_rfl)) (Nat.zero_le _) (by
   have hi':i<bl.length:=by omega
   have b1:=bv2_lt bl i hl
   have b2:=bv2_lt bl (i+1) hl
   have b3:=bv_take_succ bl i hi'
   have b4:=byte_get bl i hi'
   unfold st106a
   rw[r106a,Int.toNat_natCast,b4,k5 (kF (by omega)),k5 (by simp only[kD,kE,List.length_map];omega),k5 (by simp only[kD,kE];omega),k5 (by simp only[kD,kE];omega),k5 (by simp only[kD,kE];omega),k7]
   have e1:256*((bv (bl.take i):Nat):Int)+((bl.getD i 0).toNat:Int)=((bv (bl.take (i+1)):Nat):Int):=by omega
   rw[e1]
   rfl))
  (by
   refine qb hG .nil mix (L:=[]) (pol:=pol106) (O:=[]) (kA (by kernel_rfl)) (Nat.zero_le _) ?_
   unfold st106a
   rw[Nat.zero_add,r106a,k6 (kG (by omega)),k7])
 refine⟨_,_,qx hg,?_⟩
 unfold st106a
 rw[List.take_length,<-bI_map]
 exact hr
include hG in
theorem loop106b:qz prog G f94.ntmps 0 [1,4,5,26,27,28] b106b l106b:=by
 intro ls K y hm h
 unfold l106b at h
 split at h
 case h_2=>cases h
 rename_i a b l n i x w
 obtain⟨hc,hr⟩:=k8 h
 obtain⟨⟨bl,rfl,rfl,rfl,hl⟩,rfl⟩:=decP_iff.1 hc
 have hg:=Goes.count (R:=Rnd prog G f94.ntmps 0 [1,4,5,26,27,28] b106b) (fun i=>st106b x w a bl i) (e:=.exit 2) (ls':=st106b x w a bl bl.length) (by simp) bl.length 0
  (fun i _ hi=>qb hG .nil mix (L:=[]) (pol:=pol106) (O:=[]) (kA (by kernel_rfl)) (Nat.zero_le _) (by
   have hi':i<bl.length:=by omega
   have b1:=bv2_lt bl i hl
   have b2:=bv2_lt bl (i+1) hl
   have b3:=bv_take_succ bl i hi'
   have b4:=byte_get bl i hi'
   unfold st106b
   rw[r106b,Int.toNat_natCast,b4,k5 (kF (by omega)),k5 (by simp only[kD,kE,List.length_map];omega),k5 (by simp only[kD,kE];omega),k5 (by simp only[kD,kE];omega),k5 (by simp only[kD,kE];omega),k7]
   have e1:256*((bv (bl.take i):Nat):Int)+((bl.getD i 0).toNat:Int)=((bv (bl.take (i+1)):Nat):Int):=by omega
   rw[e1]
   rfl))
  (by
   refine qb hG .nil mix (L:=[]) (pol:=pol106) (O:=[]) (kA (by kernel_rfl)) (Nat.zero_le _) ?_
   unfold st106b
   rw[Nat.zero_add,r106b,k6 (kG (by omega)),k7])
 refine⟨_,_,qx hg,?_⟩
 unfold st106b
 rw[List.take_length,<-bI_map]
 exact hr
theorem e106 (x:Rat) (w:Nat):evF prog [] [(3,l106a),(8,l106b)] pol106 f94 [.q x w] [] ql=
 Tr.br (qg (F106 (List.map (fun(c:UInt8)=>(c.toNat:Int)) (qa x.num.natAbs x.num.natAbs []).toArray.toList) (↑(List.map (fun(c:UInt8)=>(c.toNat:Int)) (qa x.num.natAbs x.num.natAbs []).toArray.toList).length:Int) (0:Int)/\(0:Int)=0/\(0:Int)=0)) (.br (qg (F106 (List.map (fun(c:UInt8)=>(c.toNat:Int)) (qa x.den x.den []).toArray.toList) (↑(List.map (fun(c:UInt8)=>(c.toNat:Int)) (qa x.den x.den []).toArray.toList).length:Int) (0:Int)/\(0:Int)=0)) (.br (qo x) (.br (ib (0-bI (List.map (fun(c:UInt8)=>(c.toNat:Int)) (qa x.num.natAbs x.num.natAbs []).toArray.toList))) (.ok (.ret (.tup [.i .i64 (0-bI (List.map (fun(c:UInt8)=>(c.toNat:Int)) (qa x.num.natAbs x.num.natAbs []).toArray.toList)),.i .i64 (if (1:Int)>bI (List.map (fun(c:UInt8)=>(c.toNat:Int)) (qa x.den x.den []).toArray.toList)then (1:Int)else bI (List.map (fun(c:UInt8)=>(c.toNat:Int)) (qa x.den x.den []).toArray.toList))]) [])) (.no 14002)) (.ok (.ret (.tup [.i .i64 (bI (List.map (fun(c:UInt8)=>(c.toNat:Int)) (qa x.num.natAbs x.num.natAbs []).toArray.toList)),.i .i64 (if (1:Int)>bI (List.map (fun(c:UInt8)=>(c.toNat:Int)) (qa x.den x.den []).toArray.toList)then (1:Int)else bI (List.map (fun(c:UInt8)=>(c.toNat:Int)) (qa x.den x.den []).toArray.toList))]) []))) (.no 1)) (.no 1):=by kernel_rfl
def smX (x:Rat):Bool:=decide (x.num.natAbs<1000)&&decide (x.den<1000)
def s106:Spec:=fun args hs K=>match args,hs with
 | [.q x _],[]=>.br (smX x) (K (.tup [.i .i64 x.num,.i .i64 x.den]) []) (.no 1)
 | _,_=>.no 1


theorem bI_nbl (n:Nat):bI (List.map (fun(c:UInt8)=>(c.toNat:Int)) (qa n n []).toArray.toList)=(n:Int):=by
 rw[show(qa n n []).toArray.toList=nbl n from rfl,bI_map,bv_nbl]
theorem F106_nbl {n:Nat} (h:n<65536):F106 (List.map (fun(c:UInt8)=>(c.toNat:Int)) (qa n n []).toArray.toList) ((List.map (fun(c:UInt8)=>(c.toNat:Int)) (qa n n []).toArray.toList).length:Nat) 0:=by
 rw[show(qa n n []).toArray.toList=nbl n from rfl]
 exact⟨nbl n,rfl,by rw[List.length_map],rfl,nbl_length_le (k:=2) (by omega)⟩
include hG in
theorem ok106:qc prog G 94 s106:=by
 refine qq hG .nil mix enter106 (L:=[(3,l106a),(8,l106b)]) (pol:=pol106) fun args hs K x h => ?_
 unfold s106 at h
 split at h
 case h_2=>cases h
 rename_i x w
 obtain⟨hc,hr⟩:=k8 h
 simp only[smX,kD,kE]at hc
 refine⟨lps2 (b1:=b106a) (live1:=[1,4,5,12,13,14]) (sp1:=l106a) (b2:=b106b) (live2:=[1,4,5,26,27,28]) (sp2:=l106b) (m:=0) (by kernel_rfl) (by kernel_rfl) (by kernel_rfl) (by kernel_rfl) (by kernel_rfl) (loop106a hG) (loop106b hG),?_⟩
 have hd:=x.den_pos
 rw[e106,bI_nbl,bI_nbl,k5 (decP_iff.2 ⟨F106_nbl (by omega),rfl,rfl⟩),k5 (decP_iff.2 ⟨F106_nbl (by omega),rfl⟩)]
 have e2:(if (1:Int)>(x.den:Int)then (1:Int)else (x.den:Int))=(x.den:Int):=if_neg (by omega)
 rw[e2]
 cases hn:qo x with
 | true=>
  have hneg:x.num<0:=of_decide_eq_true hn
  rw[k5 rfl,k5 (by simp only[kD,kE];omega),k7,show(0:Int)-(x.num.natAbs:Int)=x.num by omega]
  exact⟨_,_,_,rfl,.refl _,hr⟩
 | false=>
  have hneg:¬ x.num<0:=of_decide_eq_false hn
  rw[k6 rfl,k7,show(x.num.natAbs:Int)=x.num by omega]
  exact⟨_,_,_,rfl,.refl _,hr⟩
def b69:Code:=(qi (qd f48)).getD 0 .skip
def pol69:Pol:={live:=[(3,[1,5,14,15,16])],wr:=[(14,[0])]}
theorem enter69:Enters prog 48 f48 (qd f48):=⟨func48,by kernel_rfl,rfl⟩
def O69:Orc:=[(14,s45),(55,s81),(94,s106)]
def n69 (v:PV) (n:Nat) (lk:Nat->Lk) (i:Int):LS:=⟨[.ptr 0 1 0 0 [],.nil,.lst 16 (.fn n (fun j=>lkPV (lk j))),.i .i64 n,.i .i64 i],[some ⟨1,.vals [.agg [.w v]]⟩]⟩
def x69 (v:PV) (n:Nat) (lk:Nat->Lk) (xs:List Rat) (i:Int):LS:=⟨[.ptr 0 1 0 0 [],.sl 1 3 0 xs.length,.lst 16 (.fn n (fun j=>lkPV (lk j))),.i .i64 n,.i .i64 i],[some ⟨1,.vals [.agg [.w v]]⟩,some ⟨3,.rats 64 xs⟩]⟩
theorem r69n (v:PV) (n:Nat) (lk:Nat->Lk) (i:Int):qe prog O69 [] pol69 f48.ntmps 1 [1,5,14,15,16] b69 (n69 v n lk i)=
 Tr.br (decide (i<(n:Int))) (.br (ix (i) ((n:Int))) (.br (smX (lk i.toNat).low) (.br (smX (lk i.toNat).high) (.br (okW v&&decide ((0:Int)<9)&&decide ((9:Int)<=4294967296)) (.br (ib ((8:Int)*(lk i.toNat).low.num)) (.br (ib ((8:Int)*(lk i.toNat).low.num*(↑(lk i.toNat).high.den:Int))) (.br (ib ((lk i.toNat).high.num*(↑(lk i.toNat).low.den:Int))) (.br (ib ((lk i.toNat).low.num*(↑(lk i.toNat).high.den:Int))) (.br (ib ((lk i.toNat).high.num*(↑(lk i.toNat).low.den:Int)-(lk i.toNat).low.num*(↑(lk i.toNat).high.den:Int))) (.br (ib (((lk i.toNat).high.num*(↑(lk i.toNat).low.den:Int)-(lk i.toNat).low.num*(↑(lk i.toNat).high.den:Int))*nx v (9:Int))) (.br (ib ((8:Int)*(lk i.toNat).low.num*(↑(lk i.toNat).high.den:Int)+((lk i.toNat).high.num*(↑(lk i.toNat).low.den:Int)-(lk i.toNat).low.num*(↑(lk i.toNat).high.den:Int))*nx v (9:Int))) (.br (ib ((8:Int)*(↑(lk i.toNat).low.den:Int))) (.br (ib ((8:Int)*(↑(lk i.toNat).low.den:Int)*(↑(lk i.toNat).high.den:Int))) (.br (decide ((0:Int)<8*(↑(lk i.toNat).low.den:Int)*(↑(lk i.toNat).high.den:Int))&&decide ((8:Int)*(↑(lk i.toNat).low.den:Int)*(↑(lk i.toNat).high.den:Int)<4611686018427387904)&&decide ((-4611686018427387904:Int)<8*(lk i.toNat).low.num*(↑(lk i.toNat).high.den:Int)+((lk i.toNat).high.num*(↑(lk i.toNat).low.den:Int)-(lk i.toNat).low.num*(↑(lk i.toNat).high.den:Int))*nx v (9:Int))&&decide ((8:Int)*(lk i.toNat).low.num*(↑(lk i.toNat).high.den:Int)+((lk i.toNat).high.num*(↑(lk i.toNat).low.den:Int)-(lk i.toNat).low.num*(↑(lk i.toNat).high.den:Int))*nx v (9:Int)<4611686018427387904)) (.br (Nat.blt (0:Nat) [mkRat ((8:Int)*(lk i.toNat).low.num*(↑(lk i.toNat).high.den:Int)+((lk i.toNat).high.num*(↑(lk i.toNat).low.den:Int)-(lk i.toNat).low.num*(↑(lk i.toNat).high.den:Int))*nx v (9:Int)) ((8:Int)*(↑(lk i.toNat).low.den:Int)*(↑(lk i.toNat).high.den:Int)).toNat].length&&[mkRat ((8:Int)*(lk i.toNat).low.num*(↑(lk i.toNat).high.den:Int)+((lk i.toNat).high.num*(↑(lk i.toNat).low.den:Int)-(lk i.toNat).low.num*(↑(lk i.toNat).high.den:Int))*nx v (9:Int)) ((8:Int)*(↑(lk i.toNat).low.den:Int)*(↑(lk i.toNat).high.den:Int)).toNat].length.ble 4294967296) (.br (ib (i+1)) (.ok (.out .normal {t:=[.ptr 0 1 0 0 [],.sl 1 3 0 1,.lst 16 (.fn n fun(j:Nat)=>lkPV (lk j)),.i .i64 (n:Int),.i .i64 (i+1)],h:=[some {e:=1,c:=Cont.vals [.agg [(rs v).w]]},some {e:=3,c:=Cont.rats 64 [mkRat ((8:Int)*(lk i.toNat).low.num*(↑(lk i.toNat).high.den:Int)+((lk i.toNat).high.num*(↑(lk i.toNat).low.den:Int)-(lk i.toNat).low.num*(↑(lk i.toNat).high.den:Int))*nx v (9:Int)) ((8:Int)*(↑(lk i.toNat).low.den:Int)*(↑(lk i.toNat).high.den:Int)).toNat]}]})) (.no 10002)) (.no 9002)) (.no 1)) (.no 9005)) (.no 9007)) (.no 9009)) (.no 9010)) (.no 9012)) (.no 9013)) (.no 9016)) (.no 9019)) (.no 9021)) (.no 1)) (.no 1)) (.no 1)) (.no 5004)) (.ok (.out (.exit 0) {t:=[.ptr 0 1 0 0 [],.nil,.lst 16 (.fn n fun(j:Nat)=>lkPV (lk j)),.i .i64 (n:Int),.i .i64 i],h:=[some {e:=1,c:=Cont.vals [.agg [v.w]]}]})):=by kernel_rfl
theorem r69 (v:PV) (n:Nat) (lk:Nat->Lk) (xs:List Rat) (i:Int):qe prog O69 [] pol69 f48.ntmps 1 [1,5,14,15,16] b69 (x69 v n lk xs i)=
 Tr.br (decide (i<(n:Int))) (.br (ix (i) ((n:Int))) (.br (smX (lk i.toNat).low) (.br (smX (lk i.toNat).high) (.br (okW v&&decide ((0:Int)<9)&&decide ((9:Int)<=4294967296)) (.br (ib ((8:Int)*(lk i.toNat).low.num)) (.br (ib ((8:Int)*(lk i.toNat).low.num*(↑(lk i.toNat).high.den:Int))) (.br (ib ((lk i.toNat).high.num*(↑(lk i.toNat).low.den:Int))) (.br (ib ((lk i.toNat).low.num*(↑(lk i.toNat).high.den:Int))) (.br (ib ((lk i.toNat).high.num*(↑(lk i.toNat).low.den:Int)-(lk i.toNat).low.num*(↑(lk i.toNat).high.den:Int))) (.br (ib (((lk i.toNat).high.num*(↑(lk i.toNat).low.den:Int)-(lk i.toNat).low.num*(↑(lk i.toNat).high.den:Int))*nx v (9:Int))) (.br (ib ((8:Int)*(lk i.toNat).low.num*(↑(lk i.toNat).high.den:Int)+((lk i.toNat).high.num*(↑(lk i.toNat).low.den:Int)-(lk i.toNat).low.num*(↑(lk i.toNat).high.den:Int))*nx v (9:Int))) (.br (ib ((8:Int)*(↑(lk i.toNat).low.den:Int))) (.br (ib ((8:Int)*(↑(lk i.toNat).low.den:Int)*(↑(lk i.toNat).high.den:Int))) (.br (decide ((0:Int)<8*(↑(lk i.toNat).low.den:Int)*(↑(lk i.toNat).high.den:Int))&&decide ((8:Int)*(↑(lk i.toNat).low.den:Int)*(↑(lk i.toNat).high.den:Int)<4611686018427387904)&&decide ((-4611686018427387904:Int)<8*(lk i.toNat).low.num*(↑(lk i.toNat).high.den:Int)+((lk i.toNat).high.num*(↑(lk i.toNat).low.den:Int)-(lk i.toNat).low.num*(↑(lk i.toNat).high.den:Int))*nx v (9:Int))&&decide ((8:Int)*(lk i.toNat).low.num*(↑(lk i.toNat).high.den:Int)+((lk i.toNat).high.num*(↑(lk i.toNat).low.den:Int)-(lk i.toNat).low.num*(↑(lk i.toNat).high.den:Int))*nx v (9:Int)<4611686018427387904)) (.br (xs.length.ble xs.length&&(xs.length+[mkRat ((8:Int)*(lk i.toNat).low.num*(↑(lk i.toNat).high.den:Int)+((lk i.toNat).high.num*(↑(lk i.toNat).low.den:Int)-(lk i.toNat).low.num*(↑(lk i.toNat).high.den:Int))*nx v (9:Int)) ((8:Int)*(↑(lk i.toNat).low.den:Int)*(↑(lk i.toNat).high.den:Int)).toNat].length).ble 4294967296) (.br (ib (i+1)) (.ok (.out .normal {t:=[.ptr 0 1 0 0 [],.sl 1 3 0 (xs.length+[mkRat ((8:Int)*(lk i.toNat).low.num*(↑(lk i.toNat).high.den:Int)+((lk i.toNat).high.num*(↑(lk i.toNat).low.den:Int)-(lk i.toNat).low.num*(↑(lk i.toNat).high.den:Int))*nx v (9:Int)) ((8:Int)*(↑(lk i.toNat).low.den:Int)*(↑(lk i.toNat).high.den:Int)).toNat].length),.lst 16 (.fn n fun(j:Nat)=>lkPV (lk j)),.i .i64 (n:Int),.i .i64 (i+1)],h:=[some {e:=1,c:=Cont.vals [.agg [(rs v).w]]},some {e:=3,c:=Cont.rats 64 (List.take xs.length (List.drop 0 xs)++[mkRat ((8:Int)*(lk i.toNat).low.num*(↑(lk i.toNat).high.den:Int)+((lk i.toNat).high.num*(↑(lk i.toNat).low.den:Int)-(lk i.toNat).low.num*(↑(lk i.toNat).high.den:Int))*nx v (9:Int)) ((8:Int)*(↑(lk i.toNat).low.den:Int)*(↑(lk i.toNat).high.den:Int)).toNat])}]})) (.no 10002)) (.no 9002)) (.no 1)) (.no 9005)) (.no 9007)) (.no 9009)) (.no 9010)) (.no 9012)) (.no 9013)) (.no 9016)) (.no 9019)) (.no 9021)) (.no 1)) (.no 1)) (.no 1)) (.no 5004)) (.ok (.out (.exit 0) {t:=[.ptr 0 1 0 0 [],.sl 1 3 0 xs.length,.lst 16 (.fn n fun(j:Nat)=>lkPV (lk j)),.i .i64 (n:Int),.i .i64 i],h:=[some {e:=1,c:=Cont.vals [.agg [v.w]]},some {e:=3,c:=Cont.rats 64 xs}]})):=by kernel_rfl

def itRs:Nat->PV->PV
 | 0,v=>v
 | k+1,v=>rs (itRs k v)
theorem okW_itRs {v:PV} (h:okW v=true):∀ k,okW (itRs k v)=true
 | 0=>h
 | k+1=>qG (okW_itRs h k)
def cf0 (l h:Rat) (k:Int):Rat:=mkRat ((8:Int)*l.num*(h.den:Int)+(h.num*(l.den:Int)-l.num*(h.den:Int))*k) ((8:Int)*(l.den:Int)*(h.den:Int)).toNat
def cf1 (lk:Nat->Lk) (v:PV) (j:Nat):Rat:=cf0 (lk j).low (lk j).high (nx (itRs j v) 9)
def cfL (lk:Nat->Lk) (v:PV) (n:Nat):List Rat:=(List.range n).map (cf1 lk v)
theorem cfL_succ (lk:Nat->Lk) (v:PV) (n:Nat):cfL lk v (n+1)=cfL lk v n++[cf1 lk v n]:=by simp[cfL,List.range_succ]
theorem cfL_len (lk:Nat->Lk) (v:PV) (n:Nat):(cfL lk v n).length=n:=by simp[cfL]
theorem nabs_mul {a b:Int} {A B:Nat} (ha:a.natAbs<=A) (hb:b.natAbs<=B):(a*b).natAbs<=A*B:=by
 rw[Int.natAbs_mul];exact Nat.mul_le_mul ha hb
theorem smX_iff {x:Rat}:smX x=true↔x.num.natAbs<1000/\x.den<1000:=by simp[smX]
def st69 (v:PV) (n:Nat) (lk:Nat->Lk) (xs:List Rat) (i:Int):LS:=match xs with
 | []=>n69 v n lk i
 | xs=>x69 v n lk xs i
theorem st69_x {v:PV} {n:Nat} {lk:Nat->Lk} {xs:List Rat} {i:Int} (h:xs≠[]):st69 v n lk xs i=x69 v n lk xs i:=by
 cases xs with
 | nil=>exact absurd rfl h
 | cons x xs=>rfl
include hG in
theorem orc69:OrcOK prog G O69:=.cons (ok45 hG) (.cons (ok81 hG) (.cons (ok106 hG) .nil))
theorem step69 (v:PV) (hw:okW v=true) (n:Nat) (lk:Nat->Lk) (xs:List Rat) (j:Nat) (hn:n<=3) (hj:j<n) (hx:xs.length<=1000) (h1:smX (lk j).low=true) (h2:smX (lk j).high=true):
  (qe prog O69 [] pol69 f48.ntmps 1 [1,5,14,15,16] b69 (st69 v n lk xs ((j:Nat):Int))).run=some (.out .normal (st69 (rs v) n lk (xs++[cf0 (lk j).low (lk j).high (nx v 9)]) ((j+1:Nat):Int))):=by
 obtain⟨a1,a2⟩:=smX_iff.1 h1
 obtain⟨a3,a4⟩:=smX_iff.1 h2
 have d1:=(lk j).low.den_pos
 have d2:=(lk j).high.den_pos
 have g:=qw v (show(0:Int)<9 by omega)
 have b1:((8:Int)*(lk j).low.num*((lk j).high.den:Int)).natAbs<=8*1000*1000:=nabs_mul (nabs_mul (by omega) (by omega)) (by omega)
 have b2:((lk j).high.num*((lk j).low.den:Int)).natAbs<=1000*1000:=nabs_mul (by omega) (by omega)
 have b3:((lk j).low.num*((lk j).high.den:Int)).natAbs<=1000*1000:=nabs_mul (by omega) (by omega)
 have b4:(((lk j).high.num*((lk j).low.den:Int)-(lk j).low.num*((lk j).high.den:Int))*nx v 9).natAbs<=2000000*9:=nabs_mul (by omega) (by omega)
 have b5:((8:Int)*((lk j).low.den:Int)*((lk j).high.den:Int)).natAbs<=8*1000*1000:=nabs_mul (nabs_mul (by omega) (by omega)) (by omega)
 have b6:0<(8:Int)*((lk j).low.den:Int)*((lk j).high.den:Int):=Int.mul_pos (by omega) (by omega)
 rw[st69_x (xs:=xs++[cf0 (lk j).low (lk j).high (nx v 9)]) (by simp)]
 cases xs with
 | nil=>
  show(qe prog O69 [] pol69 f48.ntmps 1 [1,5,14,15,16] b69 (n69 v n lk ((j:Nat):Int))).run=_
  rw[r69n,Int.toNat_natCast,k5 (kF (by omega)),k5 (by simp only[kD,kE];omega),k5 h1,k5 h2,k5 (by rw[hw];decide)]
  repeat rw[k5 (by simp only[kD,kE,Nat.blt_eq,kH,kI,kJ];omega)]
  rw[k7]
  rfl
 | cons y ys=>
  show(qe prog O69 [] pol69 f48.ntmps 1 [1,5,14,15,16] b69 (x69 v n lk (y::ys) ((j:Nat):Int))).run=_
  rw[r69,Int.toNat_natCast,k5 (kF (by omega)),k5 (by simp only[kD,kE];omega),k5 h1,k5 h2,k5 (by rw[hw];decide)]
  simp only[kI]at hx
  repeat rw[k5 (by simp only[kD,kE,Nat.blt_eq,kH,kI,kJ];omega)]
  rw[k7,List.drop_zero,List.take_length]
  have hlen:((y::ys)++[cf0 (lk j).low (lk j).high (nx v 9)]).length=(y::ys).length+1:=by simp
  unfold x69
  rw[hlen]
  rfl
def Pl69 (v:PV) (n:Nat) (f:Nat->PV) (m i:Int):Prop:=∃ lk:Nat->Lk,f=(fun j=>lkPV (lk j))/\m=n/\i=0/\1<=n/\n<=3/\okW v=true/\∀ j,j<n->smX (lk j).low=true/\smX (lk j).high=true
def cfF (f:Nat->PV) (v:PV) (n:Nat):List Rat:=cfL (fun j=>dLk (f j)) v n
def l69:qA:=fun ls K=>match ls with
 | ⟨[.ptr 0 1 0 0 [],.nil,.lst 16 (.fn n f),.i .i64 m,.i .i64 i],[some ⟨1,.vals [.agg [.w v]]⟩]⟩=>.br (qg (Pl69 v n f m i)) (K (.exit 0) ⟨[.ptr 0 1 0 0 [],.sl 1 3 0 (cfF f v n).length,.lst 16 (.fn n f),.i .i64 m,.i .i64 m],[some ⟨1,.vals [.agg [.w (itRs n v)]]⟩,some ⟨3,.rats 64 (cfF f v n)⟩]⟩) (.no 1)
 | _=>.no 1
include hG in
theorem loop69:qz prog G f48.ntmps 1 [1,5,14,15,16] b69 l69:=by
 intro ls K y hm h
 unfold l69 at h
 split at h
 case h_2=>cases h
 rename_i n f m i v
 obtain⟨hc,hr⟩:=k8 h
 obtain⟨lk,rfl,rfl,rfl,hn1,hn,hw,hp⟩:=decP_iff.1 hc
 have hg:=Goes.count (R:=Rnd prog G f48.ntmps 1 [1,5,14,15,16] b69) (fun i=>st69 (itRs i v) n lk (cfL lk v i) ((i:Nat):Int)) (e:=.exit 0) (ls':=st69 (itRs n v) n lk (cfL lk v n) n) (by simp) n 0
  (fun i _ hi=>qb hG (orc69 hG) mix (L:=[]) (pol:=pol69) (O:=O69) (kA (by kernel_rfl)) (by cases cfL lk v i<;>simp[st69,n69,x69]) (by
   rw[cfL_succ]
   exact step69 (itRs i v) (okW_itRs hw i) n lk _ i hn (by omega) (by rw[cfL_len];omega) (hp i (by omega)).1 (hp i (by omega)).2))
  (by
   refine qb hG (orc69 hG) mix (L:=[]) (pol:=pol69) (O:=O69) (kA (by kernel_rfl)) (by cases cfL lk v (0+n)<;>simp[st69,n69,x69]) ?_
   rw[Nat.zero_add]
   cases hc:cfL lk v n with
   | nil=>
    show(qe prog O69 [] pol69 f48.ntmps 1 [1,5,14,15,16] b69 (n69 (itRs n v) n lk ((n:Nat):Int))).run=_
    rw[r69n,k6 (kG (by omega)),k7];rfl
   | cons y ys=>
    show(qe prog O69 [] pol69 f48.ntmps 1 [1,5,14,15,16] b69 (x69 (itRs n v) n lk (y::ys) ((n:Nat):Int))).run=_
    rw[r69,k6 (kG (by omega)),k7];rfl)
 refine⟨_,_,qx hg,?_⟩
 rw[st69_x (by intro h0;have:=cfL_len lk v n;rw[h0]at this;simp at this;omega)]
 exact hr
theorem e69 (A:Am) (v:PV):evF prog O69 [(3,l69)] pol69 f48 [qm A,.ptr 0 1 0 0 []] [⟨1,.vals [.agg [.w v]]⟩] ql=
 Tr.br (qg (Pl69 v A.n (fun(j:Nat)=>lkPV (A.lk j)) (A.n:Int) (0:Int))) (.br ((cfF (fun(j:Nat)=>lkPV (A.lk j)) v A.n).length.ble (cfF (fun(j:Nat)=>lkPV (A.lk j)) v A.n).length) (.ok (.ret (.fr 3 (.rats 64 (List.take (cfF (fun(j:Nat)=>lkPV (A.lk j)) v A.n).length (List.drop 0 (cfF (fun(j:Nat)=>lkPV (A.lk j)) v A.n))))) [{e:=1,c:=Cont.vals [.agg [(itRs A.n v).w]]}])) (.no 15)) (.no 1):=by kernel_rfl
def limX (A:Am):Bool:=(List.range A.n).all fun j=>smX (A.lk j).low&&smX (A.lk j).high
def P69 (arm v:PV):Prop:=okA arm/\limX (dArm arm)=true/\okW v=true
def s69:Spec:=fun args hs K=>match args,hs with
 | [.agg [.s nm,.agg [.agg [.q bx w1,.q by_ w2],.agg [hf,.q t w3]],.lst 16 c],.ptr 0 1 0 0 []],[⟨1,.vals [.agg [.w v]]⟩]=>
  .br (qg (P69 (.agg [.s nm,.agg [.agg [.q bx w1,.q by_ w2],.agg [hf,.q t w3]],.lst 16 c]) v)) (K (.fr 3 (.rats 64 (cfF c.get v c.len))) [⟨1,.vals [.agg [.w (itRs c.len v)]]⟩]) (.no 1)
 | _,_=>.no 1
include hG in
theorem ok69:qc prog G 48 s69:=by
 intro args hs K x h
 unfold s69 at h
 split at h
 case h_2=>cases h
 rename_i nm bx w1 by_ w2 hf t w3 c v
 obtain⟨hc,hr⟩:=k8 h
 obtain⟨⟨hv,hA⟩,hx,hw⟩:=decP_iff.1 hc
 generalize hA':dArm (.agg [.s nm,.agg [.agg [.q bx w1,.q by_ w2],.agg [hf,.q t w3]],.lst 16 c])=A at*
 have ek:cfF c.get v c.len=cfF (fun j=>lkPV (A.lk j)) v A.n:=by rw[<-hA'];rfl
 have en:c.len=A.n:=by rw[<-hA'];rfl
 obtain⟨h1,h2,h3,h4,h5,h6,h7⟩:=armB_c hA
 have hlim:∀ j,j<A.n->smX (A.lk j).low=true/\smX (A.lk j).high=true:=by
  intro j hj
  have:=List.all_eq_true.1 hx j (List.mem_range.2 hj)
  rwa[kD]at this
 rw[ek,en]at hr
 refine⟨_,_,PC.args (.cons hv (.refl _)) (qj hG (orc69 hG) mix enter69 (L:=[(3,l69)]) (pol:=pol69) (O:=O69) (qN (b:=b69) (live:=[1,5,14,15,16]) (sp:=l69) (m:=1) (by kernel_rfl) (by kernel_rfl) (by kernel_rfl) (loop69 hG)) ?_),hr⟩
 rw[e69,k5 (decP_iff.2 ⟨A.lk,rfl,rfl,rfl,h5,h6,hw,hlim⟩),k5 (by rw[kH];omega),k7,List.drop_zero,List.take_length]
def pol33:Pol:={wr:=[(48,[1])],own:=[9]}
theorem enter33:Enters prog 15 f15 (qd f15):=⟨func15,by kernel_rfl,rfl⟩
def s33:Spec:=fun args hs K=>match args,hs with
 | [.agg [.s nm,.agg [.agg [.q bx w1,.q by_ w2],.agg [.bl hf,.q t w3]],.lst 16 c],.w v],[]=>
  .br (qg (P69 (.agg [.s nm,.agg [.agg [.q bx w1,.q by_ w2],.agg [.bl hf,.q t w3]],.lst 16 c]) v)) (K (.fr 3 (.rats 64 (cfF c.get v c.len))) []) (.no 1)
 | _,_=>.no 1
theorem e33 (nm:ByteArray) (bx by_ t:Rat) (w1 w2 w3:Nat) (hf:Bool) (c:Cont) (v:PV):evF prog [(48,s69)] [] pol33 f15 [.agg [.s nm,.agg [.agg [.q bx w1,.q by_ w2],.agg [.bl hf,.q t w3]],.lst 16 c],.w v] [] ql=
 Tr.br (qg (P69 (.agg [.s nm,.agg [.agg [.q bx w1,.q by_ w2],.agg [.bl hf,.q t w3]],.lst 16 c]) v)) (.br ((cfF c.get v (match c with|Cont.ints k xs=>xs.length|Cont.rats n xs=>xs.length|Cont.vals vs=>vs.length|Cont.fn n f=>n)).length.ble (cfF c.get v (match c with|Cont.ints k xs=>xs.length|Cont.rats n xs=>xs.length|Cont.vals vs=>vs.length|Cont.fn n f=>n)).length) (.ok (.ret (.fr 3 (.rats 64 (List.take (Cont.rats (64:Nat) (cfF c.get v c.len)).len (List.drop 0 (cfF c.get v c.len))))) [])) (.no 15)) (.no 1):=by kernel_rfl
include hG in
theorem ok33:qc prog G 15 s33:=by
 refine qq hG (.cons (ok69 hG) .nil) mix enter33 (L:=[]) (pol:=pol33) fun args hs K x h => ?_
 unfold s33 at h
 split at h
 case h_2=>cases h
 rename_i nm bx w1 by_ w2 hf t w3 c v
 obtain⟨hc,hr⟩:=k8 h
 refine⟨kA (by kernel_rfl),_,_,_,?_,.refl _,hr⟩
 rw[e33,k5 hc,k5 (by rw[kH];exact Nat.le_refl _),k7,List.drop_zero]
 show some (Res.ret (.fr 3 (.rats 64 (List.take (cfF c.get v c.len).length (cfF c.get v c.len)))) [])=_
 rw[List.take_length]
theorem enter84:Enters prog 63 f63 (qd f63):=⟨func63,by kernel_rfl,rfl⟩
def s84:Spec:=evF prog [(65,s23)] [] {} f63
include hG in
theorem ok84:qc prog G 63 s84:=spec_ev hG (.cons (ok23 hG) .nil) mix enter84 (fun _=>kA (by kernel_rfl))
def b32:Code:=(qi (qd f64)).getD 0 .skip
def pol32:Pol:={live:=[(3,[2,3,11,12,13])]}
def O32:Orc:=[(65,s23),(63,s84)]
theorem enter32:Enters prog 64 f64 (qd f64):=⟨func64,by kernel_rfl,rfl⟩
def l32:qA:=unr prog O32 [] pol32 f64.ntmps 0 [2,3,11,12,13] b32 3
def smC (L:Int):Cont:=.vals [.agg [.q (mkRat 0 1) 64,.q (mkRat (-1) 1) 64],.agg [.q (mkRat L 1) 64,.q (mkRat (-1) 1) 64],.agg [.q (mkRat L 1) 64,.q (mkRat 1 1) 64],.agg [.q (mkRat 0 1) 64,.q (mkRat 1 1) 64]]
def smV (L:Int):PV:=lkC (mkRat L 1) (mkRat (-2) 1) (mkRat 2 1) (mkRat 1 4) (mkRat 1 10) (smC L)
def smL (L:Int):Lk:=⟨mkRat L 1,mkRat (-2) 1,mkRat 2 1,mkRat 1 4,mkRat 1 10,4,fun i=>dq (fldV ((smC L).get i) 0),fun i=>dq (fldV ((smC L).get i) 1)⟩
theorem smV_le (L:Int):VLe (smV L) (lkPV (smL L)):=by
 refine VLe.agg (VLeL.cons (.refl _) (VLeL.cons (.refl _) (VLeL.cons (.refl _) (VLeL.cons (.refl _) (VLeL.cons (.refl _) (VLeL.cons ?_ .nil))))))
 refine VLe.lst rfl fun i hi => ?_
 have hi':i<4:=hi
 match i,hi' with
 | 0,_=>exact .refl _
 | 1,_=>exact .refl _
 | 2,_=>exact .refl _
 | 3,_=>exact .refl _
 | i+4,h=>omega
def OV:Orc:=[(25,g21),(23,g27),(54,g29),(75,g43),(156,g133),(157,g134)]
theorem enter57:Enters prog 67 f67 (qd f67):=⟨func67,by kernel_rfl,rfl⟩
theorem enter121:Enters prog 139 Tryz.f139 (qd Tryz.f139):=⟨func139,by kernel_rfl,rfl⟩
theorem enter92:Enters prog 89 f89 (qd f89):=⟨func89,by kernel_rfl,rfl⟩
theorem enter51:Enters prog 136 f136 (qd f136):=⟨func136,by kernel_rfl,rfl⟩
include hG in
theorem orcV (hT:qp G):OrcOK prog G OV:=.cons (gk21 hG hT) (.cons (gk27 hG hT) (.cons (gk29 hG hT) (.cons (gk43 hG hT) (.cons (gk133 hG hT) (.cons (gk134 hG hT) .nil)))))
def g57:Spec:=evF prog OV [] {} f67
def g41:Spec:=evF prog OV [] {} f141
def g42:Spec:=evF prog OV [] {} f192
def g97:Spec:=evF prog OV [] {} f215
include hG in
theorem gk57 (hT:qp G):qc prog G 67 g57:=spec_ev hG (orcV hG hT) mix enter57 (fun _=>kA (by kernel_rfl))
include hG in
theorem gk41 (hT:qp G):qc prog G 141 g41:=spec_ev hG (orcV hG hT) mix enter41 (fun _=>kA (by kernel_rfl))
include hG in
theorem gk97 (hT:qp G):qc prog G 215 g97:=spec_ev hG (orcV hG hT) mix enter97 (fun _=>kA (by kernel_rfl))
theorem k121 (x y t:Rat) (h:Bool) (n m k:Nat):evF prog OV [] {} Tryz.f139 [.agg [.q x n,.q y m],.agg [.b h,.q t k]] [] ql=
 Tr.br (k.ble 100000&&Nat.ble 1 k) (.br (k.ble 100000&&Nat.ble 1 k) (.br ((n+((4:Nat)*k+4)).ble 800000) (.br ((m+((4:Nat)*k+4)).ble 800000) (.br ((n+((4:Nat)*k+4)+(m+((4:Nat)*k+4))+1).ble 800000) (.br ((n+((4:Nat)*k+4)).ble 800000) (.br ((m+((4:Nat)*k+4)).ble 800000) (.br ((n+((4:Nat)*k+4)+(m+((4:Nat)*k+4))+1).ble 800000) (.ok (.ret (.agg [.q (x*qQ h t-y*qB h t) (n+((4:Nat)*k+4)+(m+((4:Nat)*k+4))+1),.q (x*qB h t+y*qQ h t) (n+((4:Nat)*k+4)+(m+((4:Nat)*k+4))+1)]) [])) (.no 1)) (.no 1)) (.no 1)) (.no 1)) (.no 1)) (.no 1)) (.no 1)) (.no 1):=by kernel_rfl
def g121:Spec:=fun args hs K=>match args,hs with
 | [.agg [.q x n,.q y m],.agg [hv,.q t k]],[]=>match bof hv with
  | some h=>.br (Nat.ble (n+m+8*k+9) 800000&&Nat.ble 1 k) (K (.agg [.q (x*qQ h t-y*qB h t) (n+m+8*k+9),.q (x*qB h t+y*qQ h t) (n+m+8*k+9)]) []) (.no 1)
  | none=>.no 1
 | _,_=>.no 1
theorem vc_rle {x y u v:Rat} {n m p r:Nat} (h1:x=u) (h2:y=v) (h3:n<=p) (h4:m<=r):RLe (.agg [.q x n,.q y m]) (.agg [.q u p,.q v r]):=by
 subst h1;subst h2
 exact rle_of_vle (fun _=>rfl) (fun _=>rfl) (VLe.agg (qM (qH h3) (qM (qH h4) vll0)))
include hG in
theorem gk121 (hT:qp G):qc prog G 139 g121:=by
 intro args hs K x h
 unfold g121 at h
 split at h
 case h_2=>cases h
 rename_i x n y m hv t k
 split at h
 case h_2=>cases h
 rename_i b hb
 obtain⟨hc,hr⟩:=k8 h
 simp only[kD,kH]at hc
 have key:∃ r,(evF prog OV [] {} Tryz.f139 [.agg [.q x n,.q y m],.agg [.b b,.q t k]] [] ql).run=some (.ret r [])/\RLe r (.agg [.q (x*qQ b t-y*qB b t) (n+m+8*k+9),.q (x*qB b t+y*qQ b t) (n+m+8*k+9)]):=by
  rw[k121]
  repeat rw[k5 (by simp only[kD,kH];omega)]
  exact⟨_,rfl,vc_rle rfl rfl (by omega) (by omega)⟩
 obtain⟨r,k1,k2⟩:=key
 exact⟨_,_,PC.args (.cons (.refl _) (.cons (tn_le hb rfl (Nat.le_refl _)) .nil)) ((qj hG (orcV hG hT) mix enter121 (L:=[]) (pol:={}) (kA (by kernel_rfl)) k1).le k2 (.refl _)),hr⟩
def O92:Orc:=[(67,g57),(139,g121)]
theorem k92 (x y t u v:Rat) (h:Bool) (n m k p r:Nat):evF prog O92 [] {} f89 [.agg [.agg [.q x n,.q y m],.agg [.b h,.q t k]],.agg [.q u p,.q v r]] [] ql=
 Tr.br ((p+r+8*k+9).ble 800000&&Nat.ble 1 k) (.br ((n+(p+r+8*k+9)+1).ble 800000) (.br ((m+(p+r+8*k+9)+1).ble 800000) (.ok (.ret (.agg [.q (x+(u*qQ h t-v*qB h t)) (n+(p+r+8*k+9)+1),.q (y+(u*qB h t+v*qQ h t)) (m+(p+r+8*k+9)+1)]) [])) (.no 1)) (.no 1)) (.no 1):=by kernel_rfl
def g92:Spec:=fun args hs K=>match args,hs with
 | [.agg [.agg [.q x n,.q y m],.agg [hv,.q t k]],.agg [.q u p,.q v r]],[]=>match bof hv with
  | some h=>match r with
   | 1=>match p with
    | 1=>.br (qg (u=0/\v=0/\n+8*k+20<=800000/\m+8*k+20<=800000)) (K (.agg [.q x n,.q y m]) []) (.no 1)
    | p=>.br (qg (v=0/\n+p+8*k+20<=800000/\m+p+8*k+20<=800000/\1<=k)) (K (.agg [.q (x+u*qQ h t) (n+p+8*k+11),.q (y+u*qB h t) (m+p+8*k+11)]) []) (.no 1)
   | r=>.br (Nat.ble (n+p+r+8*k+20) 800000&&Nat.ble (m+p+r+8*k+20) 800000&&Nat.ble 1 k) (K (.agg [.q (x+(u*qQ h t-v*qB h t)) (n+p+r+8*k+10),.q (y+(u*qB h t+v*qQ h t)) (m+p+r+8*k+10)]) []) (.no 1)
  | none=>.no 1
 | _,_=>.no 1
include hG in
theorem orc92 (hT:qp G):OrcOK prog G O92:=.cons (gk57 hG hT) (.cons (gk121 hG hT) .nil)
theorem put_key (x y t u v:Rat) (h:Bool) (n m k p r:Nat) (h1:n+p+r+8*k+10<=800000) (h2:m+p+r+8*k+10<=800000) (h3:1<=k):∃ z,(evF prog O92 [] {} f89 [.agg [.agg [.q x n,.q y m],.agg [.b h,.q t k]],.agg [.q u p,.q v r]] [] ql).run=some (.ret z [])/\
  RLe z (.agg [.q (x+(u*qQ h t-v*qB h t)) (n+p+r+8*k+10),.q (y+(u*qB h t+v*qQ h t)) (m+p+r+8*k+10)]):=by
 rw[k92]
 repeat rw[k5 (by simp only[kD,kH];omega)]
 exact⟨_,rfl,vc_rle rfl rfl (by omega) (by omega)⟩
theorem put_sz {x y:Rat} {n m k:Nat} {t:Rat} {hv:PV} {b:PV} (w:World) (S:Nat->Prop) (μ:Mu) (vs:List Value) (h:RepVL w S μ [.agg [.agg [.q x n,.q y m],.agg [hv,.q t k]],b] vs):sz x<=n/\sz y<=m/\sz t<=k:=by
 cases h with
 | cons _ _ _ _ _ h _=>
  obtain⟨ds,hd⟩:=RepV_agg h (.agg [.q x n,.q y m]) (by simp)
  obtain⟨es,he⟩:=RepV_agg h (.agg [hv,.q t k]) (by simp)
  cases hd with
  | agg _ _ _ hl=>
   obtain⟨a,ha⟩:=RepL_get hl (.q x n) (by simp)
   obtain⟨b,hb⟩:=RepL_get hl (.q y m) (by simp)
   cases he with
   | agg _ _ _ hl2=>
    obtain⟨c,hc⟩:=RepL_get hl2 (.q t k) (by simp)
    exact⟨RepC_q ha,RepC_q hb,RepC_q hc⟩
include hG in
theorem gk92 (hT:qp G):qc prog G 89 g92:=by
 intro args hs K z h
 unfold g92 at h
 split at h
 case h_2=>cases h
 rename_i x n y m hv t k u p v r
 split at h
 case h_2=>cases h
 rename_i b hb
 have hargs:ArgsLe [.agg [.agg [.q x n,.q y m],.agg [hv,.q t k]],.agg [.q u p,.q v r]] [.agg [.agg [.q x n,.q y m],.agg [.b b,.q t k]],.agg [.q u p,.q v r]]:=.cons (VLe.agg (qM (.refl _) (qM (tn_le hb rfl (Nat.le_refl _)) vll0))) (.cons (.refl _) .nil)
 split at h
 ·split at h
  ·obtain⟨hc,hr⟩:=k8 h
   obtain⟨rfl,rfl,h1,h2⟩:=decP_iff.1 hc
   refine⟨_,_,?_,hr⟩
   refine PC.args hargs (pc_assume _ put_sz fun hq => ?_)
   obtain⟨r,k1,k2⟩:=put_key x y t 0 0 b n m k 1 1 (by omega) (by omega) (sz_lt hq.2.2).2.2
   refine((qj hG (orc92 hG hT) mix enter92 (L:=[]) (pol:={}) (kA (by kernel_rfl)) k1).le k2 (.refl _)).le ?_ (.refl _)
   rw[show x+(0*qQ b t-0*qB b t)=x by grind,show y+(0*qB b t+0*qQ b t)=y by grind]
   exact rle_of_vle (fun _=>rfl) (fun _=>rfl) (VLe.agg (qM (vle_qq hq.1) (qM (vle_qq hq.2.1) vll0)))
  ·obtain⟨hc,hr⟩:=k8 h
   obtain⟨rfl,h1,h2,h3⟩:=decP_iff.1 hc
   obtain⟨r,k1,k2⟩:=put_key x y t u 0 b n m k p 1 (by omega) (by omega) h3
   refine⟨_,_,PC.args hargs (((qj hG (orc92 hG hT) mix enter92 (L:=[]) (pol:={}) (kA (by kernel_rfl)) k1).le k2 (.refl _)).le (vc_rle ?_ ?_ (by omega) (by omega)) (.refl _)),hr⟩
   ·grind
   ·grind
 ·obtain⟨hc,hr⟩:=k8 h
  simp only[kD,kH]at hc
  obtain⟨r,k1,k2⟩:=put_key x y t u v b n m k p r (by omega) (by omega) hc.2
  exact⟨_,_,PC.args hargs ((qj hG (orc92 hG hT) mix enter92 (L:=[]) (pol:={}) (kA (by kernel_rfl)) k1).le k2 (.refl _)),hr⟩
def O51:Orc:=[(89,g92),(170,g93)]
def g51:Spec:=evF prog O51 [] {} f136
include hG in
theorem gk51 (hT:qp G):qc prog G 136 g51:=spec_ev hG (.cons (gk92 hG hT) (.cons (gk93 hG hT) .nil)) mix enter51 (fun _=>kA (by kernel_rfl))
theorem enter39:Enters prog 87 f87 (qd f87):=⟨func87,by kernel_rfl,rfl⟩
end
section
open Go Tryz
set_option maxRecDepth 100000
variable {G:World->(Nat->Prop)->Prop} (hG:GOk G)
def b39:Code:=(qi (qd f87)).getD 0 .skip
def pol39:Pol:={live:=[(9,[1,7,8,9,10,29,30,31])]}
def O39:Orc:=[(135,g50),(136,g51),(53,g71),(57,s85)]
structure Fr where
 x:Rat
 y:Rat
 h:Bool
 t:Rat
def frP (f:Fr) (a b:Nat):PV:=.agg [.agg [.q f.x a,.q f.y a],.agg [.b f.h,.q f.t b]]
def n39 (qs:List Rat) (n:Nat) (lk:Nat->Lk) (x y t:Rat) (i:Int):LS:=⟨[.lst 3 (.rats 64 qs),.ptr 0 10 0 0 [],.ptr 1 6 0 0 [],.ptr 2 4 0 0 [],.nil,.lst 16 (.fn n (fun j=>lkPV (lk j))),.i .i64 n,.i .i64 i],
 [some ⟨10,.vals [.agg [.agg [.q x 64,.q y 64],.agg [.bl false,.q t 64]]]⟩,some ⟨6,.vals [.agg [.q ((0:Int):Rat) 1,.q ((0:Int):Rat) 1]]⟩,some ⟨4,.vals [.agg [.bl false,.q ((0:Int):Rat) 1]]⟩]⟩
def x39 (qs:List Rat) (n:Nat) (lk:Nat->Lk) (ys:List PV) (l:Nat) (x y:Rat) (h:Bool) (t:Rat) (a b:Nat) (i:Int):LS:=⟨[.lst 3 (.rats 64 qs),.ptr 0 10 0 0 [],.ptr 1 6 0 0 [],.ptr 2 4 0 0 [],.sl 3 10 0 l,.lst 16 (.fn n (fun j=>lkPV (lk j))),.i .i64 n,.i .i64 i],
 [some ⟨10,.vals [.agg [.agg [.q x a,.q y a],.agg [.b h,.q t b]]]⟩,some ⟨6,.vals [.agg [.q ((0:Int):Rat) 1,.q ((0:Int):Rat) 1]]⟩,some ⟨4,.vals [.agg [.bl false,.q ((0:Int):Rat) 1]]⟩,some ⟨10,.vals ys⟩]⟩
theorem t39n (qs:List Rat) (n:Nat) (lk:Nat->Lk) (x y t:Rat) (i:Int):qe prog O39 [] pol39 f87.ntmps 0 [1,7,8,9,10,29,30,31] b39 (n39 qs n lk x y t i)=
 Tr.br (decide (i<(n:Int))) (.br (ix (i) ((n:Int))) (.br (ix (i) ((qs.length:Int))) (.br (Nat.ble 64 (400000:Nat)) (.br (qg ((↑(0:Int):Rat)=0/\(↑(0:Int):Rat)=0/\(64:Nat)+8*64+20<=800000/\(64:Nat)+8*64+20<=800000)) (.br (Nat.ble 64 (50000:Nat)&&Nat.ble 1 (64:Nat)&&Nat.ble 64 (50000:Nat)&&Nat.ble 1 (64:Nat)) (.br (Nat.blt (0:Nat) [PV.agg [PV.agg [PV.q x 64,PV.q y 64],PV.agg [PV.b (thH false t false (qs.getD i.toNat 0)),PV.q (thT false t false (qs.getD i.toNat 0)) 259]]].length&&[PV.agg [PV.agg [PV.q x 64,PV.q y 64],PV.agg [PV.b (thH false t false (qs.getD i.toNat 0)),PV.q (thT false t false (qs.getD i.toNat 0)) 259]]].length.ble 4294967296) (.br (decide ((-72057594037927936:Int)<0)&&decide ((0:Int)<=9223372036854775807)) (.br (qg ((↑(0:Int):Rat)=0/\(64:Nat)+64+8*((2:Nat)*64+2*64+3)+20<=800000/\(64:Nat)+64+8*((2:Nat)*64+2*64+3)+20<=800000/\(1:Nat)<=2*64+2*64+3)) (.br (qg (false=false/\(↑(0:Int):Rat)=0/\(2:Nat)*64+2*64+3<=50000)) (.br (ib (i+1)) (.ok (.out .normal (LS.mk [PV.lst 3 (.rats 64 qs),PV.ptr 0 10 0 0 [],PV.ptr 1 6 0 0 [],PV.ptr 2 4 0 0 [],PV.sl 3 10 0 1,PV.lst 16 (.fn n fun(j:Nat)=>lkPV (lk j)),PV.i .i64 (n:Int),PV.i .i64 (i+1)] [some (.mk 10 (.vals [PV.agg [PV.agg [PV.q (x+(lk i.toNat).len*qQ (thH false t false (qs.getD i.toNat 0)) (thT false t false (qs.getD i.toNat 0))) 2211,PV.q (y+(lk i.toNat).len*qB (thH false t false (qs.getD i.toNat 0)) (thT false t false (qs.getD i.toNat 0))) 2211],PV.agg [PV.b (thH false t false (qs.getD i.toNat 0)),PV.q (ftT (thH false t false (qs.getD i.toNat 0)) (thT false t false (qs.getD i.toNat 0))) 259]]])),some (.mk 6 (.vals [PV.agg [PV.q (↑(0:Int):Rat) 1,PV.q (↑(0:Int):Rat) 1]])),some (.mk 4 (.vals [PV.agg [PV.bl false,PV.q (↑(0:Int):Rat) 1]])),some (.mk 10 (.vals [PV.agg [PV.agg [PV.q x 64,PV.q y 64],PV.agg [PV.b (thH false t false (qs.getD i.toNat 0)),PV.q (thT false t false (qs.getD i.toNat 0)) 259]]]))]))) (.no 15002)) (.no 1)) (.no 1)) (.no 1)) (.no 13002)) (.no 1)) (.no 1)) (.no 1)) (.no 12007)) (.no 11005)) (.ok (.out (.exit 0) (LS.mk [PV.lst 3 (.rats 64 qs),PV.ptr 0 10 0 0 [],PV.ptr 1 6 0 0 [],PV.ptr 2 4 0 0 [],PV.nil,PV.lst 16 (.fn n fun(j:Nat)=>lkPV (lk j)),PV.i .i64 (n:Int),PV.i .i64 i] [some (.mk 10 (.vals [PV.agg [PV.agg [PV.q x 64,PV.q y 64],PV.agg [PV.bl false,PV.q t 64]]])),some (.mk 6 (.vals [PV.agg [PV.q (↑(0:Int):Rat) 1,PV.q (↑(0:Int):Rat) 1]])),some (.mk 4 (.vals [PV.agg [PV.bl false,PV.q (↑(0:Int):Rat) 1]]))]))):=by kernel_rfl
theorem t39a (qs:List Rat) (n:Nat) (lk:Nat->Lk) (f0:Fr) (x y:Rat) (h:Bool) (t:Rat) (i:Int):qe prog O39 [] pol39 f87.ntmps 0 [1,7,8,9,10,29,30,31] b39 (x39 qs n lk [frP f0 64 259] 1 x y h t 2211 259 i)=
 Tr.br (decide (i<(n:Int))) (.br (ix (i) ((n:Int))) (.br (ix (i) ((qs.length:Int))) (.br (Nat.ble 64 (400000:Nat)) (.br (qg ((↑(0:Int):Rat)=0/\(↑(0:Int):Rat)=0/\(2211:Nat)+8*259+20<=800000/\(2211:Nat)+8*259+20<=800000)) (.br (Nat.ble 259 (50000:Nat)&&Nat.ble 1 (259:Nat)&&Nat.ble 64 (50000:Nat)&&Nat.ble 1 (64:Nat)) (.br ((1+[PE.PV.agg [PV.agg [PV.q x 2211,PV.q y 2211],PV.agg [PV.b (thH h t false (qs.getD i.toNat 0)),PV.q (thT h t false (qs.getD i.toNat 0)) 649]]].length).ble 4294967296) (.br (decide ((-72057594037927936:Int)<0)&&decide ((0:Int)<=9223372036854775807)) (.br (qg ((↑(0:Int):Rat)=0/\(2211:Nat)+64+8*((2:Nat)*259+2*64+3)+20<=800000/\(2211:Nat)+64+8*((2:Nat)*259+2*64+3)+20<=800000/\(1:Nat)<=2*259+2*64+3)) (.br (qg (false=false/\(↑(0:Int):Rat)=0/\(2:Nat)*259+2*64+3<=50000)) (.br (ib (i+1)) (.ok (.out .normal (LS.mk [PV.lst 3 (.rats 64 qs),PV.ptr 0 10 0 0 [],PV.ptr 1 6 0 0 [],PV.ptr 2 4 0 0 [],PV.sl 3 10 0 2,PV.lst 16 (.fn n fun(j:Nat)=>lkPV (lk j)),PV.i .i64 (n:Int),PV.i .i64 (i+1)] [some (.mk 10 (.vals [PV.agg [PV.agg [PV.q (x+(lk i.toNat).len*qQ (thH h t false (qs.getD i.toNat 0)) (thT h t false (qs.getD i.toNat 0))) 7478,PV.q (y+(lk i.toNat).len*qB (thH h t false (qs.getD i.toNat 0)) (thT h t false (qs.getD i.toNat 0))) 7478],PV.agg [PV.b (thH h t false (qs.getD i.toNat 0)),PV.q (ftT (thH h t false (qs.getD i.toNat 0)) (thT h t false (qs.getD i.toNat 0))) 649]]])),some (.mk 6 (.vals [PV.agg [PV.q (↑(0:Int):Rat) 1,PV.q (↑(0:Int):Rat) 1]])),some (.mk 4 (.vals [PV.agg [PV.bl false,PV.q (↑(0:Int):Rat) 1]])),some (.mk 10 (.vals [frP f0 64 259,PV.agg [PV.agg [PV.q x 2211,PV.q y 2211],PV.agg [PV.b (thH h t false (qs.getD i.toNat 0)),PV.q (thT h t false (qs.getD i.toNat 0)) 649]]]))]))) (.no 15002)) (.no 1)) (.no 1)) (.no 1)) (.no 13002)) (.no 1)) (.no 1)) (.no 1)) (.no 12007)) (.no 11005)) (.ok (.out (.exit 0) (LS.mk [PV.lst 3 (.rats 64 qs),PV.ptr 0 10 0 0 [],PV.ptr 1 6 0 0 [],PV.ptr 2 4 0 0 [],PV.sl 3 10 0 1,PV.lst 16 (.fn n fun(j:Nat)=>lkPV (lk j)),PV.i .i64 (n:Int),PV.i .i64 i] [some (.mk 10 (.vals [PV.agg [PV.agg [PV.q x 2211,PV.q y 2211],PV.agg [PV.b h,PV.q t 259]]])),some (.mk 6 (.vals [PV.agg [PV.q (↑(0:Int):Rat) 1,PV.q (↑(0:Int):Rat) 1]])),some (.mk 4 (.vals [PV.agg [PV.bl false,PV.q (↑(0:Int):Rat) 1]])),some (.mk 10 (.vals [frP f0 64 259]))]))):=by kernel_rfl
theorem t39b (qs:List Rat) (n:Nat) (lk:Nat->Lk) (f0 f1:Fr) (x y:Rat) (h:Bool) (t:Rat) (i:Int):qe prog O39 [] pol39 f87.ntmps 0 [1,7,8,9,10,29,30,31] b39 (x39 qs n lk [frP f0 64 259,frP f1 2211 649] 2 x y h t 7478 649 i)=
 Tr.br (decide (i<(n:Int))) (.br (ix (i) ((n:Int))) (.br (ix (i) ((qs.length:Int))) (.br (Nat.ble 64 (400000:Nat)) (.br (qg ((↑(0:Int):Rat)=0/\(↑(0:Int):Rat)=0/\(7478:Nat)+8*649+20<=800000/\(7478:Nat)+8*649+20<=800000)) (.br (Nat.ble 649 (50000:Nat)&&Nat.ble 1 (649:Nat)&&Nat.ble 64 (50000:Nat)&&Nat.ble 1 (64:Nat)) (.br ((2+[PE.PV.agg [PV.agg [PV.q x 7478,PV.q y 7478],PV.agg [PV.b (thH h t false (qs.getD i.toNat 0)),PV.q (thT h t false (qs.getD i.toNat 0)) 1429]]].length).ble 4294967296) (.br (decide ((-72057594037927936:Int)<0)&&decide ((0:Int)<=9223372036854775807)) (.br (qg ((↑(0:Int):Rat)=0/\(7478:Nat)+64+8*((2:Nat)*649+2*64+3)+20<=800000/\(7478:Nat)+64+8*((2:Nat)*649+2*64+3)+20<=800000/\(1:Nat)<=2*649+2*64+3)) (.br (qg (false=false/\(↑(0:Int):Rat)=0/\(2:Nat)*649+2*64+3<=50000)) (.br (ib (i+1)) (.ok (.out .normal (LS.mk [PV.lst 3 (.rats 64 qs),PV.ptr 0 10 0 0 [],PV.ptr 1 6 0 0 [],PV.ptr 2 4 0 0 [],PV.sl 3 10 0 3,PV.lst 16 (.fn n fun(j:Nat)=>lkPV (lk j)),PV.i .i64 (n:Int),PV.i .i64 (i+1)] [some (.mk 10 (.vals [PV.agg [PV.agg [PV.q (x+(lk i.toNat).len*qQ (thH h t false (qs.getD i.toNat 0)) (thT h t false (qs.getD i.toNat 0))) 18985,PV.q (y+(lk i.toNat).len*qB (thH h t false (qs.getD i.toNat 0)) (thT h t false (qs.getD i.toNat 0))) 18985],PV.agg [PV.b (thH h t false (qs.getD i.toNat 0)),PV.q (ftT (thH h t false (qs.getD i.toNat 0)) (thT h t false (qs.getD i.toNat 0))) 1429]]])),some (.mk 6 (.vals [PV.agg [PV.q (↑(0:Int):Rat) 1,PV.q (↑(0:Int):Rat) 1]])),some (.mk 4 (.vals [PV.agg [PV.bl false,PV.q (↑(0:Int):Rat) 1]])),some (.mk 10 (.vals [frP f0 64 259,frP f1 2211 649,PV.agg [PV.agg [PV.q x 7478,PV.q y 7478],PV.agg [PV.b (thH h t false (qs.getD i.toNat 0)),PV.q (thT h t false (qs.getD i.toNat 0)) 1429]]]))]))) (.no 15002)) (.no 1)) (.no 1)) (.no 1)) (.no 13002)) (.no 1)) (.no 1)) (.no 1)) (.no 12007)) (.no 11005)) (.ok (.out (.exit 0) (LS.mk [PV.lst 3 (.rats 64 qs),PV.ptr 0 10 0 0 [],PV.ptr 1 6 0 0 [],PV.ptr 2 4 0 0 [],PV.sl 3 10 0 2,PV.lst 16 (.fn n fun(j:Nat)=>lkPV (lk j)),PV.i .i64 (n:Int),PV.i .i64 i] [some (.mk 10 (.vals [PV.agg [PV.agg [PV.q x 7478,PV.q y 7478],PV.agg [PV.b h,PV.q t 649]]])),some (.mk 6 (.vals [PV.agg [PV.q (↑(0:Int):Rat) 1,PV.q (↑(0:Int):Rat) 1]])),some (.mk 4 (.vals [PV.agg [PV.bl false,PV.q (↑(0:Int):Rat) 1]])),some (.mk 10 (.vals [frP f0 64 259,frP f1 2211 649]))]))):=by kernel_rfl
theorem t39c (qs:List Rat) (n:Nat) (lk:Nat->Lk) (f0 f1 f2:Fr) (x y:Rat) (h:Bool) (t:Rat) (i:Int):qe prog O39 [] pol39 f87.ntmps 0 [1,7,8,9,10,29,30,31] b39 (x39 qs n lk [frP f0 64 259,frP f1 2211 649,frP f2 7478 1429] 3 x y h t 18985 1429 i)=
 Tr.br (decide (i<(n:Int))) (.br (ix (i) ((n:Int))) (.br (ix (i) ((qs.length:Int))) (.br (Nat.ble 64 (400000:Nat)) (.br (qg ((↑(0:Int):Rat)=0/\(↑(0:Int):Rat)=0/\(18985:Nat)+8*1429+20<=800000/\(18985:Nat)+8*1429+20<=800000)) (.br (Nat.ble 1429 (50000:Nat)&&Nat.ble 1 (1429:Nat)&&Nat.ble 64 (50000:Nat)&&Nat.ble 1 (64:Nat)) (.br ((3+[PE.PV.agg [PV.agg [PV.q x 18985,PV.q y 18985],PV.agg [PV.b (thH h t false (qs.getD i.toNat 0)),PV.q (thT h t false (qs.getD i.toNat 0)) 2989]]].length).ble 4294967296) (.br (decide ((-72057594037927936:Int)<0)&&decide ((0:Int)<=9223372036854775807)) (.br (qg ((↑(0:Int):Rat)=0/\(18985:Nat)+64+8*((2:Nat)*1429+2*64+3)+20<=800000/\(18985:Nat)+64+8*((2:Nat)*1429+2*64+3)+20<=800000/\(1:Nat)<=2*1429+2*64+3)) (.br (qg (false=false/\(↑(0:Int):Rat)=0/\(2:Nat)*1429+2*64+3<=50000)) (.br (ib (i+1)) (.ok (.out .normal (LS.mk [PV.lst 3 (.rats 64 qs),PV.ptr 0 10 0 0 [],PV.ptr 1 6 0 0 [],PV.ptr 2 4 0 0 [],PV.sl 3 10 0 4,PV.lst 16 (.fn n fun(j:Nat)=>lkPV (lk j)),PV.i .i64 (n:Int),PV.i .i64 (i+1)] [some (.mk 10 (.vals [PV.agg [PV.agg [PV.q (x+(lk i.toNat).len*qQ (thH h t false (qs.getD i.toNat 0)) (thT h t false (qs.getD i.toNat 0))) 42972,PV.q (y+(lk i.toNat).len*qB (thH h t false (qs.getD i.toNat 0)) (thT h t false (qs.getD i.toNat 0))) 42972],PV.agg [PV.b (thH h t false (qs.getD i.toNat 0)),PV.q (ftT (thH h t false (qs.getD i.toNat 0)) (thT h t false (qs.getD i.toNat 0))) 2989]]])),some (.mk 6 (.vals [PV.agg [PV.q (↑(0:Int):Rat) 1,PV.q (↑(0:Int):Rat) 1]])),some (.mk 4 (.vals [PV.agg [PV.bl false,PV.q (↑(0:Int):Rat) 1]])),some (.mk 10 (.vals [frP f0 64 259,frP f1 2211 649,frP f2 7478 1429,PV.agg [PV.agg [PV.q x 18985,PV.q y 18985],PV.agg [PV.b (thH h t false (qs.getD i.toNat 0)),PV.q (thT h t false (qs.getD i.toNat 0)) 2989]]]))]))) (.no 15002)) (.no 1)) (.no 1)) (.no 1)) (.no 13002)) (.no 1)) (.no 1)) (.no 1)) (.no 12007)) (.no 11005)) (.ok (.out (.exit 0) (LS.mk [PV.lst 3 (.rats 64 qs),PV.ptr 0 10 0 0 [],PV.ptr 1 6 0 0 [],PV.ptr 2 4 0 0 [],PV.sl 3 10 0 3,PV.lst 16 (.fn n fun(j:Nat)=>lkPV (lk j)),PV.i .i64 (n:Int),PV.i .i64 i] [some (.mk 10 (.vals [PV.agg [PV.agg [PV.q x 18985,PV.q y 18985],PV.agg [PV.b h,PV.q t 1429]]])),some (.mk 6 (.vals [PV.agg [PV.q (↑(0:Int):Rat) 1,PV.q (↑(0:Int):Rat) 1]])),some (.mk 4 (.vals [PV.agg [PV.bl false,PV.q (↑(0:Int):Rat) 1]])),some (.mk 10 (.vals [frP f0 64 259,frP f1 2211 649,frP f2 7478 1429]))]))):=by kernel_rfl
theorem e39a (A:Am) (qs:List Rat) (f0 e:Fr) (i:Int):evF prog O39 [(9,qy (n39 qs A.n A.lk A.bx A.by_ A.t 0) (.exit 0) (x39 qs A.n A.lk [frP f0 64 259] 1 e.x e.y e.h e.t 2211 259 i))] pol39 f87 [qm A,.lst 3 (.rats 64 qs)] [] ql=
 Tr.br (qg (P85 [qm A,PV.i .i64 (qs.length:Int)])) (.br (!decide ((0:Int)=0)) (.ok (.ret (PV.tup [PV.nil,PV.i .i64 0]) [])) (.br (decide ((-72057594037927936:Int)<0)&&decide ((0:Int)<=9223372036854775807)) (.br (decide ((-72057594037927936:Int)<0)&&decide ((0:Int)<=9223372036854775807)) (.br (decide ((-72057594037927936:Int)<0)&&decide ((0:Int)<=9223372036854775807)) (.br (((Int.natAbs (0:Int)).log2+1).ble 400000) (.br (qg (isLS (LS.mk [PV.lst 3 (.rats 64 qs),PV.ptr 0 10 0 0 [],PV.ptr 1 6 0 0 [],PV.ptr 2 4 0 0 [],PV.nil,PV.lst 16 (.fn A.n fun(j:Nat)=>lkPV (A.lk j)),PV.i .i64 (A.n:Int),PV.i .i64 0] [some (.mk 10 (.vals [PV.agg [PV.agg [PV.q A.bx 64,PV.q A.by_ 64],PV.agg [PV.bl false,PV.q A.t 64]]])),some (.mk 6 (.vals [PV.agg [PV.q (↑(0:Int):Rat) 1,PV.q (↑(0:Int):Rat) 1]])),some (.mk 4 (.vals [PV.agg [PV.bl false,PV.q (↑(0:Int):Rat) 1]]))]) (LS.mk [PV.lst 3 (.rats 64 qs),PV.ptr 0 10 0 0 [],PV.ptr 1 6 0 0 [],PV.ptr 2 4 0 0 [],PV.nil,PV.lst 16 (.fn A.n fun(j:Nat)=>lkPV (A.lk j)),PV.i .i64 (A.n:Int),PV.i .i64 0] [some (.mk 10 (.vals [PV.agg [PV.agg [PV.q A.bx 64,PV.q A.by_ 64],PV.agg [PV.bl false,PV.q A.t 64]]])),some (.mk 6 (.vals [PV.agg [PV.q (↑(0:Int):Rat) 1,PV.q (↑(0:Int):Rat) 1]])),some (.mk 4 (.vals [PV.agg [PV.bl false,PV.q (↑(0:Int):Rat) 1]]))]))) (.br ((1+[frP e 2211 259].length).ble 4294967296) (.ok (.ret (PV.tup [PV.fr 10 (.vals [frP f0 64 259,frP e 2211 259]),PV.i .i64 0]) [])) (.no 16003)) (.no 1)) (.no 1)) (.no 1)) (.no 1)) (.no 1))) (.no 1):=by kernel_rfl
theorem e39b (A:Am) (qs:List Rat) (f0 f1 e:Fr) (i:Int):evF prog O39 [(9,qy (n39 qs A.n A.lk A.bx A.by_ A.t 0) (.exit 0) (x39 qs A.n A.lk [frP f0 64 259,frP f1 2211 649] 2 e.x e.y e.h e.t 7478 649 i))] pol39 f87 [qm A,.lst 3 (.rats 64 qs)] [] ql=
 Tr.br (qg (P85 [qm A,PV.i .i64 (qs.length:Int)])) (.br (!decide ((0:Int)=0)) (.ok (.ret (PV.tup [PV.nil,PV.i .i64 0]) [])) (.br (decide ((-72057594037927936:Int)<0)&&decide ((0:Int)<=9223372036854775807)) (.br (decide ((-72057594037927936:Int)<0)&&decide ((0:Int)<=9223372036854775807)) (.br (decide ((-72057594037927936:Int)<0)&&decide ((0:Int)<=9223372036854775807)) (.br (((Int.natAbs (0:Int)).log2+1).ble 400000) (.br (qg (isLS (LS.mk [PV.lst 3 (.rats 64 qs),PV.ptr 0 10 0 0 [],PV.ptr 1 6 0 0 [],PV.ptr 2 4 0 0 [],PV.nil,PV.lst 16 (.fn A.n fun(j:Nat)=>lkPV (A.lk j)),PV.i .i64 (A.n:Int),PV.i .i64 0] [some (.mk 10 (.vals [PV.agg [PV.agg [PV.q A.bx 64,PV.q A.by_ 64],PV.agg [PV.bl false,PV.q A.t 64]]])),some (.mk 6 (.vals [PV.agg [PV.q (↑(0:Int):Rat) 1,PV.q (↑(0:Int):Rat) 1]])),some (.mk 4 (.vals [PV.agg [PV.bl false,PV.q (↑(0:Int):Rat) 1]]))]) (LS.mk [PV.lst 3 (.rats 64 qs),PV.ptr 0 10 0 0 [],PV.ptr 1 6 0 0 [],PV.ptr 2 4 0 0 [],PV.nil,PV.lst 16 (.fn A.n fun(j:Nat)=>lkPV (A.lk j)),PV.i .i64 (A.n:Int),PV.i .i64 0] [some (.mk 10 (.vals [PV.agg [PV.agg [PV.q A.bx 64,PV.q A.by_ 64],PV.agg [PV.bl false,PV.q A.t 64]]])),some (.mk 6 (.vals [PV.agg [PV.q (↑(0:Int):Rat) 1,PV.q (↑(0:Int):Rat) 1]])),some (.mk 4 (.vals [PV.agg [PV.bl false,PV.q (↑(0:Int):Rat) 1]]))]))) (.br ((2+[frP e 7478 649].length).ble 4294967296) (.ok (.ret (PV.tup [PV.fr 10 (.vals [frP f0 64 259,frP f1 2211 649,frP e 7478 649]),PV.i .i64 0]) [])) (.no 16003)) (.no 1)) (.no 1)) (.no 1)) (.no 1)) (.no 1))) (.no 1):=by kernel_rfl
theorem e39c (A:Am) (qs:List Rat) (f0 f1 f2 e:Fr) (i:Int):evF prog O39 [(9,qy (n39 qs A.n A.lk A.bx A.by_ A.t 0) (.exit 0) (x39 qs A.n A.lk [frP f0 64 259,frP f1 2211 649,frP f2 7478 1429] 3 e.x e.y e.h e.t 18985 1429 i))] pol39 f87 [qm A,.lst 3 (.rats 64 qs)] [] ql=
 Tr.br (qg (P85 [qm A,PV.i .i64 (qs.length:Int)])) (.br (!decide ((0:Int)=0)) (.ok (.ret (PV.tup [PV.nil,PV.i .i64 0]) [])) (.br (decide ((-72057594037927936:Int)<0)&&decide ((0:Int)<=9223372036854775807)) (.br (decide ((-72057594037927936:Int)<0)&&decide ((0:Int)<=9223372036854775807)) (.br (decide ((-72057594037927936:Int)<0)&&decide ((0:Int)<=9223372036854775807)) (.br (((Int.natAbs (0:Int)).log2+1).ble 400000) (.br (qg (isLS (LS.mk [PV.lst 3 (.rats 64 qs),PV.ptr 0 10 0 0 [],PV.ptr 1 6 0 0 [],PV.ptr 2 4 0 0 [],PV.nil,PV.lst 16 (.fn A.n fun(j:Nat)=>lkPV (A.lk j)),PV.i .i64 (A.n:Int),PV.i .i64 0] [some (.mk 10 (.vals [PV.agg [PV.agg [PV.q A.bx 64,PV.q A.by_ 64],PV.agg [PV.bl false,PV.q A.t 64]]])),some (.mk 6 (.vals [PV.agg [PV.q (↑(0:Int):Rat) 1,PV.q (↑(0:Int):Rat) 1]])),some (.mk 4 (.vals [PV.agg [PV.bl false,PV.q (↑(0:Int):Rat) 1]]))]) (LS.mk [PV.lst 3 (.rats 64 qs),PV.ptr 0 10 0 0 [],PV.ptr 1 6 0 0 [],PV.ptr 2 4 0 0 [],PV.nil,PV.lst 16 (.fn A.n fun(j:Nat)=>lkPV (A.lk j)),PV.i .i64 (A.n:Int),PV.i .i64 0] [some (.mk 10 (.vals [PV.agg [PV.agg [PV.q A.bx 64,PV.q A.by_ 64],PV.agg [PV.bl false,PV.q A.t 64]]])),some (.mk 6 (.vals [PV.agg [PV.q (↑(0:Int):Rat) 1,PV.q (↑(0:Int):Rat) 1]])),some (.mk 4 (.vals [PV.agg [PV.bl false,PV.q (↑(0:Int):Rat) 1]]))]))) (.br ((3+[frP e 18985 1429].length).ble 4294967296) (.ok (.ret (PV.tup [PV.fr 10 (.vals [frP f0 64 259,frP f1 2211 649,frP f2 7478 1429,frP e 18985 1429]),PV.i .i64 0]) [])) (.no 16003)) (.no 1)) (.no 1)) (.no 1)) (.no 1)) (.no 1))) (.no 1):=by kernel_rfl
def fstep (q:Rat) (E:Fr):Fr:=⟨E.x,E.y,thH E.h E.t false q,thT E.h E.t false q⟩
def estep (L:Rat) (F:Fr):Fr:=⟨F.x+L*qQ F.h F.t,F.y+L*qB F.h F.t,F.h,ftT F.h F.t⟩
def endR (b:Fr) (q L:Nat->Rat):Nat->Fr
 | 0=>b
 | i+1=>estep (L i) (fstep (q i) (endR b q L i))
def frmF (b:Fr) (q L:Nat->Rat) (i:Nat):Fr:=fstep (q i) (endR b q L i)
def allF (b:Fr) (q L:Nat->Rat) (n i:Nat):Fr:=if i<n then frmF b q L i else endR b q L n
include hG in
theorem orc39 (hT:qp G):OrcOK prog G O39:=.cons (gk50 hG hT) (.cons (gk51 hG hT) (.cons (gk71 hG) (.cons (ok85 hG) .nil)))
def qf (qs:List Rat) (i:Nat):Rat:=qs.getD i 0
def bsF (A:Am):Fr:=⟨A.bx,A.by_,false,A.t⟩
def Fq (qs:List Rat) (lk:Nat->Lk) (b:Fr) (i:Nat):Fr:=frmF b (qf qs) (fun j=>(lk j).len) i
def Eq' (qs:List Rat) (lk:Nat->Lk) (b:Fr) (i:Nat):Fr:=endR b (qf qs) (fun j=>(lk j).len) i
section
variable (qs:List Rat) (n:Nat) (lk:Nat->Lk) (b:Fr)
include hG in
theorem r39_0 (hT:qp G) (hb:b.h=false) (hn:1<=n) (hq:qs.length=n):Rnd prog G f87.ntmps 0 [1,7,8,9,10,29,30,31] b39 (n39 qs n lk b.x b.y b.t 0) .normal (x39 qs n lk [frP (Fq qs lk b 0) 64 259] 1 (Eq' qs lk b 1).x (Eq' qs lk b 1).y (Eq' qs lk b 1).h (Eq' qs lk b 1).t 2211 259 1):=by
 refine qb hG (orc39 hG hT) mix (L:=[]) (pol:=pol39) (O:=O39) (kA (by kernel_rfl)) (Nat.zero_le _) ?_
 rw[t39n,k5 (kF (by omega)),k5 (by simp only[kD,kE];omega),k5 (by simp only[kD,kE];omega),k5 (by decide),k5 (decP_iff.2 ⟨rfl,rfl,by decide,by decide⟩),k5 (by decide),k5 (by simp),k5 (by decide),
  k5 (decP_iff.2 ⟨rfl,by decide,by decide,by decide⟩),k5 (decP_iff.2 ⟨rfl,rfl,by decide⟩),k5 (by decide),k7]
 obtain⟨bx,by_,bh,bt⟩:=b
 simp only at hb
 subst hb
 rfl
include hG in
theorem r39_1 (hT:qp G) (hn:2<=n) (hq:qs.length=n):Rnd prog G f87.ntmps 0 [1,7,8,9,10,29,30,31] b39 (x39 qs n lk [frP (Fq qs lk b 0) 64 259] 1 (Eq' qs lk b 1).x (Eq' qs lk b 1).y (Eq' qs lk b 1).h (Eq' qs lk b 1).t 2211 259 1) .normal
  (x39 qs n lk [frP (Fq qs lk b 0) 64 259,frP (Fq qs lk b 1) 2211 649] 2 (Eq' qs lk b 2).x (Eq' qs lk b 2).y (Eq' qs lk b 2).h (Eq' qs lk b 2).t 7478 649 2):=by
 refine qb hG (orc39 hG hT) mix (L:=[]) (pol:=pol39) (O:=O39) (kA (by kernel_rfl)) (Nat.zero_le _) ?_
 rw[t39a,k5 (kF (by omega)),k5 (by simp only[kD,kE];omega),k5 (by simp only[kD,kE];omega),k5 (by decide),k5 (decP_iff.2 ⟨rfl,rfl,by decide,by decide⟩),k5 (by decide),k5 (by simp),k5 (by decide),
  k5 (decP_iff.2 ⟨rfl,by decide,by decide,by decide⟩),k5 (decP_iff.2 ⟨rfl,rfl,by decide⟩),k5 (by decide),k7]
 rfl
include hG in
theorem r39_2 (hT:qp G) (hn:3<=n) (hq:qs.length=n):Rnd prog G f87.ntmps 0 [1,7,8,9,10,29,30,31] b39 (x39 qs n lk [frP (Fq qs lk b 0) 64 259,frP (Fq qs lk b 1) 2211 649] 2 (Eq' qs lk b 2).x (Eq' qs lk b 2).y (Eq' qs lk b 2).h (Eq' qs lk b 2).t 7478 649 2) .normal
  (x39 qs n lk [frP (Fq qs lk b 0) 64 259,frP (Fq qs lk b 1) 2211 649,frP (Fq qs lk b 2) 7478 1429] 3 (Eq' qs lk b 3).x (Eq' qs lk b 3).y (Eq' qs lk b 3).h (Eq' qs lk b 3).t 18985 1429 3):=by
 refine qb hG (orc39 hG hT) mix (L:=[]) (pol:=pol39) (O:=O39) (kA (by kernel_rfl)) (Nat.zero_le _) ?_
 rw[t39b,k5 (kF (by omega)),k5 (by simp only[kD,kE];omega),k5 (by simp only[kD,kE];omega),k5 (by decide),k5 (decP_iff.2 ⟨rfl,rfl,by decide,by decide⟩),k5 (by decide),k5 (by simp),k5 (by decide),
  k5 (decP_iff.2 ⟨rfl,by decide,by decide,by decide⟩),k5 (decP_iff.2 ⟨rfl,rfl,by decide⟩),k5 (by decide),k7]
 rfl
end
def frs (A:Am) (qs:List Rat):Cont:=.fn (A.n+1) (fun i=>frP (allF (bsF A) (qf qs) (fun j=>(A.lk j).len) A.n i) 20000 1500)
def P39 (arm:PV) (qs:List Rat):Prop:=okA arm/\qs.length=(dArm arm).n
def g39:Spec:=fun args hs K=>match args,hs with
 | [arm,.lst 3 (.rats w qs)],[]=>.br (qg (P39 arm qs/\w=64)) (K (.tup [.fr 10 (frs (dArm arm) qs),.i .i64 0]) []) (.no 1)
 | _,_=>.no 1
theorem frP_le {f g:Fr} (h:f=g) {a b c d:Nat} (h1:a<=c) (h2:b<=d):VLe (frP f a b) (frP g c d):=by
 subst h
 exact VLe.agg (qM (VLe.agg (qM (qH h1) (qM (qH h1) vll0))) (qM (VLe.agg (qM (.refl _) (qM (qH h2) vll0))) vll0))
theorem frs_le0 (e n:Nat) (f:Nat->PV) (vs:List PV) (hl:vs.length=n) (h:∀ (i:Nat) (v:PV),vs[i]? = some v->noRef 8 v=true/\VLe v (f i)):
  RLe (.tup [.fr e (.vals vs),.i .i64 0]) (.tup [.fr e (.fn n f),.i .i64 0]):=by
 subst hl
 exact⟨fun m=>.refl _,fun m=>KsLe.one (KLe.fn rfl h)⟩
theorem frs_le (A:Am) (qs:List Rat) (vs:List PV) (hl:vs.length=A.n+1) (h:∀ (i:Nat) (v:PV),vs[i]? = some v->noRef 8 v=true/\VLe v (frP (allF (bsF A) (qf qs) (fun j=>(A.lk j).len) A.n i) 20000 1500)):
  RLe (.tup [.fr 10 (.vals vs),.i .i64 0]) (.tup [.fr 10 (frs A qs),.i .i64 0]):=frs_le0 _ _ _ vs hl h
section
variable (qs:List Rat) (n:Nat) (lk:Nat->Lk) (b:Fr)
include hG in
theorem goes39a (hT:qp G) (hb:b.h=false) (hn:n=1) (hq:qs.length=n):Goes (Rnd prog G f87.ntmps 0 [1,7,8,9,10,29,30,31] b39) (n39 qs n lk b.x b.y b.t 0) (.exit 0) (x39 qs n lk [frP (Fq qs lk b 0) 64 259] 1 (Eq' qs lk b 1).x (Eq' qs lk b 1).y (Eq' qs lk b 1).h (Eq' qs lk b 1).t 2211 259 1):=by
 refine .more _ _ _ _ (r39_0 hG qs n lk b hT hb (by omega) hq) (.last _ _ _ (qb hG (orc39 hG hT) mix (L:=[]) (pol:=pol39) (O:=O39) (kA (by kernel_rfl)) (Nat.zero_le _) ?_) (by simp))
 rw[t39a,k6 (kG (by omega)),k7]
 rfl
include hG in
theorem goes39b (hT:qp G) (hb:b.h=false) (hn:n=2) (hq:qs.length=n):Goes (Rnd prog G f87.ntmps 0 [1,7,8,9,10,29,30,31] b39) (n39 qs n lk b.x b.y b.t 0) (.exit 0) (x39 qs n lk [frP (Fq qs lk b 0) 64 259,frP (Fq qs lk b 1) 2211 649] 2 (Eq' qs lk b 2).x (Eq' qs lk b 2).y (Eq' qs lk b 2).h (Eq' qs lk b 2).t 7478 649 2):=by
 refine .more _ _ _ _ (r39_0 hG qs n lk b hT hb (by omega) hq) (.more _ _ _ _ (r39_1 hG qs n lk b hT (by omega) hq) (.last _ _ _ (qb hG (orc39 hG hT) mix (L:=[]) (pol:=pol39) (O:=O39) (kA (by kernel_rfl)) (Nat.zero_le _) ?_) (by simp)))
 rw[t39b,k6 (kG (by omega)),k7]
 rfl
include hG in
theorem goes39c (hT:qp G) (hb:b.h=false) (hn:n=3) (hq:qs.length=n):Goes (Rnd prog G f87.ntmps 0 [1,7,8,9,10,29,30,31] b39) (n39 qs n lk b.x b.y b.t 0) (.exit 0) (x39 qs n lk [frP (Fq qs lk b 0) 64 259,frP (Fq qs lk b 1) 2211 649,frP (Fq qs lk b 2) 7478 1429] 3 (Eq' qs lk b 3).x (Eq' qs lk b 3).y (Eq' qs lk b 3).h (Eq' qs lk b 3).t 18985 1429 3):=by
 refine .more _ _ _ _ (r39_0 hG qs n lk b hT hb (by omega) hq) (.more _ _ _ _ (r39_1 hG qs n lk b hT (by omega) hq) (.more _ _ _ _ (r39_2 hG qs n lk b hT (by omega) hq) (.last _ _ _ (qb hG (orc39 hG hT) mix (L:=[]) (pol:=pol39) (O:=O39) (kA (by kernel_rfl)) (Nat.zero_le _) ?_) (by simp))))
 rw[t39c,k6 (kG (by omega)),k7]
 rfl
end
theorem allF_lt {b:Fr} {q L:Nat->Rat} {n i:Nat} (h:i<n):allF b q L n i=frmF b q L i:=if_pos h
theorem allF_n {b:Fr} {q L:Nat->Rat} {n:Nat}:allF b q L n n=endR b q L n:=if_neg (Nat.lt_irrefl n)
include hG in
theorem gk39 (hT:qp G):qc prog G 87 g39:=by
 intro args hs K x h
 unfold g39 at h
 split at h
 case h_2=>cases h
 rename_i arm w qs
 obtain⟨hc,hr⟩:=k8 h
 obtain⟨⟨⟨hv,hA⟩,hq⟩,rfl⟩:=decP_iff.1 hc
 generalize dArm arm=A at*
 obtain⟨h1,h2,h3,h4,h5,h6,h7⟩:=armB_c hA
 have z0:((Int.natAbs (0:Int)).log2+1).ble 400000=true:=by decide
 have hcs:A.n=1\/A.n=2\/A.n=3:=by omega
 refine⟨_,_,PC.args (.cons hv (.cons (.refl _) .nil)) ?_,hr⟩
 rcases hcs with hn|hn|hn
 ·have g:=goes39a hG qs A.n A.lk (bsF A) hT rfl hn hq
  refine(qj hG (orc39 hG hT) mix enter39 (hs:=[]) (pol:=pol39) (L:=[(9,qy (n39 qs A.n A.lk A.bx A.by_ A.t 0) (.exit 0) (x39 qs A.n A.lk [frP (Fq qs A.lk (bsF A) 0) 64 259] 1 (Eq' qs A.lk (bsF A) 1).x (Eq' qs A.lk (bsF A) 1).y (Eq' qs A.lk (bsF A) 1).h (Eq' qs A.lk (bsF A) 1).t 2211 259 1))]) (qN (b:=b39) (live:=[1,7,8,9,10,29,30,31]) (m:=0) (by kernel_rfl) (by kernel_rfl) (by kernel_rfl) (qv g)) (r:=.tup [.fr 10 (.vals [frP (Fq qs A.lk (bsF A) 0) 64 259,frP (Eq' qs A.lk (bsF A) 1) 2211 259]),.i .i64 0]) (hs':=[]) ?_).le ?_ (.refl _)
  ·refine(congrArg Tr.run (e39a A qs (Fq qs A.lk (bsF A) 0) (Eq' qs A.lk (bsF A) 1) 1)).trans ?_
   rw[k5 (decP_iff.2 ⟨qm A,A,by first|(rw[hq];done)|(rw[hq];rfl),.refl _,hA⟩),k6 (by decide),k5 (by decide),k5 (by decide),k5 (by decide),k5 z0,k5 qK,k5 (by simp),k7]
   all_goals rfl
  ·refine frs_le A qs _ (by rw[hn];rfl) fun i v hi => ?_
   match i,hi with
   | 0,hi=>simp at hi;subst hi;exact⟨rfl,frP_le (by rw[hn,allF_lt (by omega)];rfl) (by omega) (by omega)⟩
   | 1,hi=>simp at hi;subst hi;exact⟨rfl,frP_le (by rw[hn,allF_n];rfl) (by omega) (by omega)⟩
   | i+2,hi=>simp at hi
 ·have g:=goes39b hG qs A.n A.lk (bsF A) hT rfl hn hq
  refine(qj hG (orc39 hG hT) mix enter39 (hs:=[]) (pol:=pol39) (L:=[(9,qy (n39 qs A.n A.lk A.bx A.by_ A.t 0) (.exit 0) (x39 qs A.n A.lk [frP (Fq qs A.lk (bsF A) 0) 64 259,frP (Fq qs A.lk (bsF A) 1) 2211 649] 2 (Eq' qs A.lk (bsF A) 2).x (Eq' qs A.lk (bsF A) 2).y (Eq' qs A.lk (bsF A) 2).h (Eq' qs A.lk (bsF A) 2).t 7478 649 2))]) (qN (b:=b39) (live:=[1,7,8,9,10,29,30,31]) (m:=0) (by kernel_rfl) (by kernel_rfl) (by kernel_rfl) (qv g)) (r:=.tup [.fr 10 (.vals [frP (Fq qs A.lk (bsF A) 0) 64 259,frP (Fq qs A.lk (bsF A) 1) 2211 649,frP (Eq' qs A.lk (bsF A) 2) 7478 649]),.i .i64 0]) (hs':=[]) ?_).le ?_ (.refl _)
  ·refine(congrArg Tr.run (e39b A qs (Fq qs A.lk (bsF A) 0) (Fq qs A.lk (bsF A) 1) (Eq' qs A.lk (bsF A) 2) 2)).trans ?_
   rw[k5 (decP_iff.2 ⟨qm A,A,by first|(rw[hq];done)|(rw[hq];rfl),.refl _,hA⟩),k6 (by decide),k5 (by decide),k5 (by decide),k5 (by decide),k5 z0,k5 qK,k5 (by simp),k7]
   all_goals rfl
  ·refine frs_le A qs _ (by rw[hn];rfl) fun i v hi => ?_
   match i,hi with
   | 0,hi=>simp at hi;subst hi;exact⟨rfl,frP_le (by rw[hn,allF_lt (by omega)];rfl) (by omega) (by omega)⟩
   | 1,hi=>simp at hi;subst hi;exact⟨rfl,frP_le (by rw[hn,allF_lt (by omega)];rfl) (by omega) (by omega)⟩
   | 2,hi=>simp at hi;subst hi;exact⟨rfl,frP_le (by rw[hn,allF_n];rfl) (by omega) (by omega)⟩
   | i+3,hi=>simp at hi
 ·have g:=goes39c hG qs A.n A.lk (bsF A) hT rfl hn hq
  refine(qj hG (orc39 hG hT) mix enter39 (hs:=[]) (pol:=pol39) (L:=[(9,qy (n39 qs A.n A.lk A.bx A.by_ A.t 0) (.exit 0) (x39 qs A.n A.lk [frP (Fq qs A.lk (bsF A) 0) 64 259,frP (Fq qs A.lk (bsF A) 1) 2211 649,frP (Fq qs A.lk (bsF A) 2) 7478 1429] 3 (Eq' qs A.lk (bsF A) 3).x (Eq' qs A.lk (bsF A) 3).y (Eq' qs A.lk (bsF A) 3).h (Eq' qs A.lk (bsF A) 3).t 18985 1429 3))]) (qN (b:=b39) (live:=[1,7,8,9,10,29,30,31]) (m:=0) (by kernel_rfl) (by kernel_rfl) (by kernel_rfl) (qv g)) (r:=.tup [.fr 10 (.vals [frP (Fq qs A.lk (bsF A) 0) 64 259,frP (Fq qs A.lk (bsF A) 1) 2211 649,frP (Fq qs A.lk (bsF A) 2) 7478 1429,frP (Eq' qs A.lk (bsF A) 3) 18985 1429]),.i .i64 0]) (hs':=[]) ?_).le ?_ (.refl _)
  ·refine(congrArg Tr.run (e39c A qs (Fq qs A.lk (bsF A) 0) (Fq qs A.lk (bsF A) 1) (Fq qs A.lk (bsF A) 2) (Eq' qs A.lk (bsF A) 3) 3)).trans ?_
   rw[k5 (decP_iff.2 ⟨qm A,A,by first|(rw[hq];done)|(rw[hq];rfl),.refl _,hA⟩),k6 (by decide),k5 (by decide),k5 (by decide),k5 (by decide),k5 z0,k5 qK,k5 (by simp),k7]
   all_goals rfl
  ·refine frs_le A qs _ (by rw[hn];rfl) fun i v hi => ?_
   match i,hi with
   | 0,hi=>simp at hi;subst hi;exact⟨rfl,frP_le (by rw[hn,allF_lt (by omega)];rfl) (by omega) (by omega)⟩
   | 1,hi=>simp at hi;subst hi;exact⟨rfl,frP_le (by rw[hn,allF_lt (by omega)];rfl) (by omega) (by omega)⟩
   | 2,hi=>simp at hi;subst hi;exact⟨rfl,frP_le (by rw[hn,allF_lt (by omega)];rfl) (by omega) (by omega)⟩
   | 3,hi=>simp at hi;subst hi;exact⟨rfl,frP_le (by rw[hn,allF_n];rfl) (by omega) (by omega)⟩
   | i+4,hi=>simp at hi
end
section
open Go
set_option maxRecDepth 100000
variable {G:World->(Nat->Prop)->Prop} (hG:GOk G)
theorem cf0_bd {l h:Rat} {k:Int} (hl:smX l=true) (hh:smX h=true) (h0:0<=k) (h8:k<=8):Prof.Bd (cf0 l h k) 30000000 8000000:=by
 obtain⟨a1,a2⟩:=smX_iff.1 hl
 obtain⟨a3,a4⟩:=smX_iff.1 hh
 have d1:=l.den_pos
 have d2:=h.den_pos
 have b1:((8:Int)*l.num*(h.den:Int)).natAbs<=8*1000*1000:=nabs_mul (nabs_mul (by omega) (by omega)) (by omega)
 have b2:(h.num*(l.den:Int)).natAbs<=1000*1000:=nabs_mul (by omega) (by omega)
 have b3:(l.num*(h.den:Int)).natAbs<=1000*1000:=nabs_mul (by omega) (by omega)
 have b4:((h.num*(l.den:Int)-l.num*(h.den:Int))*k).natAbs<=2000000*8:=nabs_mul (by omega) (by omega)
 have b5:((8:Int)*(l.den:Int)*(h.den:Int)).natAbs<=8*1000*1000:=nabs_mul (nabs_mul (by omega) (by omega)) (by omega)
 have b6:0<(8:Int)*(l.den:Int)*(h.den:Int):=Int.mul_pos (by omega) (by omega)
 exact⟨Nat.le_trans (mkRat_num_le _ (by omega)) (by omega),Nat.le_trans (mkRat_den_le _ (by omega)) (by omega)⟩
theorem getD_map_range (f:Nat->Rat) {n j:Nat} (h:j<n):((List.range n).map f).getD j 0=f j:=by
 rw[List.getD_eq_getElem?_getD,List.getElem?_map,List.getElem?_range h];rfl
theorem limX_j {A:Am} (h:limX A=true) {j:Nat} (hj:j<A.n):smX (A.lk j).low=true/\smX (A.lk j).high=true:=by
 have:=List.all_eq_true.1 h j (List.mem_range.2 hj)
 rwa[kD]at this
theorem cfL_bd {A:Am} {m:PV} (h:limX A=true) {j:Nat} (hj:j<A.n):Prof.Bd ((cfL A.lk m A.n).getD j 0) 30000000 8000000:=by
 unfold cfL
 rw[getD_map_range _ hj]
 have g:=qw (itRs j m) (show(0:Int)<9 by omega)
 exact cf0_bd (limX_j h hj).1 (limX_j h hj).2 g.1 (by omega)
theorem limX_V (v:PV):limX (armD v)=true:=by
 refine List.all_eq_true.2 fun j _ => ?_
 rw[kD]
 have small:∀ (n:Int),n.natAbs<1000->smX (mkRat n (Int.toNat 3))=true:=fun n hn=>smX_iff.2 ⟨Nat.lt_of_le_of_lt (mkRat_num_le n (by decide)) hn,Nat.lt_of_le_of_lt (mkRat_den_le n (by decide)) (by decide)⟩
 have g1:=qw (rs (itR6 j (rs (rs (rs v))))) (show(0:Int)<6 by omega)
 have g2:=qw (rs (rs (itR6 j (rs (rs (rs v)))))) (show(0:Int)<6 by omega)
 exact⟨small _ (by omega),small _ (by omega)⟩
def R6:Orc:=[(23,g27),(141,g41),(192,g42),(75,g43)]
theorem qS {P:Program} {G:World->(Nat->Prop)->Prop} {g:Nat} {as':List PV} {r:PV} (h:PC P G g as' [] r []):qc P G g (cst as' True r):=cst_ok fun _=>h
theorem cos_sin (h:Bool) (t:Rat):qQ h t*qQ h t+qB h t*qB h t=1:=by
 rw[qQ,qB,qh,qh]
 cases h
 ·simp only[Bool.false_eq_true,if_false]
  have h0:=sq_pos1 t
  generalize hd:1+t*t=d at*
  have e1:(1-t*t)/d*((1-t*t)/d)+(t+t)/d*((t+t)/d)=((1-t*t)*(1-t*t)+(t+t)*(t+t))/(d*d):=by grind
  have e2:(1-t*t)*(1-t*t)+(t+t)*(t+t)=d*d:=by grind
  rw[e1,e2]
  rw[Rat.div_def]
  exact Rat.mul_inv_cancel _ (fun h=>h0 (by rcases Rat.mul_eq_zero.1 h with h|h<;>exact h))
 ·simp only[if_true]
  grind
include hG in
theorem pc39 (hT:qp G) (A:Am) (hA:armB A=true) (qs:List Rat) (hq:qs.length=A.n):
  PC Tryz.prog G 87 [qm A,.lst 3 (.rats 64 qs)] [] (.tup [.fr 10 (.fn (A.n+1) (fun i=>frP (allF (bsF A) (qf qs) (fun j=>(A.lk j).len) A.n i) 20000 1500)),.i .i64 0]) []:=by
 obtain⟨r,hs',p,e⟩:=gk39 hG hT [qm A,.lst 3 (.rats 64 qs)] [] (fun r hs'=>.ok (.ret r hs')) (.ret (.tup [.fr 10 (frs A qs),.i .i64 0]) []) (by
  show(Tr.br _ _ _).run=_
  rw[k5 (decP_iff.2 ⟨⟨okA_arm hA,hq⟩,rfl⟩)];rfl)
 cases e
 exact p
end
section
open Go
theorem sq_le_of {x y:Rat} (hy:0<=y) (h:x*x<=y*y):x<=y:=by
 rcases Rat.le_total (a:=x) (b:=y)with g|g
 ·exact g
 ·rcases Rat.le_iff_lt_or_eq.1 g with k|k
  ·have h1:0<(x-y)*(x+y):=Rat.mul_pos (by grind) (by grind)
   grind
  ·rw[k];exact Rat.le_refl
theorem sq_le_sq {x y:Rat} (hx:0<=x) (h:x<=y):x*x<=y*y:=by
 have h1:0<=(y-x)*(y+x):=Rat.mul_nonneg (by grind) (by grind)
 grind
theorem sq_nn (x:Rat):0<=x*x:=by
 rcases Rat.le_total (a:=0) (b:=x)with g|g
 ·exact Rat.mul_nonneg g g
 ·have:=Rat.mul_nonneg (a := -x) (b := -x) (by grind) (by grind)
  grind
end
section
open Go Tryz
set_option maxRecDepth 100000
variable {G:World->(Nat->Prop)->Prop} (hG:GOk G)
theorem ArgsLe.ofL:∀ {us vs:List PV},VLeL us vs->ArgsLe us vs
 | [],[],_=>.nil
 | [],v::vs,h=>by have:=h.1;simp at this
 | u::us,[],h=>by have:=h.1;simp at this
 | u::us,v::vs,h=>.cons (h.2 0 u v rfl rfl) (ArgsLe.ofL ⟨by have:=h.1;simpa using this,fun j a b e1 e2=>h.2 (j+1) a b e1 e2⟩)
theorem VLe.tup {us vs:List PV} (h:VLeL us vs):VLe (.tup us) (.tup vs):=by
 refine⟨rfl,fun w S μ=>⟨fun cs hc=>(by cases hc),fun x hx => ?_⟩⟩
 cases hx with
 | cell _ _ _ _ hc=>cases hc
 | agg _ _ _ hv _=>cases hv
 | tup _ _ xs hl=>exact .tup _ _ _ (ArgsLe.ofL h w S μ xs hl)
def mxR (x y:Rat):Rat:=if y<=x then x else y
def mnR (x y:Rat):Rat:=if x<=y then x else y

theorem k86 (x y:Rat) (n m:Nat):evF prog [(23,g27),(58,g74)] [] {} f122 [.q x n,.q y m] [] ql=
 Tr.br ((n+m).ble 800000) (.br (decide (0<=rcmp x y)) (.br (n.ble 800000) (.ok (.ret (.q x n) [])) (.no 1)) (.br (m.ble 800000) (.ok (.ret (.q y m) [])) (.no 1))) (.no 1):=by kernel_rfl
theorem k80m (x y:Rat) (n m:Nat):evF prog [(23,g27),(58,g74)] [] {} f121 [.q x n,.q y m] [] ql=
 Tr.br ((n+m).ble 800000) (.br (decide (rcmp x y<=0)) (.br (n.ble 800000) (.ok (.ret (.q x n) [])) (.no 1)) (.br (m.ble 800000) (.ok (.ret (.q y m) [])) (.no 1))) (.no 1):=by kernel_rfl
def g86:Spec:=fun args hs K=>match args,hs with
 | [.q x n,.q y m],[]=>.br (Nat.ble (n+m) 400000) (K (.q (mxR x y) (Nat.max n m)) []) (.no 1)
 | _,_=>.no 1
def g80:Spec:=fun args hs K=>match args,hs with
 | [.q x n,.q y m],[]=>.br (Nat.ble (n+m) 400000) (K (.q (mnR x y) (Nat.max n m)) []) (.no 1)
 | _,_=>.no 1
include hG in
theorem gk86 (hT:qp G):qc prog G 122 g86:=by
 refine qq hG (orcg80 hG hT) mix enter86 (L:=[]) (pol:={}) fun args hs K x h => ?_
 unfold g86 at h
 split at h
 case h_2=>cases h
 rename_i x n y m
 obtain⟨hc,hr⟩:=k8 h
 rw[kH]at hc
 by_cases g:y<=x
 ·refine⟨kA (by kernel_rfl),_,_,_,?_,q_rle (x:=x) (n:=n) (by rw[mxR,if_pos g]) (Nat.le_max_left n m),hr⟩
  rw[k86,k5 (by rw[kH];omega),k5 (kF (rcmp_ge.2 g)),k5 (by rw[kH];omega),k7]
 ·refine⟨kA (by kernel_rfl),_,_,_,?_,q_rle (x:=y) (n:=m) (by rw[mxR,if_neg g]) (Nat.le_max_right n m),hr⟩
  rw[k86,k5 (by rw[kH];omega),k6 (kG fun h=>g (rcmp_ge.1 h)),k5 (by rw[kH];omega),k7]
include hG in
theorem gk80 (hT:qp G):qc prog G 121 g80:=by
 refine qq hG (orcg80 hG hT) mix enter80 (L:=[]) (pol:={}) fun args hs K x h => ?_
 unfold g80 at h
 split at h
 case h_2=>cases h
 rename_i x n y m
 obtain⟨hc,hr⟩:=k8 h
 rw[kH]at hc
 by_cases g:x<=y
 ·refine⟨kA (by kernel_rfl),_,_,_,?_,q_rle (x:=x) (n:=n) (by rw[mnR,if_pos g]) (Nat.le_max_left n m),hr⟩
  rw[k80m,k5 (by rw[kH];omega),k5 (kF (rcmp_le.2 g)),k5 (by rw[kH];omega),k7]
 ·refine⟨kA (by kernel_rfl),_,_,_,?_,q_rle (x:=y) (n:=m) (by rw[mnR,if_neg g]) (Nat.le_max_right n m),hr⟩
  rw[k80m,k5 (by rw[kH];omega),k6 (kG fun h=>g (rcmp_le.1 h)),k5 (by rw[kH];omega),k7]
end
section
open Go
set_option maxRecDepth 100000
theorem q_dd {a b c:Rat} (hb:¬ b=0) (hc:¬ c=0):a/c/(b/c)=a/b:=by grind
theorem q_sub {a b c e p q:Rat} (hp:¬ p=0) (hq:¬ q=0):a/p*(b/q)-c/p*(e/q)=(a*b-c*e)/(p*q):=by grind
theorem q_add {a b c e p q:Rat} (hp:¬ p=0) (hq:¬ q=0):a/p*(b/q)+c/p*(e/q)=(a*b+c*e)/(p*q):=by grind
theorem q_sq1 {n d:Rat} (hd:¬ d=0):1+n/d*(n/d)=(d*d+n*n)/(d*d)/\1-n/d*(n/d)=(d*d-n*n)/(d*d)/\n/d+n/d=(n+n)*d/(d*d):=by
 refine⟨?_,?_,?_⟩<;>grind
theorem q_cos {n d:Rat} (hd:¬ d=0) (hD:¬ d*d+n*n=0):(1-n/d*(n/d))/(1+n/d*(n/d))=(d*d-n*n)/(d*d+n*n)/\(n/d+n/d)/(1+n/d*(n/d))=(n+n)*d/(d*d+n*n):=by
 obtain⟨e1,e2,e3⟩:=q_sq1 (n:=n) hd
 have h2:¬ d*d=0:=fun h=>(Rat.mul_eq_zero.1 h).elim hd hd
 rw[e1,e2,e3]
 exact⟨q_dd hD h2,q_dd hD h2⟩
theorem then_cs (h:Bool) (t:Rat) (g:Bool) (s:Rat):
  qQ (thH h t g s) (thT h t g s)=qQ h t*qQ g s-qB h t*qB g s/\qB (thH h t g s) (thT h t g s)=qB h t*qQ g s+qQ h t*qB g s:=by
 have ht:=sq_pos1 t
 have hs:=sq_pos1 s
 have mz:∀ x y:Rat,¬ x=0->¬ y=0->¬ x*y=0:=fun x y hx hy h=>(Rat.mul_eq_zero.1 h).elim hx hy
 have hD:=mz _ _ ht hs
 simp only[qQ,qB,thH,thT,qh]
 cases h<;>cases g<;>simp only[Bool.false_eq_true,if_false,if_true,kE]
 ·rw[q_sub ht hs,q_add ht hs]
  by_cases h0:1-t*s=0
  ·rw[if_pos h0,if_pos h0]
   have e:t*s=1:=by grind
   rw[show(1-t*t)*(1-s*s)-(t+t)*(s+s) = -((1+t*t)*(1+s*s)) by grind,show(t+t)*(1-s*s)+(1-t*t)*(s+s)=0 by grind]
   generalize (1+t*t)*(1+s*s)=D at*
   constructor<;>grind
  ·rw[if_neg h0,if_neg h0,if_neg h0]
   have hE:(1-t*s)*(1-t*s)+(t+s)*(t+s)=(1+t*t)*(1+s*s):=by grind
   obtain⟨e1,e2⟩:=q_cos (n:=t+s) (d:=1-t*s) h0 (by rw[hE];exact hD)
   rw[e1,e2,hE]
   rw[show(1-t*s)*(1-t*s)-(t+s)*(t+s)=(1-t*t)*(1-s*s)-(t+t)*(s+s) by grind,show(t+s+(t+s))*(1-t*s)=(t+t)*(1-s*s)+(1-t*t)*(s+s) by grind]
   exact⟨rfl,rfl⟩
 ·by_cases h0:t=0
  ·subst h0
   simp only[if_true]
   constructor<;>grind
  ·simp only[if_neg h0]
   have hE:t*t + -1 * -1=1+t*t:=by grind
   obtain⟨e1,e2⟩:=q_cos (n := -1) (d:=t) h0 (by rw[hE];exact ht)
   rw[e1,e2,hE]
   generalize 1+t*t=D at*
   constructor<;>grind
 ·by_cases h0:s=0
  ·subst h0
   simp only[if_true]
   constructor<;>grind
  ·simp only[if_neg h0]
   have hE:s*s + -1 * -1=1+s*s:=by grind
   obtain⟨e1,e2⟩:=q_cos (n := -1) (d:=s) h0 (by rw[hE];exact hs)
   rw[e1,e2,hE]
   generalize 1+s*s=D at*
   constructor<;>grind
 ·constructor<;>grind
theorem th_norm (h:Bool) (t:Rat) (g:Bool) (s:Rat):thH h t g s=true->thT h t g s=0:=by
 rw[thH,thT,qh,qh]
 cases h<;>cases g<;>simp only[Bool.false_eq_true,if_false,if_true,kE]
 ·intro h;rw[if_pos h]
 ·intro h;rw[if_pos h]
 ·intro h;rw[if_pos h]
 ·exact fun h=>h.elim
theorem ft_of {h:Bool} {t:Rat} (n:h=true->t=0):ftT h t=t:=by
 rw[ftT,qh]
 cases h
 ·rfl
 ·exact(n rfl).symm
structure Sp where
 lo:Rat
 hi:Rat
 ok:lo<=hi
def Sp.has (s:Sp) (x:Rat):Prop:=s.lo<=x/\x<=s.hi
def Sp.win (s t:Sp):Prop:=t.lo<=s.lo/\s.hi<=t.hi
theorem Sp.has_lo (s:Sp):s.has s.lo:=⟨Rat.le_refl,s.ok⟩
theorem Sp.win_refl (s:Sp):s.win s:=⟨Rat.le_refl,Rat.le_refl⟩
def qk (a b:Rat):Sp:=if h:a<=b then ⟨a,b,h⟩else ⟨0,0,Rat.le_refl⟩
theorem qP (s:Sp):qk s.lo s.hi=s:=by unfold qk;rw[dif_pos s.ok]
theorem fitS_lo {a b:Rat} (h:a<=b):(qk a b).lo=a:=by unfold qk;rw[dif_pos h]
theorem fitS_hi {a b:Rat} (h:a<=b):(qk a b).hi=b:=by unfold qk;rw[dif_pos h]
def ofS (x:Rat):Sp:=⟨x,x,Rat.le_refl⟩
theorem ofS_has (x:Rat):(ofS x).has x:=⟨Rat.le_refl,Rat.le_refl⟩
theorem mnR_l (a b:Rat):mnR a b<=a:=by unfold mnR;split<;>grind
theorem mnR_r (a b:Rat):mnR a b<=b:=by unfold mnR;split<;>grind
theorem le_mnR {a b x:Rat} (h:x<=a) (h':x<=b):x<=mnR a b:=by unfold mnR;split<;>assumption
theorem mxR_l (a b:Rat):a<=mxR a b:=by unfold mxR;split<;>grind
theorem mxR_r (a b:Rat):b<=mxR a b:=by unfold mxR;split<;>grind
theorem mxR_le {a b x:Rat} (h:a<=x) (h':b<=x):mxR a b<=x:=by unfold mxR;split<;>assumption
theorem mn_mx (a b:Rat):mnR a b<=mxR a b:=Rat.le_trans (mnR_l a b) (mxR_l a b)
def addS (A B:Sp):Sp:=⟨A.lo+B.lo,A.hi+B.hi,by have:=A.ok;have:=B.ok;grind⟩
def subS (A B:Sp):Sp:=⟨A.lo-B.hi,A.hi-B.lo,by have:=A.ok;have:=B.ok;grind⟩
theorem add_has {A B:Sp} {x y:Rat} (hx:A.has x) (hy:B.has y):(addS A B).has (x+y):=by
 obtain⟨a,b⟩:=hx;obtain⟨c,d⟩:=hy
 show A.lo+B.lo<=x+y/\x+y<=A.hi+B.hi
 constructor<;>grind
theorem sub_has {A B:Sp} {x y:Rat} (hx:A.has x) (hy:B.has y):(subS A B).has (x-y):=by
 obtain⟨a,b⟩:=hx;obtain⟨c,d⟩:=hy
 show A.lo-B.hi<=x-y/\x-y<=A.hi-B.lo
 constructor<;>grind
theorem lin_lo {a c d y m:Rat} (h1:c<=y) (h2:y<=d) (h3:m<=a*c) (h4:m<=a*d):m<=a*y:=by
 rcases Rat.le_total (a:=0) (b:=a)with h|h
 ·exact Rat.le_trans h3 (Rat.mul_le_mul_of_nonneg_left h1 h)
 ·have:=Rat.mul_le_mul_of_nonneg_left (c := -a) h2 (by grind)
  grind
theorem lin_hi {a c d y m:Rat} (h1:c<=y) (h2:y<=d) (h3:a*c<=m) (h4:a*d<=m):a*y<=m:=by
 rcases Rat.le_total (a:=0) (b:=a)with h|h
 ·exact Rat.le_trans (Rat.mul_le_mul_of_nonneg_left h2 h) h4
 ·have:=Rat.mul_le_mul_of_nonneg_left (c := -a) h1 (by grind)
  grind
def spmL (A B:Sp):Rat:=mnR (mnR (mnR (A.lo*B.lo) (A.lo*B.hi)) (A.hi*B.lo)) (A.hi*B.hi)
def spmH (A B:Sp):Rat:=mxR (mxR (mxR (A.lo*B.lo) (A.lo*B.hi)) (A.hi*B.lo)) (A.hi*B.hi)
theorem spmL_le (A B:Sp):spmL A B<=A.lo*B.lo/\spmL A B<=A.lo*B.hi/\spmL A B<=A.hi*B.lo/\spmL A B<=A.hi*B.hi:=by
 have h1:=mnR_l (mnR (mnR (A.lo*B.lo) (A.lo*B.hi)) (A.hi*B.lo)) (A.hi*B.hi)
 have h2:=mnR_l (mnR (A.lo*B.lo) (A.lo*B.hi)) (A.hi*B.lo)
 exact⟨Rat.le_trans h1 (Rat.le_trans h2 (mnR_l _ _)),Rat.le_trans h1 (Rat.le_trans h2 (mnR_r _ _)),Rat.le_trans h1 (mnR_r _ _),mnR_r _ _⟩
theorem le_spmH (A B:Sp):A.lo*B.lo<=spmH A B/\A.lo*B.hi<=spmH A B/\A.hi*B.lo<=spmH A B/\A.hi*B.hi<=spmH A B:=by
 have h1:=mxR_l (mxR (mxR (A.lo*B.lo) (A.lo*B.hi)) (A.hi*B.lo)) (A.hi*B.hi)
 have h2:=mxR_l (mxR (A.lo*B.lo) (A.lo*B.hi)) (A.hi*B.lo)
 exact⟨Rat.le_trans (mxR_l _ _) (Rat.le_trans h2 h1),Rat.le_trans (mxR_r _ _) (Rat.le_trans h2 h1),Rat.le_trans (mxR_r _ _) h1,mxR_r _ _⟩
def mulS (A B:Sp):Sp:=⟨spmL A B,spmH A B,Rat.le_trans (spmL_le A B).1 (le_spmH A B).1⟩
theorem mul_has {A B:Sp} {x y:Rat} (hx:A.has x) (hy:B.has y):(mulS A B).has (x*y):=by
 obtain⟨a,b⟩:=hx;obtain⟨c,d⟩:=hy
 obtain⟨l1,l2,l3,l4⟩:=spmL_le A B
 obtain⟨u1,u2,u3,u4⟩:=le_spmH A B
 constructor
 ·have e1:=lin_lo c d l1 l2
  have e2:=lin_lo c d l3 l4
  rw[Rat.mul_comm]at e1 e2 ⊢
  exact lin_lo a b e1 e2
 ·have e1:=lin_hi c d u1 u2
  have e2:=lin_hi c d u3 u4
  rw[Rat.mul_comm]at e1 e2 ⊢
  exact lin_hi a b e1 e2
def sqL (A:Sp):Rat:=if A.lo<=0/\0<=A.hi then 0 else mnR (A.lo*A.lo) (A.hi*A.hi)
theorem sqL_nn (A:Sp):0<=sqL A:=by
 unfold sqL
 split
 ·exact Rat.le_refl
 ·exact le_mnR (sq_nn _) (sq_nn _)
theorem sq_bd {A:Sp} {x:Rat} (hx:A.has x):sqL A<=x*x/\x*x<=mxR (A.lo*A.lo) (A.hi*A.hi):=by
 obtain⟨a,b⟩:=hx
 constructor
 ·unfold sqL
  split
  ·exact sq_nn x
  ·rename_i h
   rcases Rat.le_total (a:=A.lo) (b:=0)with g|g
   ·have h2:A.hi<=0:=by
     rcases Rat.le_total (a:=A.hi) (b:=0)with k|k
     ·exact k
     ·exact absurd ⟨g,k⟩ h
    have:=sq_le_sq (x := -A.hi) (y := -x) (by grind) (by grind)
    exact Rat.le_trans (mnR_r _ _) (by grind)
   ·exact Rat.le_trans (mnR_l _ _) (sq_le_sq g a)
 ·rcases Rat.le_total (a:=0) (b:=x)with g|g
  ·exact Rat.le_trans (sq_le_sq g b) (mxR_r _ _)
  ·have:=sq_le_sq (x := -x) (y := -A.lo) (by grind) (by grind)
   exact Rat.le_trans (by grind) (mxR_l (A.lo*A.lo) (A.hi*A.hi))
def sqS (A:Sp):Sp:=⟨sqL A,mxR (A.lo*A.lo) (A.hi*A.hi),Rat.le_trans (sq_bd A.has_lo).1 (sq_bd A.has_lo).2⟩
theorem sq_has {A:Sp} {x:Rat} (hx:A.has x):(sqS A).has (x*x):=sq_bd hx
theorem div_le {x y d e:Rat} (hd:0<d) (he:0<e) (h:x*e<=y*d):x/d<=y/e:=by
 have hd0:¬ d=0:=fun h=>by rw[h]at hd;exact absurd hd (by decide)
 have he0:¬ e=0:=fun h=>by rw[h]at he;exact absurd he (by decide)
 have h1:(d*e)*(x/d)=x*e:=by grind
 have h2:(d*e)*(y/e)=y*d:=by grind
 exact Rat.le_of_mul_le_mul_left (by rw[h1,h2];exact h) (Rat.mul_pos hd he)
def cf (a:Rat):Rat:=(1-a)/(1+a)
theorem cf_anti {a b:Rat} (ha:0<=a) (h:a<=b):cf b<=cf a:=by
 unfold cf
 exact div_le (by grind) (by grind) (by grind)
theorem cos_cf (x:Rat):qQ false x=cf (x*x):=by
 rw[qQ,qh];rfl
def cosS (A:Sp):Sp:=⟨cf (sqS A).hi,cf (sqS A).lo,cf_anti (sqL_nn A) (sqS A).ok⟩
theorem cos_has {A:Sp} {x:Rat} (hx:A.has x):(cosS A).has (qQ false x):=by
 rw[cos_cf]
 have h:=sq_has hx
 exact⟨cf_anti (sq_nn x) h.2,cf_anti (sqL_nn A) h.1⟩
theorem sin_eq (x:Rat):qB false x=(x+x)/(1+x*x):=by
 rw[qB,qh];rfl
theorem one_sq (x:Rat):0<1+x*x:=by have:=sq_nn x;grind
theorem sin_up {a b:Rat} (h:a<=b) (h1:a*b<=1):qB false a<=qB false b:=by
 rw[sin_eq,sin_eq]
 have:=Rat.mul_nonneg (a:=b-a) (b:=1-a*b) (by grind) (by grind)
 exact div_le (one_sq a) (one_sq b) (by grind)
theorem sin_dn {a b:Rat} (h:a<=b) (h1:1<=a*b):qB false b<=qB false a:=by
 rw[sin_eq,sin_eq]
 have:=Rat.mul_nonneg (a:=b-a) (b:=a*b-1) (by grind) (by grind)
 exact div_le (one_sq b) (one_sq a) (by grind)
theorem sin_le1 (x:Rat):qB false x<=1:=by
 rw[sin_eq]
 have:=sq_nn (1-x)
 exact Rat.le_trans (div_le (y:=1) (e:=1) (one_sq x) (by decide) (by grind)) (by grind)
theorem sin_ge1 (x:Rat) : -1<=qB false x:=by
 rw[sin_eq]
 have:=sq_nn (1+x)
 exact Rat.le_trans (by grind) (div_le (x := -1) (d:=1) (by decide) (one_sq x) (by grind))
theorem unit_mul {x y:Rat} (h1 : -1<=x) (h2:x<=1) (h3 : -1<=y) (h4:y<=1):x*y<=1:=by
 have a:=Rat.mul_nonneg (a:=1-x) (b:=1+y) (by grind) (by grind)
 have b:=Rat.mul_nonneg (a:=1+x) (b:=1-y) (by grind) (by grind)
 grind
theorem big_mul {x y:Rat} (h1:1<=x) (h2:1<=y):1<=x*y:=by
 have a:=Rat.mul_nonneg (a:=x-1) (b:=y-1) (by grind) (by grind)
 grind
theorem sin_max {A:Sp} {x:Rat} (hx:A.has x) (h1:¬ A.has 1):qB false x<=mxR (qB false A.lo) (qB false A.hi):=by
 obtain⟨a,b⟩:=hx
 have hc:1<A.lo\/A.hi<1:=by
  rcases Rat.le_total (a:=A.lo) (b:=1)with g|g
  ·rcases Rat.le_total (a:=1) (b:=A.hi)with k|k
   ·exact absurd ⟨g,k⟩ h1
   ·rcases Rat.le_iff_lt_or_eq.1 k with k|k
    ·exact .inr k
    ·exact absurd ⟨g,by rw[k];exact Rat.le_refl⟩ h1
  ·rcases Rat.le_iff_lt_or_eq.1 g with k|k
   ·exact .inl k
   ·exact absurd ⟨by rw[k];exact Rat.le_refl,by rw[k];exact A.ok⟩ h1
 rcases hc with hc|hc
 ·exact Rat.le_trans (sin_dn a (big_mul (by grind) (by grind))) (mxR_l _ _)
 ·rcases Rat.le_total (a := -1) (b:=x)with g|g
  ·exact Rat.le_trans (sin_up b (unit_mul g (by grind) (by grind) (by grind))) (mxR_r _ _)
  ·have:=big_mul (x := -A.lo) (y := -x) (by grind) (by grind)
   exact Rat.le_trans (sin_dn a (by grind)) (mxR_l _ _)
theorem sin_min {A:Sp} {x:Rat} (hx:A.has x) (h1:¬ A.has (-1)):mnR (qB false A.lo) (qB false A.hi)<=qB false x:=by
 obtain⟨a,b⟩:=hx
 have hc : -1<A.lo\/A.hi < -1:=by
  rcases Rat.le_total (a:=A.lo) (b := -1)with g|g
  ·rcases Rat.le_total (a := -1) (b:=A.hi)with k|k
   ·exact absurd ⟨g,k⟩ h1
   ·rcases Rat.le_iff_lt_or_eq.1 k with k|k
    ·exact .inr k
    ·exact absurd ⟨g,by rw[k];exact Rat.le_refl⟩ h1
  ·rcases Rat.le_iff_lt_or_eq.1 g with k|k
   ·exact .inl k
   ·exact absurd ⟨by rw[k];exact Rat.le_refl,by rw[k];exact A.ok⟩ h1
 rcases hc with hc|hc
 ·rcases Rat.le_total (a:=x) (b:=1)with g|g
  ·exact Rat.le_trans (mnR_l _ _) (sin_up a (unit_mul (by grind) (by grind) (by grind) g))
  ·exact Rat.le_trans (mnR_r _ _) (sin_dn b (big_mul g (by grind)))
 ·have:=big_mul (x := -x) (y := -A.hi) (by grind) (by grind)
  exact Rat.le_trans (mnR_r _ _) (sin_dn b (by grind))
def joinS (A B:Sp):Sp:=⟨mnR A.lo B.lo,mxR A.hi B.hi,Rat.le_trans (mnR_l _ _) (Rat.le_trans A.ok (mxR_l _ _))⟩
theorem join_l (A B:Sp):A.win (joinS A B):=⟨mnR_l _ _,mxR_l _ _⟩
theorem join_r (A B:Sp):B.win (joinS A B):=⟨mnR_r _ _,mxR_r _ _⟩
theorem Sp.win_trans {A B C:Sp} (h:A.win B) (h':B.win C):A.win C:=⟨Rat.le_trans h'.1 h.1,Rat.le_trans h.2 h'.2⟩
def hasB (A:Sp) (x:Rat):Bool:=decide (A.lo<=x)&&decide (x<=A.hi)
theorem hasB_iff {A:Sp} {x:Rat}:hasB A x=true↔A.has x:=by simp[hasB,Sp.has]
def sinS0 (A:Sp):Sp:=joinS (ofS (qB false A.lo)) (ofS (qB false A.hi))
def sinS1 (A:Sp):Sp:=if hasB A (-1)=true then joinS (sinS0 A) (ofS (-1))else sinS0 A
def sinS (A:Sp):Sp:=if hasB A 1=true then joinS (sinS1 A) (ofS 1)else sinS1 A
theorem sin01 (A:Sp):(sinS0 A).win (sinS1 A):=by
 unfold sinS1;split
 ·exact join_l _ _
 ·exact Sp.win_refl _
theorem sin12 (A:Sp):(sinS1 A).win (sinS A):=by
 unfold sinS;split
 ·exact join_l _ _
 ·exact Sp.win_refl _
theorem sin_has {A:Sp} {x:Rat} (hx:A.has x):(sinS A).has (qB false x):=by
 constructor
 ·by_cases h:A.has (-1)
  ·have e:(ofS (-1)).win (sinS1 A):=by
    rw[sinS1,if_pos (hasB_iff.2 h)];exact join_r _ _
   exact Rat.le_trans (Sp.win_trans e (sin12 A)).1 (sin_ge1 x)
  ·exact Rat.le_trans (Sp.win_trans (sin01 A) (sin12 A)).1 (sin_min hx h)
 ·by_cases h:A.has 1
  ·have e:(ofS 1).win (sinS A):=by
    rw[sinS,if_pos (hasB_iff.2 h)];exact join_r _ _
   exact Rat.le_trans (sin_le1 x) e.2
  ·exact Rat.le_trans (sin_max hx h) (Sp.win_trans (sin01 A) (sin12 A)).2
def dnR (x:Rat):Rat:=hide (((x*1000000).floor:Rat)/1000000)
def upR (x:Rat):Rat:=hide (-(dnR (-x)))
theorem dn_le (x:Rat):dnR x<=x:=by
 rw[dnR,qh]
 have h:=Rat.floor_le (x*1000000)
 have e:x=(x*1000000)/1000000:=by grind
 conv=>rhs;rw[e]
 generalize ((x*1000000).floor:Rat)=k at*
 generalize x*1000000=z at*
 exact div_le (by decide) (by decide) (by grind)
theorem up_ge (x:Rat):x<=upR x:=by
 rw[upR,qh];have:=dn_le (-x);grind
def cutL (A:Sp):Rat:=hide (mxR (dnR A.lo) (-1))
def cutH (A:Sp):Rat:=hide (mnR (upR A.hi) 1)
def cutS (A:Sp):Sp:=qk (cutL A) (cutH A)
theorem cut_raw {A:Sp} {x:Rat} (hx:A.has x) (h1 : -1<=x) (h2:x<=1):cutL A<=x/\x<=cutH A:=by
 rw[cutL,cutH,qh,qh]
 exact⟨mxR_le (Rat.le_trans (dn_le _) hx.1) h1,le_mnR (Rat.le_trans hx.2 (up_ge _)) h2⟩
theorem cut_ok {A:Sp} {x:Rat} (hx:A.has x) (h1 : -1<=x) (h2:x<=1):cutL A<=cutH A:=Rat.le_trans (cut_raw hx h1 h2).1 (cut_raw hx h1 h2).2
theorem cut_has {A:Sp} {x:Rat} (hx:A.has x) (h1 : -1<=x) (h2:x<=1):(cutS A).has x:=by
 have h:=cut_ok hx h1 h2
 unfold cutS Sp.has
 rw[fitS_lo h,fitS_hi h]
 exact cut_raw hx h1 h2
structure Lz where
 X:Sp
 Y:Sp
 C:Sp
 S:Sp
def Lz.hasF (l:Lz) (f:Fr):Prop:=l.X.has f.x/\l.Y.has f.y/\l.C.has (qQ f.h f.t)/\l.S.has (qB f.h f.t)
def Lz.win (l m:Lz):Prop:=l.X.win m.X/\l.Y.win m.Y/\l.C.win m.C/\l.S.win m.S
def lz0 (b:Fr):Lz:=⟨ofS b.x,ofS b.y,ofS (qQ b.h b.t),ofS (qB b.h b.t)⟩
def lcC (Q:Sp) (l:Lz):Sp:=subS (mulS l.C (cosS Q)) (mulS l.S (sinS Q))
def lcS (Q:Sp) (l:Lz):Sp:=addS (mulS l.S (cosS Q)) (mulS l.C (sinS Q))
def lturn (Q:Sp) (l:Lz):Lz:=⟨l.X,l.Y,cutS (lcC Q l),cutS (lcS Q l)⟩
def lstep (L:Rat) (l:Lz):Lz:=⟨addS l.X (mulS (ofS L) l.C),addS l.Y (mulS (ofS L) l.S),l.C,l.S⟩
def lzE (b:Fr) (Q:Nat->Sp) (L:Nat->Rat):Nat->Lz
 | 0=>lz0 b
 | i+1=>lstep (L i) (lturn (Q i) (lzE b Q L i))
def lzF (b:Fr) (Q:Nat->Sp) (L:Nat->Rat) (i:Nat):Lz:=lturn (Q i) (lzE b Q L i)
def lzA (b:Fr) (Q:Nat->Sp) (L:Nat->Rat) (n i:Nat):Lz:=if i<n then lzF b Q L i else lzE b Q L n
theorem cs_bd (h:Bool) (t:Rat):(-1<=qQ h t/\qQ h t<=1)/\(-1<=qB h t/\qB h t<=1):=by
 have e:=cos_sin h t
 have a:=sq_nn (qQ h t)
 have b:=sq_nn (qB h t)
 have up:∀ z:Rat,z*z<=1 -> -1<=z/\z<=1:=fun z hz=>by
  have h1:=sq_le_of (x:=z) (y:=1) (by decide) (by grind)
  have h2:=sq_le_of (x := -z) (y:=1) (by decide) (by grind)
  exact⟨by grind,h1⟩
 exact⟨up _ (by grind),up _ (by grind)⟩
theorem lc_has {b:Fr} {Q:Sp} {l:Lz} {q:Rat} (h:l.hasF b) (hq:Q.has q):(lcC Q l).has (qQ (thH b.h b.t false q) (thT b.h b.t false q))/\(lcS Q l).has (qB (thH b.h b.t false q) (thT b.h b.t false q)):=by
 obtain⟨h1,h2,h3,h4⟩:=h
 obtain⟨c,s⟩:=then_cs b.h b.t false q
 rw[c,s]
 exact⟨sub_has (mul_has h3 (cos_has hq)) (mul_has h4 (sin_has hq)),add_has (mul_has h4 (cos_has hq)) (mul_has h3 (sin_has hq))⟩
theorem lturn_has {b:Fr} {Q:Sp} {l:Lz} {q:Rat} (h:l.hasF b) (hq:Q.has q):(lturn Q l).hasF (fstep q b):=by
 obtain⟨c,s⟩:=lc_has h hq
 have bd:=cs_bd (thH b.h b.t false q) (thT b.h b.t false q)
 exact⟨h.1,h.2.1,cut_has c bd.1.1 bd.1.2,cut_has s bd.2.1 bd.2.2⟩
theorem lstep_has {f:Fr} {l:Lz} {L:Rat} (h:l.hasF f) (hf:f.h=true->f.t=0):(lstep L l).hasF (estep L f):=by
 obtain⟨h1,h2,h3,h4⟩:=h
 unfold estep
 rw[ft_of hf]
 exact⟨add_has h1 (mul_has (ofS_has L) h3),add_has h2 (mul_has (ofS_has L) h4),h3,h4⟩
theorem lzE_has {b:Fr} {Q:Nat->Sp} {q L:Nat->Rat}:∀ (i:Nat),(∀ j,j<i->(Q j).has (q j))->(lzE b Q L i).hasF (endR b q L i)
 | 0,_=>⟨ofS_has _,ofS_has _,ofS_has _,ofS_has _⟩
 | i+1,h=>lstep_has (lturn_has (lzE_has i fun j hj=>h j (by omega)) (h i (by omega))) (th_norm _ _ _ _)
def atX (l:Lz) (x y:Rat):Sp:=addS l.X (subS (mulS (ofS x) l.C) (mulS (ofS y) l.S))
def atY (l:Lz) (x y:Rat):Sp:=addS l.Y (addS (mulS (ofS x) l.S) (mulS (ofS y) l.C))
def ptX (f:Fr) (x y:Rat):Rat:=f.x+(x*qQ f.h f.t-y*qB f.h f.t)
def ptY (f:Fr) (x y:Rat):Rat:=f.y+(x*qB f.h f.t+y*qQ f.h f.t)
def jnS (g:Nat->Sp):Nat->Sp
 | 0=>g 0
 | k+1=>joinS (jnS g k) (g (k+1))
end
section
open Go Tryz
set_option maxRecDepth 100000
variable {G:World->(Nat->Prop)->Prop} (hG:GOk G)
theorem enLi:Enters prog 116 f116 (qd f116):=⟨func116,by kernel_rfl,rfl⟩
theorem enPl:Enters prog 68 f68 (qd f68):=⟨func68,by kernel_rfl,rfl⟩
def bLi:Code:=(qi (qd f116)).getD 0 .skip
def polLi:Pol:={live:=[(3,[2,5,11,12,13])]}
def OLi:Orc:=[(89,g92)]
def lLi:qA:=unr prog OLi [] polLi f116.ntmps 0 [2,5,11,12,13] bLi 5
theorem eLi3 (f:Fr) (px py:Nat->Rat):(evF prog OLi [(3,lLi)] polLi f116 [frP f 20000 1500,.lst 6 (.fn 3 (pv px py))] [] ql).run=
 (Tr.ok (.ret (.fr 6 (.fn 3 fun(j:Nat)=>bif (j+0).beq (2:Nat)then .agg [.q (f.x+(px (2:Nat)*qQ f.h f.t-py (2:Nat)*qB f.h f.t)) 32138,.q (f.y+(px (2:Nat)*qB f.h f.t+py (2:Nat)*qQ f.h f.t)) 32138]else bif (j+0).beq (1:Nat)then .agg [.q (f.x+(px (1:Nat)*qQ f.h f.t-py (1:Nat)*qB f.h f.t)) 32138,.q (f.y+(px (1:Nat)*qB f.h f.t+py (1:Nat)*qQ f.h f.t)) 32138]else bif (j+0).beq (0:Nat)then .agg [.q (f.x+(px (0:Nat)*qQ f.h f.t-py (0:Nat)*qB f.h f.t)) 32138,.q (f.y+(px (0:Nat)*qB f.h f.t+py (0:Nat)*qQ f.h f.t)) 32138]else .agg [.agg [.bl false,.s (ByteArray.mk #[]),.s (ByteArray.mk #[])],.agg [.bl false,.s (ByteArray.mk #[]),.s (ByteArray.mk #[])]])) [])).run:=by kernel_rfl
theorem eLi4 (f:Fr) (px py:Nat->Rat):(evF prog OLi [(3,lLi)] polLi f116 [frP f 20000 1500,.lst 6 (.fn 4 (pv px py))] [] ql).run=
 (Tr.ok (.ret (.fr 6 (.fn 4 fun(j:Nat)=>bif (j+0).beq (3:Nat)then .agg [.q (f.x+(px (3:Nat)*qQ f.h f.t-py (3:Nat)*qB f.h f.t)) 32138,.q (f.y+(px (3:Nat)*qB f.h f.t+py (3:Nat)*qQ f.h f.t)) 32138]else bif (j+0).beq (2:Nat)then .agg [.q (f.x+(px (2:Nat)*qQ f.h f.t-py (2:Nat)*qB f.h f.t)) 32138,.q (f.y+(px (2:Nat)*qB f.h f.t+py (2:Nat)*qQ f.h f.t)) 32138]else bif (j+0).beq (1:Nat)then .agg [.q (f.x+(px (1:Nat)*qQ f.h f.t-py (1:Nat)*qB f.h f.t)) 32138,.q (f.y+(px (1:Nat)*qB f.h f.t+py (1:Nat)*qQ f.h f.t)) 32138]else bif (j+0).beq (0:Nat)then .agg [.q (f.x+(px (0:Nat)*qQ f.h f.t-py (0:Nat)*qB f.h f.t)) 32138,.q (f.y+(px (0:Nat)*qB f.h f.t+py (0:Nat)*qQ f.h f.t)) 32138]else .agg [.agg [.bl false,.s (ByteArray.mk #[]),.s (ByteArray.mk #[])],.agg [.bl false,.s (ByteArray.mk #[]),.s (ByteArray.mk #[])]])) [])).run:=by kernel_rfl
def dF:PV->Fr
 | .agg [.agg [.q x _,.q y _],.agg [hv,.q t _]]=>⟨x,y,(bof hv).getD false,t⟩
 | _=>⟨0,0,false,0⟩
def plP (f:Fr) (px py:Nat->Rat) (j:Nat):PV:=.agg [.q (ptX f (px j) (py j)) 32138,.q (ptY f (px j) (py j)) 32138]
def plF (v:PV) (g:Nat->PV):Nat->PV:=plP (dF v) (fun j=>dq (fldV (g j) 0)) (fun j=>dq (fldV (g j) 1))
def isLi (v:PV) (n:Nat) (g:Nat->PV):Prop:=∃ f px py,v=frP f 20000 1500/\g=pv px py/\(n=3\/n=4)
def gLi:Spec:=fun args hs K=>match args,hs with
 | [v,.lst 6 (.fn n g)],[]=>.br (qg (isLi v n g)) (K (.fr 6 (.fn n (plF v g))) []) (.no 1)
 | _,_=>.no 1
def armQ (A:Am) (n:Nat):PV:=.agg [.s A.name,.agg [.agg [.q A.bx 64,.q A.by_ 64],.agg [.bl false,.q A.t 64]],.lst 16 (.fn n (fun j=>lkPV (A.lk j)))]
def bPl:Code:=(qi (qd f68)).getD 0 .skip
def polPl:Pol:={live:=[(6,[6,8,21,22,23])]}
def lPl:qA:=unr prog [(116,gLi)] [] polPl f68.ntmps 0 [6,8,21,22,23] bPl 4
def OPl (A:Am) (n N:Nat) (q:List Rat) (ff:Nat->Fr):Orc:=[(87,cst [armQ A n,.lst 3 (.rats 64 q)] True (.tup [.fr 10 (.fn N (fun i=>frP (ff i) 20000 1500)),.i .i64 0])),(116,gLi)]
theorem ePl1 (A:Am) (q:List Rat) (ff:Nat->Fr):(evF prog (OPl A 1 2 q ff) [(6,lPl)] polPl f68 [armQ A 1,.lst 3 (.rats 64 q)] [] ql).run=
 (Tr.br (qg (isA [.agg [.s A.name,.agg [.agg [.q A.bx 64,.q A.by_ 64],.agg [.bl false,.q A.t 64]],.lst 16 (.fn 1 fun(j:Nat)=>lkPV (A.lk j))],.lst 3 (.rats 64 q)] True [.agg [.s A.name,.agg [.agg [.q A.bx 64,.q A.by_ 64],.agg [.bl false,.q A.t 64]],.lst 16 (.fn 1 fun(j:Nat)=>lkPV (A.lk j))],.lst 3 (.rats 64 q)])) (.br (qg (isLi (frP (ff (0:Nat)) 20000 1500) (A.lk (0:Nat)).np (pv (A.lk (0:Nat)).px (A.lk (0:Nat)).py))) (.br ((0+(A.lk (0:Nat)).np).ble (A.lk (0:Nat)).np) (.ok (.ret (.tup [.fr 1 (.vals [.lst 6 (.fn (A.lk (0:Nat)).np fun(j:Nat)=>.agg [.q (ptX (dF (frP (ff (0:Nat)) 20000 1500)) (dq (.q ((A.lk (0:Nat)).px (j+0)) 64)) (dq (.q ((A.lk (0:Nat)).py (j+0)) 64))) 32138,.q (ptY (dF (frP (ff (0:Nat)) 20000 1500)) (dq (.q ((A.lk (0:Nat)).px (j+0)) 64)) (dq (.q ((A.lk (0:Nat)).py (j+0)) 64))) 32138])]),.i .i64 0]) [])) (.no 9004)) (.no 1)) (.no 1)).run:=by kernel_rfl
theorem ePl2 (A:Am) (q:List Rat) (ff:Nat->Fr):(evF prog (OPl A 2 3 q ff) [(6,lPl)] polPl f68 [armQ A 2,.lst 3 (.rats 64 q)] [] ql).run=
 (Tr.br (qg (isA [.agg [.s A.name,.agg [.agg [.q A.bx 64,.q A.by_ 64],.agg [.bl false,.q A.t 64]],.lst 16 (.fn 2 fun(j:Nat)=>lkPV (A.lk j))],.lst 3 (.rats 64 q)] True [.agg [.s A.name,.agg [.agg [.q A.bx 64,.q A.by_ 64],.agg [.bl false,.q A.t 64]],.lst 16 (.fn 2 fun(j:Nat)=>lkPV (A.lk j))],.lst 3 (.rats 64 q)])) (.br (qg (isLi (frP (ff (0:Nat)) 20000 1500) (A.lk (0:Nat)).np (pv (A.lk (0:Nat)).px (A.lk (0:Nat)).py))) (.br ((0+(A.lk (0:Nat)).np).ble (A.lk (0:Nat)).np) (.br (qg (isLi (frP (ff (1:Nat)) 20000 1500) (A.lk (1:Nat)).np (pv (A.lk (1:Nat)).px (A.lk (1:Nat)).py))) (.br ((0+(A.lk (1:Nat)).np).ble (A.lk (1:Nat)).np) (.ok (.ret (.tup [.fr 1 (.vals [.lst 6 (.fn (A.lk (0:Nat)).np fun(j:Nat)=>.agg [.q (ptX (dF (frP (ff (0:Nat)) 20000 1500)) (dq (.q ((A.lk (0:Nat)).px (j+0)) 64)) (dq (.q ((A.lk (0:Nat)).py (j+0)) 64))) 32138,.q (ptY (dF (frP (ff (0:Nat)) 20000 1500)) (dq (.q ((A.lk (0:Nat)).px (j+0)) 64)) (dq (.q ((A.lk (0:Nat)).py (j+0)) 64))) 32138]),.lst 6 (.fn (A.lk (1:Nat)).np fun(j:Nat)=>.agg [.q (ptX (dF (frP (ff (1:Nat)) 20000 1500)) (dq (.q ((A.lk (1:Nat)).px (j+0)) 64)) (dq (.q ((A.lk (1:Nat)).py (j+0)) 64))) 32138,.q (ptY (dF (frP (ff (1:Nat)) 20000 1500)) (dq (.q ((A.lk (1:Nat)).px (j+0)) 64)) (dq (.q ((A.lk (1:Nat)).py (j+0)) 64))) 32138])]),.i .i64 0]) [])) (.no 9004)) (.no 1)) (.no 9004)) (.no 1)) (.no 1)).run:=by kernel_rfl
theorem ePl3 (A:Am) (q:List Rat) (ff:Nat->Fr):(evF prog (OPl A 3 4 q ff) [(6,lPl)] polPl f68 [armQ A 3,.lst 3 (.rats 64 q)] [] ql).run=
 (Tr.br (qg (isA [.agg [.s A.name,.agg [.agg [.q A.bx 64,.q A.by_ 64],.agg [.bl false,.q A.t 64]],.lst 16 (.fn 3 fun(j:Nat)=>lkPV (A.lk j))],.lst 3 (.rats 64 q)] True [.agg [.s A.name,.agg [.agg [.q A.bx 64,.q A.by_ 64],.agg [.bl false,.q A.t 64]],.lst 16 (.fn 3 fun(j:Nat)=>lkPV (A.lk j))],.lst 3 (.rats 64 q)])) (.br (qg (isLi (frP (ff (0:Nat)) 20000 1500) (A.lk (0:Nat)).np (pv (A.lk (0:Nat)).px (A.lk (0:Nat)).py))) (.br ((0+(A.lk (0:Nat)).np).ble (A.lk (0:Nat)).np) (.br (qg (isLi (frP (ff (1:Nat)) 20000 1500) (A.lk (1:Nat)).np (pv (A.lk (1:Nat)).px (A.lk (1:Nat)).py))) (.br ((0+(A.lk (1:Nat)).np).ble (A.lk (1:Nat)).np) (.br (qg (isLi (frP (ff (2:Nat)) 20000 1500) (A.lk (2:Nat)).np (pv (A.lk (2:Nat)).px (A.lk (2:Nat)).py))) (.br ((0+(A.lk (2:Nat)).np).ble (A.lk (2:Nat)).np) (.ok (.ret (.tup [.fr 1 (.vals [.lst 6 (.fn (A.lk (0:Nat)).np fun(j:Nat)=>.agg [.q (ptX (dF (frP (ff (0:Nat)) 20000 1500)) (dq (.q ((A.lk (0:Nat)).px (j+0)) 64)) (dq (.q ((A.lk (0:Nat)).py (j+0)) 64))) 32138,.q (ptY (dF (frP (ff (0:Nat)) 20000 1500)) (dq (.q ((A.lk (0:Nat)).px (j+0)) 64)) (dq (.q ((A.lk (0:Nat)).py (j+0)) 64))) 32138]),.lst 6 (.fn (A.lk (1:Nat)).np fun(j:Nat)=>.agg [.q (ptX (dF (frP (ff (1:Nat)) 20000 1500)) (dq (.q ((A.lk (1:Nat)).px (j+0)) 64)) (dq (.q ((A.lk (1:Nat)).py (j+0)) 64))) 32138,.q (ptY (dF (frP (ff (1:Nat)) 20000 1500)) (dq (.q ((A.lk (1:Nat)).px (j+0)) 64)) (dq (.q ((A.lk (1:Nat)).py (j+0)) 64))) 32138]),.lst 6 (.fn (A.lk (2:Nat)).np fun(j:Nat)=>.agg [.q (ptX (dF (frP (ff (2:Nat)) 20000 1500)) (dq (.q ((A.lk (2:Nat)).px (j+0)) 64)) (dq (.q ((A.lk (2:Nat)).py (j+0)) 64))) 32138,.q (ptY (dF (frP (ff (2:Nat)) 20000 1500)) (dq (.q ((A.lk (2:Nat)).px (j+0)) 64)) (dq (.q ((A.lk (2:Nat)).py (j+0)) 64))) 32138])]),.i .i64 0]) [])) (.no 9004)) (.no 1)) (.no 9004)) (.no 1)) (.no 9004)) (.no 1)) (.no 1)).run:=by kernel_rfl
theorem kl_ff {e n:Nat} {f g:Nat->PV} (h:∀ i,i<n->noRef 8 (f i)=true/\VLe (f i) (g i)):KLe ⟨e,.fn n f⟩ ⟨e,.fn n g⟩:=by
 intro w S μ a z hb
 obtain⟨c,T,cs,h1,h2,h3,h4,h5,h6⟩:=hb
 refine⟨c,T,cs,h1,h2,h3,fun i hi => ?_,h5,h6⟩
 have h7:=h4 i hi
 simp only[Cont.get,qD]at h7 ⊢
 exact((h i hi).2.2 w S qR).1 _ h7
theorem fr_ff (e n:Nat) {f g:Nat->PV} (h:∀ i,i<n->noRef 8 (f i)=true/\VLe (f i) (g i)):RLe (.fr e (.fn n f)) (.fr e (.fn n g)):=
 ⟨fun m=>.refl _,fun m=>KsLe.one (kl_ff h)⟩
include hG in
theorem gkLi (hT:qp G):qc prog G 116 gLi:=by
 intro args hs K x h
 unfold gLi at h
 split at h
 case h_2=>cases h
 rename_i v n g
 obtain⟨hc,hr⟩:=k8 h
 obtain⟨f,px,py,rfl,rfl,hn⟩:=decP_iff.1 hc
 have orc:OrcOK prog G OLi:=.cons (gk92 hG hT) .nil
 have hl:=qN (P:=prog) (G:=G) (pol:=polLi) (n:=f116.ntmps) (m:=0) (L:=[(3,lLi)]) (c:=qd f116) (b:=bLi) (live:=[2,5,11,12,13]) (sp:=lLi) (by kernel_rfl) (by kernel_rfl) (by kernel_rfl) (unr_ok hG orc mix (kA (by kernel_rfl)) 5)
 refine⟨_,_,?_,hr⟩
 rcases hn with rfl|rfl
 ·refine(qj hG orc mix enLi (hs:=[]) (pol:=polLi) (L:=[(3,lLi)]) hl ((eLi3 f px py).trans k7)).le (fr_ff 6 3 fun i hi => ?_) (.refl _)
  match i,hi with
  | 0,_=>exact⟨rfl,.refl _⟩
  | 1,_=>exact⟨rfl,.refl _⟩
  | 2,_=>exact⟨rfl,.refl _⟩
  | i+3,hi=>exact absurd hi (by omega)
 ·refine(qj hG orc mix enLi (hs:=[]) (pol:=polLi) (L:=[(3,lLi)]) hl ((eLi4 f px py).trans k7)).le (fr_ff 6 4 fun i hi => ?_) (.refl _)
  match i,hi with
  | 0,_=>exact⟨rfl,.refl _⟩
  | 1,_=>exact⟨rfl,.refl _⟩
  | 2,_=>exact⟨rfl,.refl _⟩
  | 3,_=>exact⟨rfl,.refl _⟩
  | i+4,hi=>exact absurd hi (by omega)
def plC (A:Am) (ff:Nat->Fr) (i:Nat):PV:=.lst 6 (.fn (A.lk i).np (plP (ff i) (A.lk i).px (A.lk i).py))
def shp (A:Am):Prop:=∀ j,j<A.n->(A.lk j).np=3\/(A.lk j).np=4
include hG in
theorem pcPl (hT:qp G) (A:Am) (hA:armB A=true) (hS:shp A) (q:List Rat) (hq:q.length=A.n):
  PC prog G 68 [qm A,.lst 3 (.rats 64 q)] [] (.tup [.fr 1 (.fn A.n (plC A (allF (bsF A) (qf q) (fun j=>(A.lk j).len) A.n))),.i .i64 0]) []:=by
 have p13:=pc39 hG hT A hA q hq
 unfold frs at p13
 obtain⟨a1,a2,a3,a4,h1,h3,a7⟩:=armB_c hA
 generalize allF (bsF A) (qf q) (fun j=>(A.lk j).len) A.n=ff at*
 have hl:=qN (P:=prog) (G:=G) (pol:=polPl) (n:=f68.ntmps) (m:=0) (L:=[(6,lPl)]) (c:=qd f68) (b:=bPl) (live:=[6,8,21,22,23]) (sp:=lPl) (by kernel_rfl) (by kernel_rfl) (by kernel_rfl) (unr_ok hG (.cons (gkLi hG hT) .nil) mix (kA (by kernel_rfl)) 4)
 have ha:qm A=armQ A A.n:=rfl
 rw[ha]at p13 ⊢
 unfold shp at hS
 rcases(show A.n=1\/A.n=2\/A.n=3 by omega)with hn|hn|hn
 ·rw[hn]at p13 hS ⊢
  refine(qj hG (.cons (qS p13) (.cons (gkLi hG hT) .nil)) mix enPl (hs:=[]) (pol:=polPl) (L:=[(6,lPl)]) hl (r:=.tup [.fr 1 (.vals [plC A ff 0]),.i .i64 0]) (hs':=[]) ?_).le (frs_le0 _ _ _ _ rfl fun i v hi => ?_) (.refl _)
  ·refine(ePl1 A q ff).trans ?_
   repeat (refine Eq.trans (k5 ?_) ?_;first|exact decP_iff.2 ⟨rfl,trivial⟩|exact decP_iff.2 ⟨_,_,_,rfl,rfl,hS _ (by omega)⟩|(rw[kH];omega))
   rw[k7];rfl
  ·match i,hi with
   | 0,hi=>simp at hi;subst hi;exact⟨rfl,.refl _⟩
   | i+1,hi=>simp at hi
 ·rw[hn]at p13 hS ⊢
  refine(qj hG (.cons (qS p13) (.cons (gkLi hG hT) .nil)) mix enPl (hs:=[]) (pol:=polPl) (L:=[(6,lPl)]) hl (r:=.tup [.fr 1 (.vals [plC A ff 0,plC A ff 1]),.i .i64 0]) (hs':=[]) ?_).le (frs_le0 _ _ _ _ rfl fun i v hi => ?_) (.refl _)
  ·refine(ePl2 A q ff).trans ?_
   repeat (refine Eq.trans (k5 ?_) ?_;first|exact decP_iff.2 ⟨rfl,trivial⟩|exact decP_iff.2 ⟨_,_,_,rfl,rfl,hS _ (by omega)⟩|(rw[kH];omega))
   rw[k7];rfl
  ·match i,hi with
   | 0,hi=>simp at hi;subst hi;exact⟨rfl,.refl _⟩
   | 1,hi=>simp at hi;subst hi;exact⟨rfl,.refl _⟩
   | i+2,hi=>simp at hi
 ·rw[hn]at p13 hS ⊢
  refine(qj hG (.cons (qS p13) (.cons (gkLi hG hT) .nil)) mix enPl (hs:=[]) (pol:=polPl) (L:=[(6,lPl)]) hl (r:=.tup [.fr 1 (.vals [plC A ff 0,plC A ff 1,plC A ff 2]),.i .i64 0]) (hs':=[]) ?_).le (frs_le0 _ _ _ _ rfl fun i v hi => ?_) (.refl _)
  ·refine(ePl3 A q ff).trans ?_
   repeat (refine Eq.trans (k5 ?_) ?_;first|exact decP_iff.2 ⟨rfl,trivial⟩|exact decP_iff.2 ⟨_,_,_,rfl,rfl,hS _ (by omega)⟩|(rw[kH];omega))
   rw[k7];rfl
  ·match i,hi with
   | 0,hi=>simp at hi;subst hi;exact⟨rfl,.refl _⟩
   | 1,hi=>simp at hi;subst hi;exact⟨rfl,.refl _⟩
   | 2,hi=>simp at hi;subst hi;exact⟨rfl,.refl _⟩
   | i+3,hi=>simp at hi
theorem shp_V (v:PV):shp (armD v):=by
 intro j _
 show(shV _).len=3\/(shV _).len=4
 unfold shV
 split
 ·exact .inl rfl
 ·exact .inr rfl
structure Pg where
 n:Nat
 u:Nat->Rat
 v:Nat->Rat
def pw (x y:Rat):PV:=.agg [.q x 32138,.q y 32138]
def pgC (P:Pg):Cont:=.fn P.n (fun j=>pw (P.u j) (P.v j))
def pgV (P:Pg):PV:=.lst 6 (pgC P)
theorem enLf:Enters prog 190 f190 (qd f190):=⟨func190,by kernel_rfl,rfl⟩
def OLf:Orc:=[(215,g97),(141,g41),(97,g26)]
theorem eLf (a b c d e f:Rat):(evF prog OLf [] {} f190 [pw a b,pw c d,pw e f] [] ql).run=some (.ret (.i .i64 (rcmp (tri a b c d e f) 0)) []):=by kernel_rfl
def gLf:Spec:=fun args hs K=>match args,hs with
 | [.agg [.q a 32138,.q b 32138],.agg [.q c 32138,.q d 32138],.agg [.q e 32138,.q f 32138]],[]=>K (.i .i64 (rcmp (tri a b c d e f) 0)) []
 | _,_=>.no 1
include hG in
theorem gkLf (hT:qp G):qc prog G 190 gLf:=by
 intro args hs K x h
 unfold gLf at h
 split at h
 case h_2=>cases h
 rename_i a b c d e f
 exact⟨_,_,qj hG (.cons (gk97 hG hT) (.cons (gk41 hG hT) (.cons (gk26 hG hT) .nil))) mix enLf (hs:=[]) (L:=[]) (pol:={}) (kA (by kernel_rfl)) (eLf a b c d e f),h⟩
theorem enPk:Enters prog 151 f151 (qd f151):=⟨func151,by kernel_rfl,rfl⟩
def bCk:Code:=(qi (qd f151)).getD 0 .skip
def iCk:Code:=(qi (qd f151)).getD 1 .skip
def polCk:Pol:={live:=[(7,[0,4,5,18,19,20]),(10,[0,4,5,6,7,8,18,19,20])]}
def siCk (P:Pg) (e i k:Int):LS:=⟨[pgV P,.i .i64 e,.i .i64 P.n,.i .i64 i,.ptr 0 6 0 0 [],.i .i64 k,pgV P,.i .i64 P.n,.i .i64 i],[some ⟨6,.vals [pw (P.u i.toNat) (P.v i.toNat)]⟩]⟩
def soCk (P:Pg) (e i:Int):LS:=⟨[pgV P,.i .i64 e,.i .i64 P.n,pgV P,.i .i64 P.n,.i .i64 i],[]⟩
def trP (P:Pg) (i j k:Nat):Rat:=tri (P.u i) (P.v i) (P.u j) (P.v j) (P.u k) (P.v k)
theorem tiCk (P:Pg) (i k:Int):(qe prog [(190,gLf)] [] polCk f151.ntmps 0 [0,4,5,6,7,8,18,19,20] iCk (siCk P 0 i k)).run=
  (Tr.br (decide (k<(P.n:Int))) (.br (ovf (i+1)) (.br (!decide ((P.n:Int)=0)) (.br (ix ((i+1).tmod P.n) ((P.n:Int))) (.br (ovf (i+k)) (.br (!decide ((P.n:Int)=0)) (.br (ix ((i+k).tmod P.n) ((P.n:Int))) (.br (decide (rcmp (trP P i.toNat ((i+1).tmod P.n).toNat ((i+k).tmod P.n).toNat) 0<=0)) (.ok (.out .ret (siCk P 3 i k))) (.br (ovf (k+1)) (.ok (.out .normal (siCk P 0 i (k+1)))) (.no 1))) (.no 1)) (.no 1)) (.no 1)) (.no 1)) (.no 1)) (.no 1)) (.ok (.out (.exit 3) (siCk P 0 i k)))).run:=by kernel_rfl
theorem toCk (P:Pg) (i j k:Int):(qe prog [(190,gLf)] [(10,qy (siCk P 0 j 2) (.exit 3) (siCk P 0 j k))] polCk f151.ntmps 0 [0,4,5,18,19,20] bCk (soCk P 0 i)).run=
  (Tr.br (decide (i<(P.n:Int))) (.br (ix (i) ((P.n:Int))) (.br (qg (isLS (siCk P 0 j 2) (siCk P 0 i 2))) (.br (ovf (j+1)) (.ok (.out .normal (soCk P 0 (j+1)))) (.no 1)) (.no 1)) (.no 1)) (.ok (.out (.exit 1) (soCk P 0 i)))).run:=by kernel_rfl
theorem toCkb (P:Pg) (i j k:Int):(qe prog [(190,gLf)] [(10,qy (siCk P 0 j 2) .ret (siCk P 3 j k))] polCk f151.ntmps 0 [0,4,5,18,19,20] bCk (soCk P 0 i)).run=
  (Tr.br (decide (i<(P.n:Int))) (.br (ix (i) ((P.n:Int))) (.br (qg (isLS (siCk P 0 j 2) (siCk P 0 i 2))) (.ok (.out .ret (soCk P 3 j))) (.no 1)) (.no 1)) (.ok (.out (.exit 1) (soCk P 0 i)))).run:=by kernel_rfl
theorem eCkg (P:Pg) (m:Int):(evF prog [(190,gLf)] [(7,qy (soCk P 0 0) (.exit 1) (soCk P 0 P.n))] polCk f151 [pgV P,.i .i64 m] [] ql).run=
  (Tr.br (decide (m<(P.n:Int))) (.ok (.ret (.i .i64 2) [])) (.br (decide ((P.n:Int)<3)) (.ok (.ret (.i .i64 3) [])) (.br (qg (isLS (soCk P 0 0) (soCk P 0 0))) (.ok (.ret (.i .i64 0) [])) (.no 1)))).run:=by kernel_rfl
theorem eCkb (P:Pg) (m i:Int):(evF prog [(190,gLf)] [(7,qy (soCk P 0 0) .ret (soCk P 3 i))] polCk f151 [pgV P,.i .i64 m] [] ql).run=
  (Tr.br (decide (m<(P.n:Int))) (.ok (.ret (.i .i64 2) [])) (.br (decide ((P.n:Int)<3)) (.ok (.ret (.i .i64 3) [])) (.br (qg (isLS (soCk P 0 0) (soCk P 0 0))) (.ok (.ret (.i .i64 3) [])) (.no 1)))).run:=by kernel_rfl
def pkR (P:Pg) (i k:Nat):Bool:=decide (0<trP P i ((i+1)%P.n) ((i+k)%P.n))
def pkI (P:Pg) (i:Nat):Bool:=(List.range (P.n-2)).all fun j=>pkR P i (j+2)
def pkB (P:Pg):Bool:=(List.range P.n).all (pkI P)
def pkE (P:Pg):Int:=if pkB P=true then 0 else 3
theorem all_r {n:Nat} {f:Nat->Bool}:(List.range n).all f=true↔∀ j,0<=j->j<n->f j=true:=by
 simp[List.all_eq_true,List.mem_range]
include hG in
theorem goesCi (hT:qp G) (P:Pg) (h3:3<=P.n) (h8:P.n<=8) (i:Nat) (hi:i<P.n):
  (pkI P i=true->Goes (Rnd prog G f151.ntmps 0 [0,4,5,6,7,8,18,19,20] iCk) (siCk P 0 i 2) (.exit 3) (siCk P 0 i P.n))/\
  (pkI P i=false->∃ k:Int,Goes (Rnd prog G f151.ntmps 0 [0,4,5,6,7,8,18,19,20] iCk) (siCk P 0 i 2) .ret (siCk P 3 i k)):=by
 have rd:∀ (k:Int) (e:Exit) (ls:LS),(qe prog [(190,gLf)] [] polCk f151.ntmps 0 [0,4,5,6,7,8,18,19,20] iCk (siCk P 0 i k)).run=some (.out e ls)->
   Rnd prog G f151.ntmps 0 [0,4,5,6,7,8,18,19,20] iCk (siCk P 0 i k) e ls:=fun k e ls h=>
  qb hG (.cons (gkLf hG hT) .nil) mix (L:=[]) (pol:=polCk) (kA (by kernel_rfl)) (Nat.zero_le _) h
 have e1:(((i:Nat):Int)+1).tmod P.n=(((i+1)%P.n:Nat):Int):=tmod_nat (i+1) P.n
 have m1:=Nat.mod_lt (i+1) (show 0<P.n by omega)
 have st:∀ j,j<P.n-2->∀ r,(Tr.br (decide (rcmp (trP P i ((i+1)%P.n) ((i+(j+2))%P.n)) 0<=(0:Int))) (.ok (.out .ret (siCk P 3 i ((j+2:Nat):Int)))) (.br (ovf (((j+2:Nat):Int)+1)) (.ok (.out .normal (siCk P 0 i (((j+2:Nat):Int)+1)))) (.no 1))).run=some r->
   (qe prog [(190,gLf)] [] polCk f151.ntmps 0 [0,4,5,6,7,8,18,19,20] iCk (siCk P 0 i ((j+2:Nat):Int))).run=some r:=fun j hj r h=>by
  have e2:(((i:Nat):Int)+((j+2:Nat):Int)).tmod P.n=(((i+(j+2))%P.n:Nat):Int):=tmod_nat (i+(j+2)) P.n
  have m2:=Nat.mod_lt (i+(j+2)) (show 0<P.n by omega)
  refine(tiCk P i ((j+2:Nat):Int)).trans ?_
  rw[e1,e2,Int.toNat_natCast,Int.toNat_natCast,Int.toNat_natCast]
  generalize (i+1)%P.n=a at*
  generalize (i+(j+2))%P.n=b at*
  rw[k5 (kF (by omega)),k5 (by simp only[ovf,kD,kE];omega),k5 (by rw[kK,kM];omega),k5 (by simp only[kD,kE];omega),k5 (by simp only[ovf,kD,kE];omega),k5 (by rw[kK,kM];omega),
   k5 (by simp only[kD,kE];omega)]
  exact h
 obtain⟨w1,w2⟩:=Goes.search (R:=Rnd prog G f151.ntmps 0 [0,4,5,6,7,8,18,19,20] iCk) (fun j=>siCk P 0 i ((j+2:Nat):Int)) (fun j=>siCk P 3 i ((j+2:Nat):Int)) (fun j=>pkR P i (j+2)) (P.n-2) (e0:=.exit 3) (e1:=.ret) (fin:=siCk P 0 i P.n) (by simp) (by simp)
  (fun j hj ok=>by
   refine rd _ _ _ (st j hj _ ?_)
   rw[k6 (kG (by rw[rcmp_le];exact Rat.not_le.2 (of_decide_eq_true ok))),k5 (by simp only[ovf,kD,kE];omega),k7]
   rfl)
  (fun j hj ok=>by
   refine rd _ _ _ (st j hj _ ?_)
   rw[k5 (kF (by rw[rcmp_le];exact Rat.not_lt.1 (of_decide_eq_false ok))),k7])
  (by
   refine rd _ _ _ ((tiCk P i ((P.n-2+2:Nat):Int)).trans ?_)
   rw[k6 (kG (by omega)),k7,show((P.n-2+2:Nat):Int)=(P.n:Int) by omega]) (P.n-2) 0 (by omega)
 refine⟨fun h=>w1 (all_r.1 h),fun h=>⟨_,w2 fun h' => ?_⟩⟩
 have:=all_r.2 h'
 rw[pkI]at h
 rw[this]at h
 cases h
include hG in
theorem pcCk (hT:qp G) (P:Pg) (h3:3<=P.n) (h8:P.n<=8) (m:Int) (hm:(P.n:Int)<=m):PC prog G 151 [pgV P,.i .i64 m] [] (.i .i64 (pkE P)) []:=by
 have gi:=goesCi hG hT P h3 h8
 have orc:OrcOK prog G [(190,gLf)]:=.cons (gkLf hG hT) .nil
 have rd:∀ (i:Nat) (e:Exit) (ls S0 S1:LS) (e':Exit),Goes (Rnd prog G f151.ntmps 0 [0,4,5,6,7,8,18,19,20] iCk) S0 e' S1->(qe prog [(190,gLf)] [(10,qy S0 e' S1)] polCk f151.ntmps 0 [0,4,5,18,19,20] bCk (soCk P 0 i)).run=some (.out e ls)->
   Rnd prog G f151.ntmps 0 [0,4,5,18,19,20] bCk (soCk P 0 i) e ls:=fun i e ls S0 S1 e' g h=>
  qb hG orc mix (pol:=polCk) (qN (b:=iCk) (live:=[0,4,5,6,7,8,18,19,20]) (m:=0) (by kernel_rfl) (by kernel_rfl) (by kernel_rfl) (qv g)) (Nat.zero_le _) h
 have hl:∀ (lQ:qA),qz prog G f151.ntmps 0 [0,4,5,18,19,20] bCk lQ->LpsOK prog G polCk f151.ntmps 0 [(7,lQ)] (qd f151):=fun lQ h=>
  lps1n (b:=bCk) (b':=iCk) (live:=[0,4,5,18,19,20]) (m:=0) (by kernel_rfl) (by kernel_rfl) (by kernel_rfl) (by kernel_rfl) h
 have hx:Rnd prog G f151.ntmps 0 [0,4,5,18,19,20] bCk (soCk P 0 P.n) (.exit 1) (soCk P 0 P.n):=by
  cases hB:pkI P 0 with
  | true=>
   refine rd P.n _ _ _ _ _ ((gi 0 (by omega)).1 hB) ((toCk P P.n ((0:Nat):Int) P.n).trans ?_)
   rw[k6 (kG (by omega)),k7]
  | false=>
   obtain⟨k,g⟩:=(gi 0 (by omega)).2 hB
   refine rd P.n _ _ _ _ _ g ((toCkb P P.n ((0:Nat):Int) k).trans ?_)
   rw[k6 (kG (by omega)),k7]
 obtain⟨w1,w2⟩:=Goes.search (R:=Rnd prog G f151.ntmps 0 [0,4,5,18,19,20] bCk) (fun i=>soCk P 0 ((i:Nat):Int)) (fun i=>soCk P 3 ((i:Nat):Int)) (pkI P) P.n (e0:=.exit 1) (e1:=.ret) (fin:=soCk P 0 P.n) (by simp) (by simp)
  (fun i hi ok=>by
   refine rd i _ _ _ _ _ ((gi i hi).1 ok) ((toCk P i i P.n).trans ?_)
   rw[k5 (kF (by omega)),k5 (by simp only[kD,kE];omega),k5 qK,k5 (by simp only[ovf,kD,kE];omega),k7]
   rfl)
  (fun i hi ok=>by
   obtain⟨k,g⟩:=(gi i hi).2 ok
   refine rd i _ _ _ _ _ g ((toCkb P i i k).trans ?_)
   rw[k5 (kF (by omega)),k5 (by simp only[kD,kE];omega),k5 qK,k7])
  hx P.n 0 (by omega)
 unfold pkE
 cases hB:pkB P with
 | true=>
  rw[if_pos rfl]
  have g:Goes (Rnd prog G f151.ntmps 0 [0,4,5,18,19,20] bCk) (soCk P 0 0) (.exit 1) (soCk P 0 P.n):=w1 (all_r.1 hB)
  refine qj hG orc mix enPk (hs:=[]) (pol:=polCk) (L:=[(7,qy (soCk P 0 0) (.exit 1) (soCk P 0 P.n))]) (hl _ (qv g)) ?_
  refine(eCkg P m).trans ?_
  rw[k6 (kG (by omega)),k6 (kG (by omega)),k5 qK,k7]
 | false=>
  rw[if_neg (by decide)]
  have hn:¬ ∀ j,0<=j->j<P.n->pkI P j=true:=fun h=>by
   have:=all_r.2 h
   rw[pkB,this]at hB
   cases hB
  have g:Goes (Rnd prog G f151.ntmps 0 [0,4,5,18,19,20] bCk) (soCk P 0 0) .ret (soCk P 3 ((fbad (pkI P) P.n 0:Nat):Int)):=w2 hn
  generalize ((fbad (pkI P) P.n 0:Nat):Int)=q at g
  refine qj hG orc mix enPk (hs:=[]) (pol:=polCk) (L:=[(7,qy (soCk P 0 0) .ret (soCk P 3 q))]) (hl _ (qv g)) ?_
  refine(eCkb P m q).trans ?_
  rw[k6 (kG (by omega)),k6 (kG (by omega)),k5 qK,k7]
theorem enCv:Enters prog 191 f191 (qd f191):=⟨func191,by kernel_rfl,rfl⟩
theorem enCh:Enters prog 117 f117 (qd f117):=⟨func117,by kernel_rfl,rfl⟩
theorem eCv (P:Pg) (e:Int):(evF prog [(151,cst [pgV P,.i .i64 64] True (.i .i64 e))] [] {} f191 [pgV P] [] ql).run=(Tr.br (qg (isA [pgV P,.i .i64 64] True [pgV P,.i .i64 64])) (.ok (.ret (.i .i64 e) [])) (.no 1)).run:=by kernel_rfl
theorem eCh (P:Pg) (e:Int):(evF prog [(151,cst [pgV P,.i .i64 8] True (.i .i64 e))] [] {} f117 [pgV P] [] ql).run=(Tr.br (qg (isA [pgV P,.i .i64 8] True [pgV P,.i .i64 8])) (.ok (.ret (.i .i64 e) [])) (.no 1)).run:=by kernel_rfl
include hG in
theorem pcCv (hT:qp G) (P:Pg) (h3:3<=P.n) (h8:P.n<=8):PC prog G 191 [pgV P] [] (.i .i64 (pkE P)) []:=by
 refine qj hG (.cons (qS (pcCk hG hT P h3 h8 64 (by omega))) .nil) mix enCv (hs:=[]) (L:=[]) (pol:={}) (kA (by kernel_rfl)) ((eCv P (pkE P)).trans ?_)
 rw[k5 (decP_iff.2 ⟨rfl,trivial⟩),k7]
include hG in
theorem pcCh (hT:qp G) (P:Pg) (h3:3<=P.n) (h8:P.n<=8):PC prog G 117 [pgV P] [] (.i .i64 (pkE P)) []:=by
 refine qj hG (.cons (qS (pcCk hG hT P h3 h8 8 (by omega))) .nil) mix enCh (hs:=[]) (L:=[]) (pol:={}) (kA (by kernel_rfl)) ((eCh P (pkE P)).trans ?_)
 rw[k5 (decP_iff.2 ⟨rfl,trivial⟩),k7]
def rz:PV:=.agg [.bl false,.s ⟨#[]⟩,.s ⟨#[]⟩]
def rzV:PV:=.agg [rz,rz]
def rzB:PV:=.agg [rzV,rzV]
theorem eGdR:(evF prog [] [] {} f104 [rz] [] ql).run=some (.ret (.bl false) []):=by kernel_rfl
theorem eFtR:(evF prog [(104,cst [rz] True (.bl false)),(105,s110)] [] {} f58 [rz] [] ql).run=(Tr.br (qg (isA [rz] True [rz])) (.ok (.ret (.agg [.bl false,.s ⟨#[]⟩,.s ⟨#[1]⟩]) [])) (.no 1)).run:=by kernel_rfl
theorem eAdR:(evF prog [(58,cst [rz] True (.q 0 1)),(61,g75),(62,g76 1),(60,h77)] [] {} f25 [rz,rz] [] ql).run=
  (Tr.br (qg (isA [rz] True [rz])) (.br (qg (isA [rz] True [rz])) (.br (qg (M76 (sgV (qo (0:Rat)) (qt (0:Rat)) (qo (0:Rat)) (qt (0:Rat))) (qu (0:Rat)) 1)) (.ok (.ret (.q (mkq (sgB (qo (0:Rat)) (qt (0:Rat)) (qo (0:Rat)) (qt (0:Rat))) (sgV (qo (0:Rat)) (qt (0:Rat)) (qo (0:Rat)) (qt (0:Rat))) (qu (0:Rat))) 1) [])) (.no 1)) (.no 1)) (.no 1)).run:=by kernel_rfl
theorem eVaR:(evF prog [(25,cst [rz,rz] True (.q 0 1))] [] {} f67 [rzV,rzV] [] ql).run=(Tr.br (qg (isA [rz,rz] True [rz,rz])) (.br (qg (isA [rz,rz] True [rz,rz])) (.ok (.ret (.agg [.q 0 1,.q 0 1]) [])) (.no 1)) (.no 1)).run:=by kernel_rfl
include hG in
theorem pcVaR (hT:qp G):PC prog G 67 [rzV,rzV] [] (.agg [.q 0 1,.q 0 1]) []:=by
 have p92:PC prog G 104 [rz] [] (.bl false) []:=qj hG .nil mix enter109 (hs:=[]) (L:=[]) (pol:={}) (kA (by kernel_rfl)) eGdR
 have p64:PC prog G 58 [rz] [] (.q 0 1) []:=by
  refine(qj hG (.cons (qS p92) (.cons (ok110 hG) .nil)) mix enter74 (hs:=[]) (L:=[]) (pol:={}) (kA (by kernel_rfl)) (eFtR.trans (k5 (decP_iff.2 ⟨rfl,trivial⟩)))).le ?_ (.refl _)
  have h:=made_z (nv:=.bl false) (neg:=false) rfl 1 (W:=1) (by omega)
  rw[show mkz false 0 1=0 by rfl]at h
  exact h
 have p52:PC prog G 25 [rz,rz] [] (.q 0 1) []:=by
  refine qj hG (.cons (qS p64) (.cons (gk75 hG) (.cons (gk76 hG hT 1) (.cons (hk77 hG) .nil)))) mix enter21 (hs:=[]) (L:=[]) (pol:={}) (kA (by kernel_rfl)) (eAdR.trans ?_)
  rw[k5 (decP_iff.2 ⟨rfl,trivial⟩),k5 (decP_iff.2 ⟨rfl,trivial⟩)]
  simp only[rnum_eq,rden_eq,sgB_nb,sgV_nb]
  have hb:=sgn2_le (qo (0:Rat)) (0:Rat).num.natAbs (qo (0:Rat)) (0:Rat).num.natAbs
  have z0:(0:Rat).num.natAbs=0:=rfl
  have z1:(0:Rat).den=1:=rfl
  rw[k5 (decP_iff.2 ⟨by rw[qE],by rw[qE],by rw[qE];omega,by rw[qE];omega,by rw[qE];omega,by omega,by omega⟩),k7,mkq_nb,<-rat_add_same 0 0 rfl,Rat.add_zero]
 exact qj hG (.cons (qS p52) .nil) mix enter57 (hs:=[]) (L:=[]) (pol:={}) (kA (by kernel_rfl)) (eVaR.trans ((k5 (decP_iff.2 ⟨rfl,trivial⟩)).trans (k5 (decP_iff.2 ⟨rfl,trivial⟩))))
def gVa:Spec:=fun args hs K=>match args with
 | [.agg [.agg a,b],c]=>cst [rzV,rzV] True (.agg [.q 0 1,.q 0 1]) [.agg [.agg a,b],c] hs K
 | args=>g57 args hs K
include hG in
theorem gkVa (hT:qp G):qc prog G 67 gVa:=by
 intro args hs K x h
 unfold gVa at h
 split at h
 ·exact qS (pcVaR hG hT) _ _ _ _ h
 ·exact gk57 hG hT _ _ _ _ h
theorem enBo':Enters prog 119 f119 (qd f119):=⟨func119,by kernel_rfl,rfl⟩
def bBo:Code:=(qi (qd f119)).getD 0 .skip
def polBo:Pol:={live:=[(7,[2,5,26,27,28])]}
def bb (a b c d:Rat):PV:=.agg [.agg [.q a 32140,.q b 32140],.agg [.q c 32140,.q d 32140]]
def stBo (P:Pg) (a b c d:Rat) (i:Int):LS:=⟨[.ptr 0 12 0 0 [],.ptr 1 12 0 0 [],.lst 6 (.fn (P.n-1) (fun j=>pw (P.u (j+1)) (P.v (j+1)))),.i .i64 ((P.n-1:Nat):Int),.i .i64 i],[some ⟨12,.vals [rzB]⟩,some ⟨12,.vals [bb a b c d]⟩]⟩
theorem tBo (P:Pg) (a b c d:Rat) (i:Int):(qe prog [(122,g86),(121,g80)] [] polBo f119.ntmps 0 [2,5,26,27,28] bBo (stBo P a b c d i)).run=
  (Tr.br (decide (i<((P.n-1:Nat):Int))) (.br (ix (i) (((P.n-1:Nat):Int))) (.br (ovf (i+1)) (.ok (.out .normal (stBo P (mnR a (P.u (i.toNat+1))) (mnR b (P.v (i.toNat+1))) (mxR c (P.u (i.toNat+1))) (mxR d (P.v (i.toNat+1))) (i+1)))) (.no 1)) (.no 1)) (.ok (.out (.exit 0) (stBo P a b c d i)))).run:=by kernel_rfl
theorem eBo (P:Pg) (a b c d:Rat):(evF prog [(67,gVa)] [(7,qy (stBo P (P.u 0+0) (P.v 0+0) (P.u 0+0) (P.v 0+0) 0) (.exit 0) (stBo P a b c d ((P.n-1:Nat):Int)))] polBo f119 [pgV P] [] ql).run=
  (Tr.br (qg (isA [rzV,rzV] True [rzV,rzV])) (.br (decide ((P.n:Int)=0)) (.ok (.ret (.agg [.agg [.q 0 1,.q 0 1],.agg [.q 0 1,.q 0 1]]) [])) (.br (decide ((0:Int)<=0)&&decide (0<(P.n:Int))) (.br (decide ((0:Int)<=1)&&decide (1<=(P.n:Int))) (.br (qg (isLS (stBo P (P.u 0+0) (P.v 0+0) (P.u 0+0) (P.v 0+0) 0) (stBo P (P.u 0+0) (P.v 0+0) (P.u 0+0) (P.v 0+0) 0))) (.ok (.ret (bb a b c d) [])) (.no 1)) (.no 1)) (.no 1))) (.no 1)).run:=by kernel_rfl
def mnF (u:Nat->Rat):Nat->Rat
 | 0=>u 0+0
 | k+1=>mnR (mnF u k) (u (k+1))
def mxF (u:Nat->Rat):Nat->Rat
 | 0=>u 0+0
 | k+1=>mxR (mxF u k) (u (k+1))
def bxV (P:Pg):PV:=bb (mnF P.u (P.n-1)) (mnF P.v (P.n-1)) (mxF P.u (P.n-1)) (mxF P.v (P.n-1))
include hG in
theorem pcBo (hT:qp G) (P:Pg) (h3:3<=P.n) (h8:P.n<=8):PC prog G 119 [pgV P] [] (bxV P) []:=by
 have orc:OrcOK prog G [(122,g86),(121,g80)]:=.cons (gk86 hG hT) (.cons (gk80 hG hT) .nil)
 have w:=Goes.count (R:=Rnd prog G f119.ntmps 0 [2,5,26,27,28] bBo) (fun i=>stBo P (mnF P.u i) (mnF P.v i) (mxF P.u i) (mxF P.v i) ((i:Nat):Int)) (e:=.exit 0) (ls':=stBo P (mnF P.u (P.n-1)) (mnF P.v (P.n-1)) (mxF P.u (P.n-1)) (mxF P.v (P.n-1)) ((P.n-1:Nat):Int)) (by simp) (P.n-1) 0
  (fun i _ hi=>by
   refine qb hG orc mix (L:=[]) (pol:=polBo) (kA (by kernel_rfl)) (Nat.zero_le _) ((tBo P _ _ _ _ i).trans ?_)
   rw[k5 (kF (by omega)),k5 (by simp only[kD,kE];omega),k5 (by simp only[ovf,kD,kE];omega),k7]
   rfl)
  (by
   refine qb hG orc mix (L:=[]) (pol:=polBo) (kA (by kernel_rfl)) (Nat.zero_le _) ((tBo P _ _ _ _ _).trans ?_)
   rw[Nat.zero_add,k6 (kG (by omega)),k7])
 have g:Goes (Rnd prog G f119.ntmps 0 [2,5,26,27,28] bBo) (stBo P (P.u 0+0) (P.v 0+0) (P.u 0+0) (P.v 0+0) 0) (.exit 0) (stBo P (mnF P.u (P.n-1)) (mnF P.v (P.n-1)) (mxF P.u (P.n-1)) (mxF P.v (P.n-1)) ((P.n-1:Nat):Int)):=w
 refine qj hG (.cons (gkVa hG hT) .nil) mix enBo' (hs:=[]) (pol:=polBo) (L:=[(7,qy (stBo P (P.u 0+0) (P.v 0+0) (P.u 0+0) (P.v 0+0) 0) (.exit 0) (stBo P (mnF P.u (P.n-1)) (mnF P.v (P.n-1)) (mxF P.u (P.n-1)) (mxF P.v (P.n-1)) ((P.n-1:Nat):Int)))]) (qN (b:=bBo) (live:=[2,5,26,27,28]) (m:=0) (by kernel_rfl) (by kernel_rfl) (by kernel_rfl) (qv g)) ((eBo P _ _ _ _).trans ?_)
 rw[k5 (decP_iff.2 ⟨rfl,trivial⟩),k6 (kG (by omega)),k5 (by simp only[kD,kE];omega),k5 (by simp only[kD,kE];omega),k5 qK,k7]
 rfl
theorem enVl:Enters prog 152 f152 (qd f152):=⟨func152,by kernel_rfl,rfl⟩
theorem enAb:Enters prog 118 f118 (qd f118):=⟨func118,by kernel_rfl,rfl⟩
def gVl:Spec:=evF prog [(23,g27)] [] {} f152
def rl (x y:Rat):Bool:=decide (rcmp x y<=(0:Int))
def trA (c1 c2 c3 c4 c5 c6 c7 c8:Bool):Tr:=
 .br c1 (.br c2 (.br c3 (.br c4 (.br c5 (.br c6 (.br c7 (.ok (.ret (.b c8) [])) (.ok (.ret (.bl false) []))) (.ok (.ret (.bl false) []))) (.ok (.ret (.bl false) []))) (.ok (.ret (.bl false) []))) (.ok (.ret (.bl false) []))) (.ok (.ret (.bl false) []))) (.ok (.ret (.bl false) []))
theorem eAb (a b c d p q r s:Rat):(evF prog [(23,g27),(152,gVl)] [] {} f118 [bb a b c d,bb p q r s] [] ql).run=(trA (rl a c) (rl b d) (rl p r) (rl q s) (rl a r) (rl p c) (rl b s) (rl q d)).run:=by kernel_rfl
theorem trA_run:∀ (c1 c2 c3 c4 c5 c6 c7 c8:Bool),∃ r,(trA c1 c2 c3 c4 c5 c6 c7 c8).run=some (.ret r [])/\RLe r (.bl (c1&&c2&&c3&&c4&&c5&&c6&&c7&&c8))
 | false,_,_,_,_,_,_,_=>⟨_,rfl,.refl _⟩
 | true,false,_,_,_,_,_,_=>⟨_,rfl,.refl _⟩
 | true,true,false,_,_,_,_,_=>⟨_,rfl,.refl _⟩
 | true,true,true,false,_,_,_,_=>⟨_,rfl,.refl _⟩
 | true,true,true,true,false,_,_,_=>⟨_,rfl,.refl _⟩
 | true,true,true,true,true,false,_,_=>⟨_,rfl,.refl _⟩
 | true,true,true,true,true,true,false,_=>⟨_,rfl,.refl _⟩
 | true,true,true,true,true,true,true,_=>⟨_,rfl,rle_b rfl⟩
def bxB (P Q:Pg):Bool:=rl (mnF P.u (P.n-1)) (mxF P.u (P.n-1))&&rl (mnF P.v (P.n-1)) (mxF P.v (P.n-1))&&rl (mnF Q.u (Q.n-1)) (mxF Q.u (Q.n-1))&&rl (mnF Q.v (Q.n-1)) (mxF Q.v (Q.n-1))&&
 rl (mnF P.u (P.n-1)) (mxF Q.u (Q.n-1))&&rl (mnF Q.u (Q.n-1)) (mxF P.u (P.n-1))&&rl (mnF P.v (P.n-1)) (mxF Q.v (Q.n-1))&&rl (mnF Q.v (Q.n-1)) (mxF P.v (P.n-1))
include hG in
theorem pcAb (hT:qp G) (P Q:Pg):PC prog G 118 [bxV P,bxV Q] [] (.bl (bxB P Q)) []:=by
 obtain⟨r,h1,h2⟩:=trA_run (rl (mnF P.u (P.n-1)) (mxF P.u (P.n-1))) (rl (mnF P.v (P.n-1)) (mxF P.v (P.n-1))) (rl (mnF Q.u (Q.n-1)) (mxF Q.u (Q.n-1))) (rl (mnF Q.v (Q.n-1)) (mxF Q.v (Q.n-1)))
  (rl (mnF P.u (P.n-1)) (mxF Q.u (Q.n-1))) (rl (mnF Q.u (Q.n-1)) (mxF P.u (P.n-1))) (rl (mnF P.v (P.n-1)) (mxF Q.v (Q.n-1))) (rl (mnF Q.v (Q.n-1)) (mxF P.v (P.n-1)))
 exact(qj hG (.cons (gk27 hG hT) (.cons (spec_ev hG (.cons (gk27 hG hT) .nil) mix enVl (fun _=>kA (by kernel_rfl))) .nil)) mix enAb (hs:=[]) (L:=[]) (pol:={}) (kA (by kernel_rfl)) ((eAb _ _ _ _ _ _ _ _).trans h1)).le h2 (.refl _)
theorem enBy:Enters prog 154 f154 (qd f154):=⟨func154,by kernel_rfl,rfl⟩
def bBy:Code:=(qi (qd f154)).getD 0 .skip
def iBy:Code:=(qi (qd f154)).getD 1 .skip
def polBy:Pol:={live:=[(2,[0,1,4,5,13,14,15]),(8,[0,1,4,5,7,9,10,13,14,15,36,37,38])]}
def gDt:Spec:=evF prog [(25,g21),(75,g43)] [] {} f192
theorem enDt:Enters prog 192 f192 (qd f192):=⟨func192,by kernel_rfl,rfl⟩
def RBy:Orc:=[(141,g41),(102,g83),(97,g26),(192,gDt)]
include hG in
theorem orcBy (hT:qp G):OrcOK prog G RBy:=.cons (gk41 hG hT) (.cons (gk83 hG hT) (.cons (gk26 hG hT) (.cons (spec_ev hG (.cons (gk21 hG hT) (.cons (gk43 hG hT) .nil)) mix enDt (fun _=>kA (by kernel_rfl))) .nil)))
def nv (a b:Rat):PV:=.agg [.q a 64277,.q b 64277]
def siBy (P Q:Pg) (i:Int) (k:Nat) (a b:Rat) (far:PV) (j:Int):LS:=⟨[pgV P,pgV Q,.ptr 0 6 0 0 [],.bl false,.ptr 1 6 0 0 [],.ptr 2 6 0 0 [],far,pgV P,.i .i64 P.n,.i .i64 i,pgV Q,.i .i64 Q.n,.i .i64 j],[some ⟨6,.vals [rzV]⟩,some ⟨6,.vals [pw (P.u k) (P.v k)]⟩,some ⟨6,.vals [nv a b]⟩]⟩
def soBy (P Q:Pg) (i:Int) (r:PV) (v:PV):LS:=⟨[pgV P,pgV Q,.ptr 0 6 0 0 [],r,pgV P,.i .i64 P.n,.i .i64 i],[some ⟨6,.vals [v]⟩]⟩
def trB (P Q:Pg) (i:Int) (k:Nat) (a b:Rat) (j:Int) (far far':PV):Tr:=
 .br (decide (j<(Q.n:Int))) (.br (decide ((0:Int)<=j)&&decide (j<(Q.n:Int))) (.br (ovf (j+1)) (.ok (.out .normal (siBy P Q i k a b far' (j+1)))) (.no 1)) (.no 1)) (.ok (.out (.exit 2) (siBy P Q i k a b far j)))
def dV (P Q:Pg) (k:Nat) (a b:Rat) (j:Nat):Bool:=decide ((0:Int)<rcmp (a*(Q.u j-P.u k)+b*(Q.v j-P.v k)) 0)
theorem tiA (P Q:Pg) (i:Int) (k:Nat) (a b:Rat) (j:Int):(qe prog RBy [] polBy f154.ntmps 0 [0,1,4,5,7,9,10,13,14,15,36,37,38] iBy (siBy P Q i k a b (.bl true) j)).run=(trB P Q i k a b j (.bl true) (.b (dV P Q k a b j.toNat))).run:=by kernel_rfl
theorem tiB (P Q:Pg) (i:Int) (k:Nat) (a b:Rat) (j:Int):(qe prog RBy [] polBy f154.ntmps 0 [0,1,4,5,7,9,10,13,14,15,36,37,38] iBy (siBy P Q i k a b (.b true) j)).run=(trB P Q i k a b j (.b true) (.b (dV P Q k a b j.toNat))).run:=by kernel_rfl
theorem tiC (P Q:Pg) (i:Int) (k:Nat) (a b:Rat) (j:Int):(qe prog RBy [] polBy f154.ntmps 0 [0,1,4,5,7,9,10,13,14,15,36,37,38] iBy (siBy P Q i k a b (.b false) j)).run=(trB P Q i k a b j (.b false) (.bl false)).run:=by kernel_rfl
theorem tiD (P Q:Pg) (i:Int) (k:Nat) (a b:Rat) (j:Int):(qe prog RBy [] polBy f154.ntmps 0 [0,1,4,5,7,9,10,13,14,15,36,37,38] iBy (siBy P Q i k a b (.bl false) j)).run=(trB P Q i k a b j (.bl false) (.bl false)).run:=by kernel_rfl
def nX (P:Pg) (i k:Nat):Rat:=P.v k-P.v i
def nY (P:Pg) (i k:Nat):Rat := -(P.u k-P.u i)
def trOB (P Q:Pg) (i:Int) (S0:LS) (res:Tr):Tr:=
 .br (decide (i<(P.n:Int))) (.br (decide ((0:Int)<=i)&&decide (i<(P.n:Int))) (.br (ovf (i+1)) (.br (!decide ((P.n:Int)=0)) (.br (decide ((0:Int)<=(i+1).tmod P.n)&&decide ((i+1).tmod P.n<(P.n:Int)))
  (.br (qg (isLS S0 (siBy P Q i i.toNat (nX P i.toNat ((i+1).tmod P.n).toNat) (nY P i.toNat ((i+1).tmod P.n).toNat) (.bl true) 0))) res (.no 1)) (.no 1)) (.no 1)) (.no 1)) (.no 1)) (.ok (.out (.exit 0) (soBy P Q i (.bl false) rzV)))
theorem toT (P Q:Pg) (i q:Int) (k:Nat) (a b:Rat):(qe prog RBy [(8,qy (siBy P Q q k a b (.bl true) 0) (.exit 2) (siBy P Q q k a b (.b true) Q.n))] polBy f154.ntmps 0 [0,1,4,5,13,14,15] bBy (soBy P Q i (.bl false) rzV)).run=
  (trOB P Q i (siBy P Q q k a b (.bl true) 0) (.ok (.out .ret (soBy P Q q (.bl true) (nv a b))))).run:=by kernel_rfl
theorem toF (P Q:Pg) (i q:Int) (k:Nat) (a b:Rat):(qe prog RBy [(8,qy (siBy P Q q k a b (.bl true) 0) (.exit 2) (siBy P Q q k a b (.b false) Q.n))] polBy f154.ntmps 0 [0,1,4,5,13,14,15] bBy (soBy P Q i (.bl false) rzV)).run=
  (trOB P Q i (siBy P Q q k a b (.bl true) 0) (.br (ovf (q+1)) (.ok (.out .normal (soBy P Q (q+1) (.bl false) rzV))) (.no 1))).run:=by kernel_rfl
theorem toG (P Q:Pg) (i q:Int) (k:Nat) (a b:Rat):(qe prog RBy [(8,qy (siBy P Q q k a b (.bl true) 0) (.exit 2) (siBy P Q q k a b (.bl false) Q.n))] polBy f154.ntmps 0 [0,1,4,5,13,14,15] bBy (soBy P Q i (.bl false) rzV)).run=
  (trOB P Q i (siBy P Q q k a b (.bl true) 0) (.br (ovf (q+1)) (.ok (.out .normal (soBy P Q (q+1) (.bl false) rzV))) (.no 1))).run:=by kernel_rfl
theorem eByT (P Q:Pg) (q:Int) (a b:Rat):(evF prog RBy [(2,qy (soBy P Q 0 (.bl false) rzV) .ret (soBy P Q q (.bl true) (nv a b)))] polBy f154 [pgV P,pgV Q] [] ql).run=
  (Tr.br (qg (isLS (soBy P Q 0 (.bl false) rzV) (soBy P Q 0 (.bl false) rzV))) (.ok (.ret (.tup [nv a b,.bl true]) [])) (.no 1)).run:=by kernel_rfl
theorem eByF (P Q:Pg):(evF prog RBy [(2,qy (soBy P Q 0 (.bl false) rzV) (.exit 0) (soBy P Q P.n (.bl false) rzV))] polBy f154 [pgV P,pgV Q] [] ql).run=
  (Tr.br (qg (isLS (soBy P Q 0 (.bl false) rzV) (soBy P Q 0 (.bl false) rzV))) (.ok (.ret (.tup [rzV,.bl false]) [])) (.no 1)).run:=by kernel_rfl
def dB (P Q:Pg) (i j:Nat):Bool:=dV P Q i (nX P i ((i+1)%P.n)) (nY P i ((i+1)%P.n)) j
def bgB (P Q:Pg) (i:Nat):Bool:=(List.range Q.n).all (dB P Q i)
def byB (P Q:Pg):Bool:=!(List.range P.n).all (fun i=>!bgB P Q i)
def fa (P Q:Pg) (i:Nat):Nat->PV
 | 0=>.bl true
 | j+1=>if (List.range j).all (dB P Q i)=true then .b (dB P Q i j)else .bl false
theorem fa_succ (P Q:Pg) (i j:Nat):fa P Q i (j+1)=if (List.range j).all (dB P Q i)=true then .b (dB P Q i j)else .bl false:=rfl
theorem all_succ {f:Nat->Bool} {j:Nat}:(List.range (j+1)).all f=((List.range j).all f&&f j):=by
 rw[List.range_succ,List.all_append]
 simp
include hG in
theorem goesBi (hT:qp G) (P Q:Pg) (h3:1<=Q.n) (h8:Q.n<=8) (i:Nat):
  Goes (Rnd prog G f154.ntmps 0 [0,1,4,5,7,9,10,13,14,15,36,37,38] iBy) (siBy P Q i i (nX P i ((i+1)%P.n)) (nY P i ((i+1)%P.n)) (.bl true) 0) (.exit 2) (siBy P Q i i (nX P i ((i+1)%P.n)) (nY P i ((i+1)%P.n)) (fa P Q i Q.n) Q.n):=by
 have key:∀ (j:Nat),∃ far',(qe prog RBy [] polBy f154.ntmps 0 [0,1,4,5,7,9,10,13,14,15,36,37,38] iBy (siBy P Q i i (nX P i ((i+1)%P.n)) (nY P i ((i+1)%P.n)) (fa P Q i j) j)).run=(trB P Q i i (nX P i ((i+1)%P.n)) (nY P i ((i+1)%P.n)) j (fa P Q i j) far').run/\far'=fa P Q i (j+1):=by
  intro j
  match j with
  | 0=>exact⟨_,tiA P Q i i _ _ _,rfl⟩
  | k+1=>
   rw[fa_succ P Q i k,fa_succ P Q i (k+1),all_succ]
   cases h1:(List.range k).all (dB P Q i)with
   | false=>
    rw[if_neg (by decide),if_neg (by simp)]
    exact⟨_,tiD P Q i i _ _ _,rfl⟩
   | true=>
    rw[if_pos rfl]
    cases h2:dB P Q i k with
    | false=>
     rw[if_neg (by decide)]
     exact⟨_,tiC P Q i i _ _ _,rfl⟩
    | true=>
     rw[if_pos (by decide)]
     exact⟨_,tiB P Q i i _ _ _,rfl⟩
 have w:=Goes.count (R:=Rnd prog G f154.ntmps 0 [0,1,4,5,7,9,10,13,14,15,36,37,38] iBy) (fun j=>siBy P Q i i (nX P i ((i+1)%P.n)) (nY P i ((i+1)%P.n)) (fa P Q i j) ((j:Nat):Int)) (e:=.exit 2) (ls':=siBy P Q i i (nX P i ((i+1)%P.n)) (nY P i ((i+1)%P.n)) (fa P Q i Q.n) Q.n) (by simp) Q.n 0
  (fun j _ hj=>by
   obtain⟨f',k1,rfl⟩:=key j
   refine qb hG (orcBy hG hT) mix (L:=[]) (pol:=polBy) (kA (by kernel_rfl)) (Nat.zero_le _) (k1.trans ?_)
   unfold trB
   rw[k5 (kF (by omega)),k5 (by simp only[kD,kE];omega),k5 (by simp only[ovf,kD,kE];omega),k7]
   rfl)
  (by
   obtain⟨f',k1,rfl⟩:=key Q.n
   rw[Nat.zero_add]
   refine qb hG (orcBy hG hT) mix (L:=[]) (pol:=polBy) (kA (by kernel_rfl)) (Nat.zero_le _) (k1.trans ?_)
   unfold trB
   rw[k6 (kG (by omega)),k7])
 exact w
theorem fa_t {P Q:Pg} {i:Nat} (h1:1<=Q.n) (h:bgB P Q i=true):fa P Q i Q.n=.b true:=by
 obtain⟨m,hm⟩:∃ m,Q.n=m+1:=⟨Q.n-1,by omega⟩
 unfold bgB at h
 rw[hm]at h ⊢
 rw[all_succ,kD]at h
 rw[fa_succ,if_pos h.1,h.2]
theorem fa_f {P Q:Pg} {i:Nat} (h1:1<=Q.n) (h:bgB P Q i=false):fa P Q i Q.n=.b false\/fa P Q i Q.n=.bl false:=by
 obtain⟨m,hm⟩:∃ m,Q.n=m+1:=⟨Q.n-1,by omega⟩
 unfold bgB at h
 rw[hm]at h ⊢
 rw[all_succ]at h
 rw[fa_succ]
 cases h2:(List.range m).all (dB P Q i)with
 | false=>exact .inr rfl
 | true=>
  rw[h2]at h
  exact .inl (by rw[if_pos rfl,show dB P Q i m=false from h])
def nA (P Q:Pg):Rat:=nX P (fbad (fun i=>!bgB P Q i) P.n 0) ((fbad (fun i=>!bgB P Q i) P.n 0+1)%P.n)
def nB (P Q:Pg):Rat:=nY P (fbad (fun i=>!bgB P Q i) P.n 0) ((fbad (fun i=>!bgB P Q i) P.n 0+1)%P.n)
include hG in
theorem pcBy (hT:qp G) (P Q:Pg) (p3:3<=P.n) (p8:P.n<=8) (q3:3<=Q.n) (q8:Q.n<=8):
  (byB P Q=true->PC prog G 154 [pgV P,pgV Q] [] (.tup [nv (nA P Q) (nB P Q),.bl true]) [])/\(byB P Q=false->PC prog G 154 [pgV P,pgV Q] [] (.tup [rzV,.bl false]) []):=by
 have gi:=goesBi hG hT P Q (by omega) q8
 have rd:∀ (i:Int) (e:Exit) (ls S0 S1:LS),Goes (Rnd prog G f154.ntmps 0 [0,1,4,5,7,9,10,13,14,15,36,37,38] iBy) S0 (.exit 2) S1->(qe prog RBy [(8,qy S0 (.exit 2) S1)] polBy f154.ntmps 0 [0,1,4,5,13,14,15] bBy (soBy P Q i (.bl false) rzV)).run=some (.out e ls)->
   Rnd prog G f154.ntmps 0 [0,1,4,5,13,14,15] bBy (soBy P Q i (.bl false) rzV) e ls:=fun i e ls S0 S1 g h=>
  qb hG (orcBy hG hT) mix (pol:=polBy) (qN (b:=iBy) (live:=[0,1,4,5,7,9,10,13,14,15,36,37,38]) (m:=0) (by kernel_rfl) (by kernel_rfl) (by kernel_rfl) (qv g)) (Nat.zero_le _) h
 have hl:∀ (lQ:qA),qz prog G f154.ntmps 0 [0,1,4,5,13,14,15] bBy lQ->LpsOK prog G polBy f154.ntmps 0 [(2,lQ)] (qd f154):=fun lQ h=>
  lps1n (b:=bBy) (b':=iBy) (live:=[0,1,4,5,13,14,15]) (m:=0) (by kernel_rfl) (by kernel_rfl) (by kernel_rfl) (by kernel_rfl) h
 have step:∀ (i:Nat) (res:Tr) (r:Res),i<P.n->res.run=some r->(trOB P Q i (siBy P Q i i (nX P i ((i+1)%P.n)) (nY P i ((i+1)%P.n)) (.bl true) 0) res).run=some r:=fun i res r hi h=>by
  have e1:(((i:Nat):Int)+1).tmod P.n=(((i+1)%P.n:Nat):Int):=tmod_nat (i+1) P.n
  have m1:=Nat.mod_lt (i+1) (show 0<P.n by omega)
  unfold trOB
  rw[e1,Int.toNat_natCast,Int.toNat_natCast]
  generalize (i+1)%P.n=a at*
  rw[k5 (kF (by omega)),k5 (by simp only[kD,kE];omega),k5 (by simp only[ovf,kD,kE];omega),k5 (by rw[kK,kM];omega),k5 (by simp only[kD,kE];omega),k5 qK]
  exact h
 have ext:∀ (S0:LS) (res:Tr),(trOB P Q P.n S0 res).run=some (.out (.exit 0) (soBy P Q P.n (.bl false) rzV)):=fun S0 res=>by
  unfold trOB
  rw[k6 (kG (by omega)),k7]
 have hx:Rnd prog G f154.ntmps 0 [0,1,4,5,13,14,15] bBy (soBy P Q P.n (.bl false) rzV) (.exit 0) (soBy P Q P.n (.bl false) rzV):=by
  have g:=gi 0
  cases hB:bgB P Q 0 with
  | true=>rw[fa_t (by omega) hB]at g;exact rd P.n _ _ _ _ g ((toT P Q P.n _ _ _ _).trans (ext _ _))
  | false=>
   rcases fa_f (by omega) hB with hf|hf
   ·rw[hf]at g;exact rd P.n _ _ _ _ g ((toF P Q P.n _ _ _ _).trans (ext _ _))
   ·rw[hf]at g;exact rd P.n _ _ _ _ g ((toG P Q P.n _ _ _ _).trans (ext _ _))
 obtain⟨w1,w2⟩:=Goes.search (R:=Rnd prog G f154.ntmps 0 [0,1,4,5,13,14,15] bBy) (fun i=>soBy P Q ((i:Nat):Int) (.bl false) rzV) (fun i=>soBy P Q ((i:Nat):Int) (.bl true) (nv (nX P i ((i+1)%P.n)) (nY P i ((i+1)%P.n)))) (fun i=>!bgB P Q i) P.n (e0:=.exit 0) (e1:=.ret) (fin:=soBy P Q P.n (.bl false) rzV) (by simp) (by simp)
  (fun i hi ok=>by
   have g:=gi i
   rcases fa_f (by omega) (show bgB P Q i=false by simpa using ok)with hf|hf
   ·rw[hf]at g
    refine rd i _ _ _ _ g ((toF P Q i i i _ _).trans (step i _ _ hi ?_))
    rw[k5 (by simp only[ovf,kD,kE];omega),k7]
    rfl
   ·rw[hf]at g
    refine rd i _ _ _ _ g ((toG P Q i i i _ _).trans (step i _ _ hi ?_))
    rw[k5 (by simp only[ovf,kD,kE];omega),k7]
    rfl)
  (fun i hi ok=>by
   have g:=gi i
   rw[fa_t (by omega) (show bgB P Q i=true by simpa using ok)]at g
   exact rd i _ _ _ _ g ((toT P Q i i i _ _).trans (step i _ _ hi rfl)))
  hx P.n 0 (by omega)
 refine⟨fun h => ?_,fun h => ?_⟩
 ·have hn:¬ ∀ j,0<=j->j<P.n->(!bgB P Q j)=true:=fun h'=>by
   have:=all_r.2 h'
   rw[byB,this]at h
   cases h
  have g:Goes (Rnd prog G f154.ntmps 0 [0,1,4,5,13,14,15] bBy) (soBy P Q 0 (.bl false) rzV) .ret (soBy P Q ((fbad (fun i=>!bgB P Q i) P.n 0:Nat):Int) (.bl true) (nv (nA P Q) (nB P Q))):=w2 hn
  generalize ((fbad (fun i=>!bgB P Q i) P.n 0:Nat):Int)=q at g
  refine qj hG (orcBy hG hT) mix enBy (hs:=[]) (pol:=polBy) (L:=[(2,qy (soBy P Q 0 (.bl false) rzV) .ret (soBy P Q q (.bl true) (nv (nA P Q) (nB P Q))))]) (hl _ (qv g)) ((eByT P Q q _ _).trans ?_)
  rw[k5 qK,k7]
 ·have hn:∀ j,0<=j->j<P.n->(!bgB P Q j)=true:=all_r.1 (by simpa [byB]using h)
  have g:Goes (Rnd prog G f154.ntmps 0 [0,1,4,5,13,14,15] bBy) (soBy P Q 0 (.bl false) rzV) (.exit 0) (soBy P Q P.n (.bl false) rzV):=w1 hn
  refine qj hG (orcBy hG hT) mix enBy (hs:=[]) (pol:=polBy) (L:=[(2,qy (soBy P Q 0 (.bl false) rzV) (.exit 0) (soBy P Q P.n (.bl false) rzV))]) (hl _ (qv g)) ((eByF P Q).trans ?_)
  rw[k5 qK,k7]
def dPg:PV->Pg
 | .lst 6 (.fn n g)=>⟨n,fun j=>dq (fldV (g j) 0),fun j=>dq (fldV (g j) 1)⟩
 | _=>⟨0,fun _=>0,fun _=>0⟩
def okP (P:Pg):Prop:=3<=P.n/\P.n<=8
def isPg (p:PV):Prop:=∃ P,p=pgV P/\okP P
def gCv:Spec:=fun args hs K=>match args,hs with
 | [p],[]=>.br (qg (isPg p)) (K (.i .i64 (pkE (dPg p))) []) (.no 1)
 | _,_=>.no 1
include hG in
theorem gkCv (hT:qp G):qc prog G 191 gCv:=by
 intro args hs K x h
 unfold gCv at h
 split at h
 case h_2=>cases h
 obtain⟨hc,hr⟩:=k8 h
 obtain⟨P,rfl,h3,h8⟩:=decP_iff.1 hc
 exact⟨_,_,pcCv hG hT P h3 h8,hr⟩
def gBx:Spec:=fun args hs K=>match args,hs with
 | [p],[]=>.br (qg (isPg p)) (K (bxV (dPg p)) []) (.no 1)
 | _,_=>.no 1
include hG in
theorem gkBx (hT:qp G):qc prog G 119 gBx:=by
 intro args hs K x h
 unfold gBx at h
 split at h
 case h_2=>cases h
 obtain⟨hc,hr⟩:=k8 h
 obtain⟨P,rfl,h3,h8⟩:=decP_iff.1 hc
 exact⟨_,_,pcBo hG hT P h3 h8,hr⟩
def gBy:Spec:=fun args hs K=>match args,hs with
 | [p,q],[]=>.br (qg (isPg p/\isPg q)) (.br (byB (dPg p) (dPg q)) (K (.tup [nv (nA (dPg p) (dPg q)) (nB (dPg p) (dPg q)),.bl true]) []) (K (.tup [rzV,.bl false]) [])) (.no 1)
 | _,_=>.no 1
include hG in
theorem gkBy (hT:qp G):qc prog G 154 gBy:=by
 intro args hs K x h
 unfold gBy at h
 split at h
 case h_2=>cases h
 obtain⟨hc,hr⟩:=k8 h
 obtain⟨⟨P,rfl,h3,h8⟩,Q,rfl,q3,q8⟩:=decP_iff.1 hc
 obtain⟨h1,h2⟩:=pcBy hG hT P Q h3 h8 q3 q8
 have e1:dPg (pgV P)=P:=rfl
 have e2:dPg (pgV Q)=Q:=rfl
 rw[e1,e2]at hr
 cases hB:byB P Q with
 | true=>rw[k5 hB]at hr;exact⟨_,_,h1 hB,hr⟩
 | false=>rw[k6 hB]at hr;exact⟨_,_,h2 hB,hr⟩
theorem enBoth:Enters prog 153 f153 (qd f153):=⟨func153,by kernel_rfl,rfl⟩
theorem enMt:Enters prog 120 f120 (qd f120):=⟨func120,by kernel_rfl,rfl⟩
theorem eBoth (P Q:Pg):(evF prog [(191,gCv)] [] {} f153 [pgV P,pgV Q] [] ql).run=
  (Tr.br (qg (isPg (pgV P))) (.br (!decide (pkE P=0)) (.ok (.ret (.i .i64 (pkE P)) [])) (.br (qg (isPg (pgV Q))) (.ok (.ret (.i .i64 (pkE Q)) [])) (.no 1))) (.no 1)).run:=by kernel_rfl
def mtE (P Q:Pg):Int:=if pkE P=0 then pkE Q else pkE P
include hG in
theorem pcBtt (hT:qp G) (P Q:Pg) (hp:okP P) (hq:okP Q):PC prog G 153 [pgV P,pgV Q] [] (.i .i64 (mtE P Q)) []:=by
 refine qj hG (.cons (gkCv hG hT) .nil) mix enBoth (hs:=[]) (L:=[]) (pol:={}) (kA (by kernel_rfl)) ((eBoth P Q).trans ?_)
 rw[k5 (decP_iff.2 ⟨P,rfl,hp⟩)]
 unfold mtE
 by_cases h:pkE P=0
 ·rw[k6 (by simp[h]),k5 (decP_iff.2 ⟨Q,rfl,hq⟩),k7,if_pos h]
 ·rw[k5 (by simp[h]),k7,if_neg h]
theorem eMt (P Q:Pg) (e:Int):(evF prog [(153,cst [pgV P,pgV Q] True (.i .i64 e)),(154,gBy)] [] {} f120 [pgV P,pgV Q] [] ql).run=
  (Tr.br (qg (isA [pgV P,pgV Q] True [pgV P,pgV Q])) (.br (!decide (e=0)) (.ok (.ret (.tup [.bl false,.i .i64 e]) [])) (.br (qg (isPg (pgV P)/\isPg (pgV Q))) (.br (byB P Q) (.br (qg (isPg (pgV Q)/\isPg (pgV P))) (.br (byB Q P) (.ok (.ret (.tup [.bl false,.i .i64 0]) [])) (.ok (.ret (.tup [.bl false,.i .i64 0]) []))) (.no 1)) (.br (qg (isPg (pgV Q)/\isPg (pgV P))) (.br (byB Q P) (.ok (.ret (.tup [.bl false,.i .i64 0]) [])) (.ok (.ret (.tup [.bl true,.i .i64 0]) []))) (.no 1))) (.no 1))) (.no 1)).run:=by kernel_rfl
def mtB (P Q:Pg):Bool:=decide (mtE P Q=0) && !byB P Q && !byB Q P
include hG in
theorem pcMt (hT:qp G) (P Q:Pg) (hp:okP P) (hq:okP Q):PC prog G 120 [pgV P,pgV Q] [] (.tup [.bl (mtB P Q),.i .i64 (mtE P Q)]) []:=by
 refine qj hG (.cons (qS (pcBtt hG hT P Q hp hq)) (.cons (gkBy hG hT) .nil)) mix enMt (hs:=[]) (L:=[]) (pol:={}) (kA (by kernel_rfl)) ((eMt P Q (mtE P Q)).trans ?_)
 rw[k5 (decP_iff.2 ⟨rfl,trivial⟩)]
 unfold mtB
 by_cases h:mtE P Q=0
 ·rw[k6 (by simp[h]),k5 (decP_iff.2 ⟨⟨P,rfl,hp⟩,Q,rfl,hq⟩),h]
  cases h1:byB P Q<;>cases h2:byB Q P<;>simp only[Tr.run,decP_iff.2 (show isPg (pgV Q)/\isPg (pgV P)from ⟨⟨Q,rfl,hq⟩,P,rfl,hp⟩)]<;>rfl
 ·rw[k5 (by simp[h]),k7,kG h]
  rfl
end
end Go.Proofs.YteggojnjinealaaGreatDoor.PE
