/-
  Part 3 of the proof: the evaluator and what it is worth. Conditions: those of the theorems below.
-/
import Derived.Test.YteggojnjinealaaGreatDoorSf2
import Derived.Shelf.Spec.TrailingZeros
set_option linter.all false
noncomputable section
namespace Go.Proofs.YteggojnjinealaaGreatDoor.PE
section
open Go Tryz
set_option maxRecDepth 100000
variable {G:World->(Nat->Prop)->Prop} (hG:GOk G)
def pbL:Int->List Int->List Int->List Int
 | _,[],us=>us
 | _,_::_,[]=>[]
 | c,v::vs,u::us=>((c+(u+v))%4294967296)::pbL ((c+(u+v))/4294967296) vs us
def pbC:Int->List Int->List Int->Int
 | c,[],_=>c
 | c,_::_,[]=>c
 | c,v::vs,u::us=>pbC ((c+(u+v))/4294967296) vs us
theorem pbL_ok:∀ (vs us:List Int) (c:Int),0<=c/\c<=1->isD vs->isD us->vs.length<=us.length->
  isD (pbL c vs us)/\(pbL c vs us).length=us.length/\(0<=pbC c vs us/\pbC c vs us<=1)/\
  lv 4294967296 (pbL c vs us)+(pbC c vs us).toNat*4294967296^vs.length=lv 4294967296 us+lv 4294967296 vs+c.toNat
 | [],us,c,hc,_,hu,_=>by
  refine⟨hu,rfl,hc,?_⟩
  show lv 4294967296 us+c.toNat*4294967296^0=lv 4294967296 us+0+c.toNat
  rw[Nat.pow_zero,Nat.mul_one];omega
 | _::_,[],_,_,_,_,hl=>by simp at hl
 | v::vs,u::us,c,hc,hv,hu,hl=>by
  have hv0:=hv v (by simp)
  have hu0:=hu u (by simp)
  obtain⟨i1,i2,i3,i4⟩:=pbL_ok vs us ((c+(u+v))/4294967296) (by omega) (fun a ha=>hv a (by simp[ha])) (fun a ha=>hu a (by simp[ha])) (by simpa using hl)
  refine⟨?_,by simp[pbL,i2],i3,?_⟩
  ·intro a ha
   simp only[pbL,List.mem_cons]at ha
   rcases ha with rfl|ha
   ·omega
   ·exact i1 a ha
  ·simp only[pbL,pbC,lv,kI,Nat.pow_succ]
   rw[show(pbC ((c+(u+v))/4294967296) vs us).toNat*(4294967296^vs.length*4294967296)=4294967296*((pbC ((c+(u+v))/4294967296) vs us).toNat*4294967296^vs.length) by rw[<-Nat.mul_assoc,Nat.mul_comm]]
   generalize (pbC ((c+(u+v))/4294967296) vs us).toNat*4294967296^vs.length=q at*
   generalize lv 4294967296 (pbL ((c+(u+v))/4294967296) vs us)=r at*
   omega
theorem pbL_high:∀ (vs us:List Int) (c:Int),vs.length<=us.length->(pbL c vs us).drop vs.length=us.drop vs.length
 | [],us,c,_=>rfl
 | _::_,[],_,hl=>by simp at hl
 | v::vs,u::us,c,hl=>by
  simp only[pbL,kI,List.drop_succ_cons]
  exact pbL_high vs us _ (by simpa using hl)
theorem step144 (vs pre us vt:List Int) (u v:Int) (o l i:Nat) (c:Int) (hk:vs.drop i=v::vt) (hp:pre.length=o+i) (hil:i<l) (hl:l<=1073741824) (hvl:vs.length<=1073741824)
  (hv:0<=v/\v<4294967296) (hu:0<=u/\u<4294967296) (hc:0<=c/\c<=1):
  (qe prog [] [] pol144 f189.ntmps 1 [0,1,4,7,8,9] b144 (t144 vs (pre++u::us) o l c (vs.length:Nat) (i:Nat))).run=
   some (.out .normal (t144 vs ((pre++[(c+(u+v))%4294967296])++us) o l ((c+(u+v))/4294967296) (vs.length:Nat) ((i+1:Nat):Int))):=by
 obtain⟨hk1,hk2,_⟩:=drop_cons hk
 have hlen:(pre++u::us).length=o+i+1+us.length:=by simp[hp];omega
 rw[q144,Int.toNat_natCast,getD_of hk2,<-hp,getD_app,u64_id hv.1 (by omega),u64_id hu.1 (by omega),u32_mod,fd32]
 repeat rw[k5 (by simp only[kD,kE,kH];omega)]
 rw[k7,set_app]
 unfold t144
 rw[List.append_assoc]
 rfl
include hG in
theorem goes144 (vs:List Int) (o l:Nat) (hl:l<=1073741824) (hvl:vs.length<=1073741824) (hv:isD vs) (hvl2:vs.length<=l):∀ (vt pre us:List Int) (i:Nat) (c:Int),vs.drop i=vt->pre.length=o+i->i+vt.length=vs.length->
  isD us->vt.length<=us.length->0<=c/\c<=1->
  Goes (Rnd prog G f189.ntmps 1 [0,1,4,7,8,9] b144) (t144 vs (pre++us) o l c (vs.length:Nat) (i:Nat)) (.exit 0) (t144 vs (pre++pbL c vt us) o l (pbC c vt us) (vs.length:Nat) (vs.length:Nat))
 | [],pre,us,i,c,_,_,hkl,_,_,_=>by
  refine .last _ _ _ (qb hG OrcOK.nil mix (L:=[]) (pol:=pol144) (O:=[]) (kA (by kernel_rfl)) (Nat.le_refl _) ?_) (by simp)
  simp only[kJ,Nat.add_zero]at hkl
  subst hkl
  rw[q144,k6 (kG (by omega)),k7]
  rfl
 | v::vt,pre,[],i,c,_,_,_,_,hle,_=>by simp at hle
 | v::vt,pre,u::us,i,c,hk,hp,hkl,hu,hle,hc=>by
  have hu0:=hu u (by simp)
  obtain⟨_,hk2,hk3⟩:=drop_cons hk
  have hv0:=hv v (List.mem_of_getElem? hk2)
  simp only[kI]at hkl
  refine .more _ _ _ _ (qb hG OrcOK.nil mix (L:=[]) (pol:=pol144) (O:=[]) (kA (by kernel_rfl)) (Nat.le_refl _) (step144 vs pre us vt u v o l i c hk hp (by omega) hl hvl hv0 hu0 hc)) ?_
  have ih:=goes144 vs o l hl hvl hv hvl2 vt (pre++[(c+(u+v))%4294967296]) us (i+1) ((c+(u+v))/4294967296) hk3 (by simp[hp];omega) (by omega) (fun a ha=>hu a (by simp[ha])) (by simpa using hle) (by omega)
  have e:(pre++[(c+(u+v))%4294967296])++pbL ((c+(u+v))/4294967296) vt us=pre++pbL c (v::vt) (u::us):=by simp[pbL]
  rw[e]at ih
  exact ih
def Q144 (vs vs' L:List Int) (o l:Nat) (c n i:Int):Prop:=vs'=vs/\vs.length<=l/\l<=1073741824/\o+l<=L.length/\isD vs/\isD L/\c=0/\n=vs.length/\i=0
def kP (vs L:List Int) (o:Nat):List Int:=hide (L.take o++pbL 0 vs (L.drop o))
def kPc (vs L:List Int) (o:Nat):Int:=hide (pbC 0 vs (L.drop o))
def l144:qA:=fun ls K=>match ls with
 | ⟨[.sl 0 1 o l,.lst 1 (.ints .u32 vs),.i .u64 c,.lst 1 (.ints .u32 vs'),.i .i64 n,.i .i64 i],[some ⟨1,.ints .u32 L⟩]⟩=>
  .br (qg (Q144 vs vs' L o l c n i)) (K (.exit 0) (t144 vs (kP vs L o) o l (kPc vs L o) n n)) (.no 1)
 | _=>.no 1
include hG in
theorem loop144:qz prog G f189.ntmps 1 [0,1,4,7,8,9] b144 l144:=by
 intro ls K r hm h
 unfold l144 at h
 split at h
 case h_2=>cases h
 rename_i o l vs c vs' n i L
 obtain⟨hc,hr⟩:=k8 h
 obtain⟨rfl,h1,h2,h3,h5,h6,rfl,rfl,rfl⟩:=decP_iff.1 hc
 have g:=goes144 hG vs' o l h2 (by omega) h5 h1 vs' (L.take o) (L.drop o) 0 0 rfl (by rw[List.length_take];omega) (by omega) (isD_drop h6 o) (by rw[List.length_drop];omega) ⟨by omega,by omega⟩
 rw[List.take_append_drop]at g
 unfold kP kPc at hr
 rw[qh,qh]at hr
 exact⟨_,_,qx g,hr⟩
theorem enter144:Enters prog 189 f189 (qd f189):=⟨func189,by kernel_rfl,rfl⟩
theorem p144 (vs L:List Int) (o l:Nat):evF prog [] [(2,l144)] pol144 f189 [.sl 0 1 o l,.lst 1 (.ints .u32 vs)] [⟨1,.ints .u32 L⟩] ql=
 Tr.br (qg (Q144 vs vs L o l (0:Int) (vs.length:Int) (0:Int))) (.br (ix ((vs.length:Int)) ((l:Int))) (.br ((o+(vs.length:Int).toNat+1).ble (kP vs L o).length) (.br (ix ((vs.length:Int)) ((l:Int))) (.br ((o+(vs.length:Int).toNat+1).ble (kP vs L o).length) (.ok (.ret (.tup []) [Blk.mk 1 (.ints .u32 ((kP vs L o).set (o+(vs.length:Int).toNat) (IntKind.u32.wrap ((kP vs L o).getD (o+(vs.length:Int).toNat) (0:Int)+IntKind.u32.wrap (kPc vs L o)))))])) (.no 9001)) (.no 9002)) (.no 9006)) (.no 9007)) (.no 1):=by kernel_rfl
theorem pb_fin {vs L:List Int} {o:Nat} (hv:isD vs) (hL:isD L) (ho:o+(vs.length+1)<=L.length):
  (L.take o++pbL 0 vs (L.drop o)).set (o+vs.length) (((L.take o++pbL 0 vs (L.drop o)).getD (o+vs.length) 0+pbC 0 vs (L.drop o))%4294967296)=putSeg o (vs.length+1) L ((segV o (vs.length+1) L+lv 4294967296 vs)%4294967296^(vs.length+1)):=by
 obtain⟨t1,t2,t3,t5⟩:=pbL_ok vs (L.drop o) 0 ⟨by omega,by omega⟩ hv (isD_drop hL o) (by rw[List.length_drop];omega)
 have t6:=pbL_high vs (L.drop o) 0 (by rw[List.length_drop];omega)
 have lo:(L.take o).length=o:=by rw[List.length_take];omega
 generalize pbL 0 vs (L.drop o)=T at*
 generalize pbC 0 vs (L.drop o)=C at*
 have lT:T.length=L.length-o:=by rw[t2,List.length_drop]
 have g0:(L.take o++T).getD (o+vs.length) 0=T.getD vs.length 0:=by
  rw[List.getD_eq_getElem?_getD,List.getElem?_append_right (by omega),lo,Nat.add_sub_cancel_left,<-List.getD_eq_getElem?_getD]
 have gT:0<=T.getD vs.length 0/\T.getD vs.length 0<4294967296:=by
  rw[List.getD_eq_getElem?_getD,List.getElem?_eq_getElem (show vs.length<T.length by omega)]
  exact t1 _ (List.getElem_mem _)
 rw[g0]
 have eset:(L.take o++T).set (o+vs.length) ((T.getD vs.length 0+C)%4294967296)=L.take o++T.set vs.length ((T.getD vs.length 0+C)%4294967296):=by
  rw[List.set_append_right _ _ (by omega),lo,Nat.add_sub_cancel_left]
 rw[eset]
 have hS:=lv_set 4294967296 T vs.length ((T.getD vs.length 0+C)%4294967296) (by omega)
 have dS:isD (T.set vs.length ((T.getD vs.length 0+C)%4294967296)):=isD_set t1 (by omega) _
 generalize hS':T.set vs.length ((T.getD vs.length 0+C)%4294967296)=S at*
 have lS:S.length=L.length-o:=by rw[<-hS',List.length_set,lT]
 have hdropS:S.drop (vs.length+1)=L.drop (o+(vs.length+1)):=by
  rw[<-hS',List.drop_set_of_lt (by omega),<-List.drop_drop,t6,List.drop_drop,List.drop_drop]
 have sp1:=lv_take_drop 4294967296 S (vs.length+1) (by omega)
 have sp2:=lv_split 4294967296 L o (vs.length+1) ho
 rw[hdropS]at sp1
 have b1:lv 4294967296 (S.take (vs.length+1))<4294967296^(vs.length+1):=by
  have h1:=lv_lt (B:=4294967296) (xs:=S.take (vs.length+1)) fun x hx=>by have:=isD_take dS (vs.length+1) x hx;omega
  exact Nat.lt_of_lt_of_le h1 (Nat.pow_le_pow_right (by omega) (by rw[List.length_take];omega))
 have eseg:segV o (vs.length+1) (L.take o++S)=lv 4294967296 (S.take (vs.length+1)):=by
  unfold segV
  rw[List.drop_append_of_le_length (by omega),List.drop_eq_nil_of_le (by omega),List.nil_append]
 have fU:lv 4294967296 ((L.drop o).take (vs.length+1))=segV o (vs.length+1) L:=rfl
 rw[fU]at sp2
 have hdo:(L.take o++S).drop o=S:=by rw[List.drop_append_of_le_length (by omega),List.drop_eq_nil_of_le (by omega),List.nil_append]
 have hdo2:(L.take o++S).drop (o+(vs.length+1))=L.drop (o+(vs.length+1)):=by
  have:=List.drop_drop (l:=L.take o++S) (i:=vs.length+1) (j:=o)
  rw[hdo,hdropS]at this
  exact this.symm
 refine putSeg_of (by rw[List.length_append,lo,lS];omega) (by rw[List.take_append_of_le_length (by omega),List.take_of_length_le (by omega)]) hdo2 (isD_app (isD_take hL o) dS) ho ?_
 rw[eseg]
 have hvl:lv 4294967296 vs<4294967296^(vs.length+1):=by
  have h1:=lv_lt (B:=4294967296) (xs:=vs) fun x hx=>by have:=hv x hx;omega
  exact Nat.lt_of_lt_of_le h1 (Nat.pow_le_pow_right (by omega) (by omega))
 have b2:=segV_lt hL o (vs.length+1)
 have fin:∀ e:Nat,e<=1->((T.getD vs.length 0+C)%4294967296).toNat+e*4294967296=(T.getD vs.length 0).toNat+C.toNat->lv 4294967296 (S.take (vs.length+1))+e*4294967296^(vs.length+1)=segV o (vs.length+1) L+lv 4294967296 vs:=by
  intro e he h
  have h2:((T.getD vs.length 0+C)%4294967296).toNat*4294967296^vs.length+e*(4294967296^vs.length*4294967296)=(T.getD vs.length 0).toNat*4294967296^vs.length+C.toNat*4294967296^vs.length:=by
   rw[<-Nat.add_mul,<-h,Nat.add_mul,Nat.mul_assoc e,Nat.mul_comm 4294967296]
  rw[sp1]at hS
  rw[sp2]at t5
  rw[Nat.pow_succ]at hS t5 ⊢
  omega
 rcases(show T.getD vs.length 0+C<4294967296\/4294967296<=T.getD vs.length 0+C by omega)with h|h
 ·have:=fin 0 (by omega) (by omega)
  rw[Nat.zero_mul,Nat.add_zero]at this
  rw[<-this,Nat.mod_eq_of_lt b1]
 ·have:=fin 1 (by omega) (by omega)
  rw[Nat.one_mul]at this
  rw[<-this,Nat.add_mod_right,Nat.mod_eq_of_lt b1]
def g144:Spec:=fun args hs K=>match args,hs with
 | [.sl 0 1 o l,.lst 1 (.ints .u32 vs)],[⟨1,.ints .u32 L⟩]=>.br (decide (l=vs.length+1)&&decide (o+l<=L.length)&&decide (L.length<=1073741824)&&allD vs&&allD L)
   (K (.tup []) [⟨1,.ints .u32 (putSeg o l L ((segV o l L+lv 4294967296 vs)%4294967296^l))⟩]) (.no 1)
 | _,_=>.no 1
include hG in
theorem gk144:qc prog G 189 g144:=by
 refine qq hG OrcOK.nil mix enter144 (L:=[(2,l144)]) (pol:=pol144) fun args hs K x h => ?_
 unfold g144 at h
 split at h
 case h_2=>cases h
 rename_i o l vs L
 obtain⟨hc,hr⟩:=k8 h
 simp only[kD,kE,allD_iff]at hc
 obtain⟨⟨⟨⟨rfl,h1⟩,h2⟩,h5⟩,h6⟩:=hc
 refine⟨qN (b:=b144) (live:=[0,1,4,7,8,9]) (sp:=l144) (m:=1) (by kernel_rfl) (by kernel_rfl) (by kernel_rfl) (loop144 hG),_,_,_,?_,.refl _,hr⟩
 obtain⟨t1,t2,t3,t5⟩:=pbL_ok vs (L.drop o) 0 ⟨by omega,by omega⟩ h5 (isD_drop h6 o) (by rw[List.length_drop];omega)
 have f1:=pb_fin h5 h6 h1
 have hlen:(L.take o++pbL 0 vs (L.drop o)).length=L.length:=by rw[List.length_append,t2,List.length_take,List.length_drop];omega
 rw[p144]
 unfold kP kPc
 simp only[qh,Int.toNat_natCast]
 have e1:IntKind.u32.wrap (pbC 0 vs (L.drop o))=pbC 0 vs (L.drop o):=by rw[u32_mod];omega
 rw[e1,u32_mod,f1]
 rw[k5 (decP_iff.2 ⟨rfl,by omega,by omega,by omega,h5,h6,rfl,rfl,rfl⟩)]
 repeat rw[k5 (by simp only[kD,kE,kH];omega)]
 rw[k7]
theorem dig_of {zs:List Int} (h:isD zs) {L v:Nat} (hl:zs.length=L) (hv:lv 4294967296 zs=v):zs=pd 4294967296 L v:=by
 rw[<-hl,<-hv]
 exact(pd_lv (by decide) h).symm
def a142 (X by_ i:Nat):LS:=t142 (dg 4294967296 X) (pd 4294967296 ((dg 4294967296 X).length+1) (X%4294967296^i*2^by_)) ((dg 4294967296 X).length+1) (by_:Nat) ((dg 4294967296 X).length:Nat) (i:Nat)
theorem step142 (X by_ i:Nat) (hb:by_<32) (hi:i<(dg 4294967296 X).length) (hs:(dg 4294967296 X).length<=1073741824):
  (qe prog [] [] pol142 f187.ntmps 0 [1,5,13,14,15] b142 (a142 X by_ i)).run=some (.out .normal (a142 X by_ (i+1))):=by
 have hp:0<4294967296^i:=Nat.pow_pos (by omega)
 have h2:0<2^by_:=Nat.pow_pos (by omega)
 have gx:=dg_get (B:=4294967296) (n:=X) (by omega) hi
 have hx:X/4294967296^i%4294967296<4294967296:=Nat.mod_lt _ (by omega)
 have hsucc:X%4294967296^(i+1)*2^by_=X%4294967296^i*2^by_+X/4294967296^i%4294967296*2^by_*4294967296^i:=by
  rw[Nat.mod_pow_succ,Nat.add_mul,Nat.mul_comm (4294967296^i),Nat.mul_right_comm]
 have hA:X%4294967296^i*2^by_<2^by_*4294967296^i:=by
  rw[Nat.mul_comm (2^by_)]
  exact Nat.mul_lt_mul_of_pos_right (Nat.mod_lt X hp) h2
 unfold a142 t142
 have hq:=q142 (dg 4294967296 X) (pd 4294967296 ((dg 4294967296 X).length+1) (X%4294967296^i*2^by_)) ((dg 4294967296 X).length+1) (by_:Nat) ((dg 4294967296 X).length:Nat) (i:Nat)
 unfold t142 at hq
 rw[hq,Int.toNat_natCast,gx]
 rw[hsucc]
 generalize X%4294967296^i*2^by_=A at hA ⊢
 generalize X/4294967296^i%4294967296=x at hx ⊢
 have hB:4294967296=2^(32-by_)*2^by_:=by rw[<-Nat.pow_add,show 32-by_+by_=32 by omega]
 have hbu:2^by_<=2147483648:=by
  have:2^by_<=2^31:=Nat.pow_le_pow_right (by omega) (by omega)
  omega
 have ha:A/4294967296^i<2^by_:=by rw[Nat.div_lt_iff_lt_mul hp];exact hA
 have hxw:x*2^by_<=4294967295*2147483648:=Nat.mul_le_mul (by omega) hbu
 have e1:min (Int.toNat ((by_:Nat):Int)) IntKind.u64.bits=by_:=by
  rw[Int.toNat_natCast];simp only[IntKind.bits];omega
 have e2:IntKind.u64.wrap ((x:Nat):Int)*(2:Int)^by_=((x*2^by_:Nat):Int):=by
  rw[qJ (by omega)];simp
 rw[e1,e2,qJ (n:=x*2^by_) (by omega),wrap_u32_nat (x*2^by_),fd32,u32_mod (n:=((x*2^by_:Nat):Int)/4294967296)]
 have hmod:x*2^by_%4294967296=x%2^(32-by_)*2^by_:=by rw[hB,Nat.mul_mod_mul_right]
 have hlow:x%2^(32-by_)<2^(32-by_):=Nat.mod_lt _ (Nat.pow_pos (by omega))
 have hlow2:(x%2^(32-by_)+1)*2^by_<=4294967296:=by
  have:=Nat.mul_le_mul_right (2^by_) (Nat.succ_le_of_lt hlow)
  rw[<-hB]at this
  exact this
 rw[Nat.add_mul,Nat.one_mul]at hlow2
 have g0:(pd 4294967296 ((dg 4294967296 X).length+1) A).getD (0+i) 0=((A/4294967296^i:Nat):Int):=by
  rw[Nat.zero_add,pd_getD (by omega),Nat.mod_eq_of_lt (by omega)]
 rw[g0]
 clear g0
 generalize hae:A/4294967296^i=a at ha ⊢
 have hor:IntKind.u32.wrap ((BitVec.ofInt IntKind.u32.bits ((a:Nat):Int) ||| BitVec.ofInt IntKind.u32.bits ((x*2^by_%4294967296:Nat):Int)).toNat:Int)=((a+x*2^by_%4294967296:Nat):Int):=by
  have h:=or32c by_ ((x%2^(32-by_):Nat):Int) ((a:Nat):Int) (by omega) (by omega)
   (by
    have:((2^by_:Nat):Int)=(2:Int)^by_:=by simp
    rw[<-this];omega)
   (by
    have:((2^by_:Nat):Int)=(2:Int)^by_:=by simp
    rw[<-this,<-Int.natCast_mul];omega)
  have e3:((x%2^(32-by_):Nat):Int)*(2:Int)^by_=((x*2^by_%4294967296:Nat):Int):=by rw[hmod];simp
  rw[e3]at h
  rw[h];omega
 rw[hor]
 have hd1:a+x*2^by_%4294967296<4294967296:=by rw[hmod];omega
 have hd2:x*2^by_/4294967296<4294967296:=by omega
 have ei:((i:Nat):Int)+1=((i+1:Nat):Int):=by omega
 have ei2:0+(((i:Nat):Int)+1).toNat=i+1:=by omega
 have hfd:((x*2^by_:Nat):Int)/4294967296%4294967296=((x*2^by_/4294967296:Nat):Int):=by omega
 have hlen:=qn 4294967296 ((dg 4294967296 X).length+1) A
 have fin:((pd 4294967296 ((dg 4294967296 X).length+1) A).set i ((a+x*2^by_%4294967296:Nat):Int)).set (i+1) ((x*2^by_/4294967296:Nat):Int)=pd 4294967296 ((dg 4294967296 X).length+1) (A+x*2^by_*4294967296^i):=by
  have hAl:A<4294967296^((dg 4294967296 X).length+1):=by
   have h1:4294967296^(i+1)<=4294967296^((dg 4294967296 X).length+1):=Nat.pow_le_pow_right (by omega) (by omega)
   have h3:2^by_*4294967296^i<=4294967296*4294967296^i:=Nat.mul_le_mul_right _ (by omega)
   rw[Nat.pow_succ,Nat.mul_comm (4294967296^i)]at h1
   omega
  refine dig_of (isD_set (isD_set (isD_pd _ _) (by omega) _) (by omega) _) (by rw[List.length_set,List.length_set,hlen]) ?_
  have s1:=lv_set 4294967296 ((pd 4294967296 ((dg 4294967296 X).length+1) A).set i ((a+x*2^by_%4294967296:Nat):Int)) (i+1) ((x*2^by_/4294967296:Nat):Int) (by rw[List.length_set,hlen];omega)
  have s2:=lv_set 4294967296 (pd 4294967296 ((dg 4294967296 X).length+1) A) i ((a+x*2^by_%4294967296:Nat):Int) (by rw[hlen];omega)
  rw[lv_pd (by omega) _ _ hAl,pd_getD (by omega),Int.toNat_natCast,Int.toNat_natCast,hae,Nat.mod_eq_of_lt (a:=a) (by omega)]at s2
  have z:((pd 4294967296 ((dg 4294967296 X).length+1) A).set i ((a+x*2^by_%4294967296:Nat):Int)).getD (i+1) 0=0:=by
   rw[List.getD_eq_getElem?_getD,List.getElem?_set_ne (by omega),<-List.getD_eq_getElem?_getD,pd_getD (by omega),Nat.pow_succ,<-Nat.div_div_eq_div_mul,hae,Nat.div_eq_of_lt (a:=a) (by omega)]
   rfl
  rw[z,Int.toNat_zero,Nat.zero_mul,Nat.add_zero,Int.toNat_natCast]at s1
  rw[s1]
  rw[Nat.add_mul]at s2
  have dm:=Nat.div_add_mod (x*2^by_) 4294967296
  have e5:x*2^by_*4294967296^i=x*2^by_/4294967296*4294967296^(i+1)+x*2^by_%4294967296*4294967296^i:=by
   rw[Nat.pow_succ,show x*2^by_/4294967296*(4294967296^i*4294967296)=4294967296*(x*2^by_/4294967296)*4294967296^i by rw[Nat.mul_comm (4294967296^i),<-Nat.mul_assoc,Nat.mul_comm 4294967296],<-Nat.add_mul,dm]
  rw[e5]
  omega
 rw[ei2,Nat.zero_add,ei,hfd,fin]
 repeat rw[k5 (by simp only[kD,kE,kH,List.length_set,qn];omega)]
 rw[k7]
include hG in
theorem goes142 (X by_:Nat) (hb:by_<32) (hs:(dg 4294967296 X).length<=1073741824):Goes (Rnd prog G f187.ntmps 0 [1,5,13,14,15] b142) (a142 X by_ 0) (.exit 0) (a142 X by_ (dg 4294967296 X).length):=by
 refine Goes.count (a142 X by_) (e:=.exit 0) (by simp) (dg 4294967296 X).length 0 (fun j _ hj => ?_) ?_
 ·exact qb hG OrcOK.nil mix (L:=[]) (pol:=pol142) (O:=[]) (kA (by kernel_rfl)) (Nat.zero_le _) (step142 X by_ j hb (by omega) hs)
 ·refine qb hG OrcOK.nil mix (L:=[]) (pol:=pol142) (O:=[]) (kA (by kernel_rfl)) (Nat.zero_le _) ?_
  rw[Nat.zero_add]
  unfold a142
  rw[q142,k6 (kG (by omega)),k7]
  rfl
def zL (xs:List Int) (k:Nat):List Int:=hide (pd 4294967296 (xs.length+1) (lv 4294967296 xs*2^k))
def Q142 (xs zs:List Int) (l:Nat) (by_ n i:Int):Prop:=(∃ X,xs=dg 4294967296 X)/\zs=List.replicate (xs.length+1) 0/\l=xs.length+1/\(∃ k:Nat,by_=(k:Int)/\k<32)/\n=xs.length/\i=0/\xs.length<=1073741824
def l142:qA:=fun ls K=>match ls with
 | ⟨[.i .i64 by_,.sl 0 1 0 l,.lst 1 (.ints .u32 xs),.i .i64 n,.i .i64 i],[some ⟨1,.ints .u32 zs⟩]⟩=>
  .br (qg (Q142 xs zs l by_ n i)) (K (.exit 0) (t142 xs (zL xs by_.toNat) l by_ n n)) (.no 1)
 | _=>.no 1
include hG in
theorem loop142:qz prog G f187.ntmps 0 [1,5,13,14,15] b142 l142:=by
 intro ls K x hm h
 unfold l142 at h
 split at h
 case h_2=>cases h
 rename_i by_ l xs n i zs
 obtain⟨hc,hr⟩:=k8 h
 obtain⟨⟨X,rfl⟩,rfl,rfl,⟨k,rfl,hk⟩,rfl,rfl,hl⟩:=decP_iff.1 hc
 have g:=goes142 hG X k hk hl
 have e0:a142 X k 0=t142 (dg 4294967296 X) (List.replicate ((dg 4294967296 X).length+1) 0) ((dg 4294967296 X).length+1) (k:Nat) ((dg 4294967296 X).length:Nat) 0:=by
  unfold a142
  rw[Nat.pow_zero,Nat.mod_one,Nat.zero_mul,pd_zero]
  rfl
 have e1:a142 X k (dg 4294967296 X).length=t142 (dg 4294967296 X) (zL (dg 4294967296 X) k) ((dg 4294967296 X).length+1) (k:Nat) ((dg 4294967296 X).length:Nat) ((dg 4294967296 X).length:Nat):=by
  have hx:=dg_lt (B:=4294967296) (by omega) X
  unfold a142 zL
  rw[qh,lv_dg (by omega),Nat.mod_eq_of_lt hx]
 rw[e0,e1]at g
 rw[Int.toNat_natCast]at hr
 exact⟨_,_,qx g,hr⟩
theorem enter142:Enters prog 187 f187 (qd f187):=⟨func187,by kernel_rfl,rfl⟩
theorem p142 (xs:List Int) (k:Int):evF prog [] [(3,l142)] pol142 f187 [.lst 1 (.ints .u32 xs),.i .i64 k] [] ql=
 Tr.br (ib ((xs.length:Int)+1)) (.br (decide ((xs.length:Int)+1=(xs.length:Int)+1)&&decide (0<=(xs.length:Int)+1)&&decide ((xs.length:Int)+1<=4294967296)&&prog.types[(158:Nat)].bytes.ble 1024) (.br (qg (Q142 xs (List.replicate ((xs.length:Int)+1).toNat (0:Int)) ((xs.length:Int)+1).toNat k (xs.length:Int) (0:Int))) (.br (((xs.length:Int)+1).toNat.ble (zL xs k.toNat).length) (.ok (.ret (.fr 1 (.ints .u32 (List.take ((xs.length:Int)+1).toNat (List.drop 0 (zL xs k.toNat))))) [])) (.no 15)) (.no 1)) (.no 2002)) (.no 2003):=by kernel_rfl
def P142 (xs:List Int) (k:Int):Prop:=(∃ X,xs=dg 4294967296 X)/\0<=k/\k<32/\xs.length<=268435456
def g142:Spec:=fun args hs K=>match args,hs with
 | [.lst 1 (.ints .u32 xs),.i .i64 k],[]=>.br (qg (P142 xs k)) (K (.fr 1 (.ints .u32 (zL xs k.toNat))) []) (.no 1)
 | _,_=>.no 1
theorem zL_len (xs:List Int) (k:Nat):(zL xs k).length=xs.length+1:=by unfold zL;rw[qh,qn]
include hG in
theorem gk142:qc prog G 187 g142:=by
 refine qq hG OrcOK.nil mix enter142 (L:=[(3,l142)]) (pol:=pol142) fun args hs K x h => ?_
 unfold g142 at h
 split at h
 case h_2=>cases h
 rename_i xs k
 obtain⟨hc,hr⟩:=k8 h
 obtain⟨⟨X,rfl⟩,h1,h2,h3⟩:=decP_iff.1 hc
 obtain⟨k,rfl⟩:=Int.eq_ofNat_of_zero_le h1
 refine⟨qN (b:=b142) (live:=[1,5,13,14,15]) (sp:=l142) (m:=0) (by kernel_rfl) (by kernel_rfl) (by kernel_rfl) (loop142 hG),_,_,_,?_,.refl _,hr⟩
 have e:(((dg 4294967296 X).length:Int)+1).toNat=(dg 4294967296 X).length+1:=by omega
 rw[p142]
 simp only[e,u32_ty,Bool.and_true,List.drop_zero]
 rw[List.take_of_length_le (by rw[zL_len];exact Nat.le_refl _)]
 rw[k5 (by simp only[kD,kE];omega),k5 (by simp only[kD,kE,decide_true,Bool.true_and];omega),
  k5 (decP_iff.2 ⟨⟨X,rfl⟩,rfl,rfl,⟨k,rfl,by omega⟩,rfl,rfl,by omega⟩),k5 (by simp only[kH,zL_len];omega),k7]
theorem enter141:Enters prog 186 f186 (qd f186):=⟨func186,by kernel_rfl,rfl⟩
theorem enter150:Enters prog 214 f214 (qd f214):=⟨func214,by kernel_rfl,rfl⟩
def ltab:List UInt8:=([0,1,2,2,3,3,3,3,4,4,4,4,4,4,4,4,5,5,5,5,5,5,5,5,5,5,5,5,5,5,5,5,6,6,6,6,6,6,6,6,6,6,6,6,6,6,6,6,6,6,6,6,6,6,6,6,6,6,6,6,6,6,6,6]:List UInt8).append [7,7,7,7,7,7,7,7,7,7,7,7,7,7,7,7,7,7,7,7,7,7,7,7,7,7,7,7,7,7,7,7,7,7,7,7,7,7,7,7,7,7,7,7,7,7,7,7,7,7,7,7,7,7,7,7,7,7,7,7,7,7,7,7] |>.append (([8,8,8,8,8,8,8,8,8,8,8,8,8,8,8,8,8,8,8,8,8,8,8,8,8,8,8,8,8,8,8,8,8,8,8,8,8,8,8,8,8,8,8,8,8,8,8,8,8,8,8,8,8,8,8,8,8,8,8,8,8,8,8,8]:List UInt8).append [8,8,8,8,8,8,8,8,8,8,8,8,8,8,8,8,8,8,8,8,8,8,8,8,8,8,8,8,8,8,8,8,8,8,8,8,8,8,8,8,8,8,8,8,8,8,8,8,8,8,8,8,8,8,8,8,8,8,8,8,8,8,8,8])
theorem p150 (x:Int):evF prog [] [] {} f214 [.i .u32 x] [] ql=
 Tr.br (decide (65536<=x)) (.br (decide ((0:Int)<=16)) (.br (decide (256<=x.fdiv ((2:Int)^min (Int.toNat 16) IntKind.u32.bits))) (.br (decide ((0:Int)<=8)) (.br (ib ((16:Int)+8)) (.br (ix (IntKind.u8.wrap ((x.fdiv ((2:Int)^min (Int.toNat 16) IntKind.u32.bits)).fdiv ((2:Int)^min (Int.toNat 8) IntKind.u32.bits))) ((↑(ByteArray.mk (ltab).toArray).size:Int))) (.br (ib ((16:Int)+8+IntKind.i64.wrap (↑((ltab).toArray.toList.getD (IntKind.u8.wrap ((x.fdiv ((2:Int)^min (Int.toNat 16) IntKind.u32.bits)).fdiv ((2:Int)^min (Int.toNat 8) IntKind.u32.bits))).toNat (0:UInt8)).toNat:Int))) (.ok (.ret (.i .i64 ((16:Int)+8+IntKind.i64.wrap (↑((ltab).toArray.toList.getD (IntKind.u8.wrap ((x.fdiv ((2:Int)^min (Int.toNat 16) IntKind.u32.bits)).fdiv ((2:Int)^min (Int.toNat 8) IntKind.u32.bits))).toNat (0:UInt8)).toNat:Int))) [])) (.no 8002)) (.no 8004)) (.no 7002)) (.no 6002)) (.br (ix (IntKind.u8.wrap (x.fdiv ((2:Int)^min (Int.toNat 16) IntKind.u32.bits))) ((↑(ByteArray.mk (ltab).toArray).size:Int))) (.br (ib ((16:Int)+IntKind.i64.wrap (↑((ltab).toArray.toList.getD (IntKind.u8.wrap (x.fdiv ((2:Int)^min (Int.toNat 16) IntKind.u32.bits))).toNat (0:UInt8)).toNat:Int))) (.ok (.ret (.i .i64 ((16:Int)+IntKind.i64.wrap (↑((ltab).toArray.toList.getD (IntKind.u8.wrap (x.fdiv ((2:Int)^min (Int.toNat 16) IntKind.u32.bits))).toNat (0:UInt8)).toNat:Int))) [])) (.no 8002)) (.no 8004))) (.no 3002)) (.br (decide (256<=x)) (.br (decide ((0:Int)<=8)) (.br (ib ((0:Int)+8)) (.br (ix (IntKind.u8.wrap (x.fdiv ((2:Int)^min (Int.toNat 8) IntKind.u32.bits))) ((↑(ByteArray.mk (ltab).toArray).size:Int))) (.br (ib ((0:Int)+8+IntKind.i64.wrap (↑((ltab).toArray.toList.getD (IntKind.u8.wrap (x.fdiv ((2:Int)^min (Int.toNat 8) IntKind.u32.bits))).toNat (0:UInt8)).toNat:Int))) (.ok (.ret (.i .i64 ((0:Int)+8+IntKind.i64.wrap (↑((ltab).toArray.toList.getD (IntKind.u8.wrap (x.fdiv ((2:Int)^min (Int.toNat 8) IntKind.u32.bits))).toNat (0:UInt8)).toNat:Int))) [])) (.no 8002)) (.no 8004)) (.no 7002)) (.no 6002)) (.br (ix (IntKind.u8.wrap x) ((↑(ByteArray.mk (ltab).toArray).size:Int))) (.br (ib ((0:Int)+IntKind.i64.wrap (↑((ltab).toArray.toList.getD (IntKind.u8.wrap x).toNat (0:UInt8)).toNat:Int))) (.ok (.ret (.i .i64 ((0:Int)+IntKind.i64.wrap (↑((ltab).toArray.toList.getD (IntKind.u8.wrap x).toNat (0:UInt8)).toNat:Int))) [])) (.no 8002)) (.no 8004))):=by kernel_rfl
def blen (k:Nat):Nat:=if k=0 then 0 else Nat.log2 k+1
theorem ltab_ok':(List.range 256).all (fun k=>(ltab.getD k 0).toNat==blen k)=true:=by kernel_rfl
theorem ltab_ok {k:Nat} (h:k<256):(ltab.getD k 0).toNat=blen k:=by
 have:=List.all_eq_true.1 ltab_ok' k (List.mem_range.2 h)
 simpa using this
theorem ltab_size:(ByteArray.mk ltab.toArray).size=256:=by kernel_rfl
theorem blen_le {k j:Nat} (h:k<2^j):blen k<=j:=by
 unfold blen
 split
 ·omega
 ·rename_i h0
  have:=(Nat.log2_lt h0).2 h
  omega
theorem blen_shift {k:Nat} (j:Nat) (h:k/2^j≠0):blen k=j+blen (k/2^j):=by
 have hp:0<2^j:=Nat.pow_pos (by omega)
 have h0:k≠0:=fun h0=>h (by rw[h0];simp)
 unfold blen
 rw[if_neg h0,if_neg h]
 have e:Nat.log2 k=j+Nat.log2 (k/2^j):=by
  have l1:=Nat.log2_self_le h
  have l2:=Nat.lt_log2_self (n:=k/2^j)
  have a1:2^(j+Nat.log2 (k/2^j))<=k:=by
   rw[Nat.pow_add,Nat.mul_comm]
   exact Nat.le_trans (Nat.mul_le_mul_right _ l1) (Nat.div_mul_le_self k (2^j))
  have a2:k<2^(j+Nat.log2 (k/2^j)+1):=by
   rw[Nat.add_assoc,Nat.pow_add]
   exact(Nat.div_lt_iff_lt_mul hp).1 l2 |> fun h=>by rw[Nat.mul_comm];exact h
  have b1:=(Nat.le_log2 h0).2 a1
  have b2:=(Nat.log2_lt h0).2 a2
  omega
 rw[e];omega
def g150:Spec:=fun args hs K=>match args,hs with
 | [.i .u32 x],[]=>.br (decide (0<=x)&&decide (x<4294967296)) (K (.i .i64 (blen x.toNat:Nat)) []) (.no 1)
 | _,_=>.no 1
include hG in
theorem gk150:qc prog G 214 g150:=by
 refine qq hG OrcOK.nil mix enter150 (L:=[]) (pol:={}) fun args hs K x h => ?_
 unfold g150 at h
 split at h
 case h_2=>cases h
 rename_i x
 obtain⟨hc,hr⟩:=k8 h
 simp only[kD,kE]at hc
 refine⟨kA (by kernel_rfl),_,_,_,?_,.refl _,hr⟩
 obtain⟨x,rfl⟩:=Int.eq_ofNat_of_zero_le hc.1
 have hx:x<4294967296:=by omega
 have e16:min (Int.toNat (16:Int)) IntKind.u32.bits=16:=rfl
 have e8:min (Int.toNat (8:Int)) IntKind.u32.bits=8:=rfl
 have w:∀ k:Nat,k<256->IntKind.u8.wrap ((k:Nat):Int)=((k:Nat):Int):=fun k hk=>by rw[IntKind.wrap_u8'];omega
 have wi:∀ k:Nat,k<=64->IntKind.i64.wrap ((k:Nat):Int)=((k:Nat):Int):=fun k hk=>wi64 (by omega) (by omega)
 have go:∀ k:Nat,k<256->(ltab.getD k 0).toNat=blen k/\blen k<=8:=fun k hk=>⟨ltab_ok hk,blen_le (j:=8) (by omega)⟩
 rw[p150,e16,e8]
 simp only[ltab_size,fdiv_nat,Int.toNat_natCast]
 by_cases h1:65536<=x
 ·rw[k5 (kF (by omega)),k5 (by decide)]
  by_cases h2:256<=x/2^16
  ·obtain⟨g1,g2⟩:=go (x/2^16/2^8) (by omega)
   rw[k5 (kF (by omega)),k5 (by decide),w _ (by omega),Int.toNat_natCast,g1,wi _ (by omega)]
   repeat rw[k5 (by simp only[kD,kE];omega)]
   rw[k7,blen_shift (k:=x) 16 (by omega),blen_shift (k:=x/2^16) 8 (by omega)]
   have:(16:Int)+8+((blen (x/2^16/2^8):Nat):Int)=((16+(8+blen (x/2^16/2^8)):Nat):Int):=by omega
   rw[this]
  ·obtain⟨g1,g2⟩:=go (x/2^16) (by omega)
   rw[k6 (kG (by omega)),w _ (by omega),Int.toNat_natCast,g1,wi _ (by omega)]
   repeat rw[k5 (by simp only[kD,kE];omega)]
   rw[k7,blen_shift (k:=x) 16 (by omega),Int.natCast_add]
   rfl
 ·rw[k6 (kG (by omega))]
  by_cases h2:256<=x
  ·obtain⟨g1,g2⟩:=go (x/2^8) (by omega)
   rw[k5 (kF (by omega)),k5 (by decide),w _ (by omega),Int.toNat_natCast,g1,wi _ (by omega)]
   repeat rw[k5 (by simp only[kD,kE];omega)]
   rw[k7,blen_shift (k:=x) 8 (by omega)]
   have:(0:Int)+8+((blen (x/2^8):Nat):Int)=((8+blen (x/2^8):Nat):Int):=by omega
   rw[this]
  ·obtain⟨g1,g2⟩:=go x (by omega)
   rw[k6 (kG (by omega)),w _ (by omega),Int.toNat_natCast,g1,wi _ (by omega)]
   repeat rw[k5 (by simp only[kD,kE];omega)]
   rw[k7,Int.zero_add]
theorem p141 (x:Int):evF prog [(214,g150)] [] {} f186 [.i .u32 x] [] ql=
 Tr.br (ix (x) ((4294967296:Int))) (.br (ib ((32:Int)-(↑(blen x.toNat):Int))) (.ok (.ret (.i .i64 ((32:Int)-(↑(blen x.toNat):Int))) [])) (.no 2002)) (.no 1):=by kernel_rfl
def g141:Spec:=fun args hs K=>match args,hs with
 | [.i .u32 x],[]=>.br (decide (0<=x)&&decide (x<4294967296)) (K (.i .i64 (32-(blen x.toNat:Nat))) []) (.no 1)
 | _,_=>.no 1
include hG in
theorem gk141:qc prog G 186 g141:=by
 refine qq hG (.cons (gk150 hG) .nil) mix enter141 (L:=[]) (pol:={}) fun args hs K x h => ?_
 unfold g141 at h
 split at h
 case h_2=>cases h
 rename_i x
 obtain⟨hc,hr⟩:=k8 h
 refine⟨kA (by kernel_rfl),_,_,_,?_,.refl _,hr⟩
 have hc':=hc
 simp only[kD,kE]at hc'
 have:=blen_le (k:=x.toNat) (j:=32) (by omega)
 rw[p141,k5 hc,k5 (by simp only[kD,kE];omega),k7]
end
section
open Go
set_option maxRecDepth 100000
def est (v1 v2 u2:Nat):Nat->Nat->Nat->Nat × Nat
 | 0,d,r=>(d,r)
 | f+1,d,r=>if 4294967296<=d\/r*4294967296+u2<d*v2 then (if 4294967296<=r+v1 then (d-1,r+v1)else est v1 v2 u2 f (d-1) (r+v1))else (d,r)
theorem est_ok {v1 v2 u2 top:Nat} (hv1:2147483648<=v1) (hv2:v2<4294967296) (htop:top<(v1+1)*4294967296) (Q:Nat) (hQ:Q<4294967296) (hQW:Q*(v1*4294967296+v2)<=top*4294967296+u2):
  ∀ f d r:Nat,d*v1+r=top->r<4294967296->4294967296<=r+f*v1->Q<=d->∃ d' r',est v1 v2 u2 f d r=(d',r')/\d'<4294967296/\Q<=d'/\d'*(v1*4294967296+v2)<=top*4294967296+u2
 | 0,d,r,_,hr,hf,_=>by omega
 | f+1,d,r,ht,hr,hf,hd=>by
  unfold est
  have e1:d*(v1*4294967296+v2)=d*v1*4294967296+d*v2:=by rw[Nat.mul_add,Nat.mul_assoc]
  by_cases hc:4294967296<=d\/r*4294967296+u2<d*v2
  ·rw[if_pos hc]
   have hQd:Q<d:=by
    rcases hc with h|h
    ·omega
    ·rcases Nat.lt_or_ge Q d with h2|h2
     ·exact h2
     ·have:=Nat.mul_le_mul_right (v1*4294967296+v2) h2
      omega
   obtain⟨d0,rfl⟩:∃ d0,d=d0+1:=⟨d-1,by omega⟩
   have e2:d0*v1+(r+v1)=top:=by rw[Nat.add_mul]at ht;omega
   rw[Nat.add_sub_cancel]
   by_cases hb:4294967296<=r+v1
   ·rw[if_pos hb]
    have hlt:d0<4294967296:=by
     rcases Nat.lt_or_ge d0 4294967296 with h|h
     ·exact h
     ·have:=Nat.mul_le_mul_right v1 h
      rw[Nat.add_mul]at htop
      omega
    refine⟨d0,r+v1,rfl,hlt,by omega,?_⟩
    have h3:d0*v2<=4294967296*4294967296:=Nat.mul_le_mul (by omega) (by omega)
    rw[Nat.mul_add,<-Nat.mul_assoc]
    omega
   ·rw[if_neg hb]
    refine est_ok hv1 hv2 htop Q hQ hQW f d0 (r+v1) e2 (by omega) ?_ (by omega)
    rw[Nat.add_mul,Nat.one_mul]at hf
    omega
  ·rw[if_neg hc]
   refine⟨d,r,rfl,by omega,hd,?_⟩
   omega
theorem est_digit {U V n:Nat} (hn:2<=n) (hV:V<4294967296^n) (hV1:2147483648<=V/4294967296^(n-1)) (hU:U<V*4294967296):
  ∃ d r,est (V/4294967296^(n-1)) (V/4294967296^(n-2)%4294967296) (U/4294967296^(n-2)%4294967296) 2 (U/4294967296^(n-1)/(V/4294967296^(n-1))) (U/4294967296^(n-1)%(V/4294967296^(n-1)))=(d,r)/\
   d<4294967296/\U/V<=d/\d<=U/V+1:=by
 obtain⟨m,rfl⟩:∃ m,n=m+2:=⟨n-2,by omega⟩
 rw[show m+2-1=m+1 by omega,show m+2-2=m by omega]at*
 have hp:0<4294967296^m:=Nat.pow_pos (by omega)
 have hp1:0<4294967296^(m+1):=Nat.pow_pos (by omega)
 have hV0:0<V:=by
  rcases Nat.eq_zero_or_pos V with h|h
  ·rw[h,Nat.zero_div]at hV1;omega
  ·exact h
 have eW:V/4294967296^m=V/4294967296^(m+1)*4294967296+V/4294967296^m%4294967296:=by
  have h:V/4294967296^m/4294967296=V/4294967296^(m+1):=by rw[Nat.div_div_eq_div_mul,<-Nat.pow_succ]
  omega
 have eT:U/4294967296^m=U/4294967296^(m+1)*4294967296+U/4294967296^m%4294967296:=by
  have h:U/4294967296^m/4294967296=U/4294967296^(m+1):=by rw[Nat.div_div_eq_div_mul,<-Nat.pow_succ]
  omega
 have hv1:V/4294967296^(m+1)<4294967296:=by
  rw[Nat.div_lt_iff_lt_mul hp1];rw[Nat.pow_succ]at hV;rw[Nat.mul_comm];exact hV
 have htop:U/4294967296^(m+1)<(V/4294967296^(m+1)+1)*4294967296:=by
  rw[Nat.div_lt_iff_lt_mul hp1]
  have h1:V<(V/4294967296^(m+1)+1)*4294967296^(m+1):=by
   have h2:=Nat.div_add_mod V (4294967296^(m+1))
   have h3:=Nat.mod_lt V hp1
   rw[Nat.add_mul,Nat.mul_comm (V/_)]
   omega
  have h2:V*4294967296<=(V/4294967296^(m+1)+1)*4294967296^(m+1)*4294967296:=Nat.mul_le_mul_right _ (Nat.le_of_lt h1)
  rw[Nat.mul_right_comm (V/4294967296^(m+1)+1) 4294967296]
  exact Nat.lt_of_lt_of_le hU h2
 have hQ:U/V<4294967296:=by rw[Nat.div_lt_iff_lt_mul hV0,Nat.mul_comm];exact hU
 have dUV:=Nat.div_add_mod U V
 have hQV:U/V*V<=U:=Nat.div_mul_le_self U V
 have hQW:U/V*(V/4294967296^(m+1)*4294967296+V/4294967296^m%4294967296)<=U/4294967296^(m+1)*4294967296+U/4294967296^m%4294967296:=by
  rw[<-eW,<-eT,Nat.le_div_iff_mul_le hp,Nat.mul_assoc]
  exact Nat.le_trans (Nat.mul_le_mul_left _ (Nat.div_mul_le_self V _)) hQV
 have hd0:U/V<=U/4294967296^(m+1)/(V/4294967296^(m+1)):=by
  rw[Nat.le_div_iff_mul_le (by omega),Nat.le_div_iff_mul_le hp1,Nat.mul_assoc]
  exact Nat.le_trans (Nat.mul_le_mul_left _ (Nat.div_mul_le_self V _)) hQV
 have hdm:=Nat.div_add_mod (U/4294967296^(m+1)) (V/4294967296^(m+1))
 have hr:=Nat.mod_lt (U/4294967296^(m+1)) (show 0<V/4294967296^(m+1) by omega)
 generalize U/4294967296^(m+1)%(V/4294967296^(m+1))=r0 at*
 obtain⟨d,r,h1,h2,h3,h4⟩:=est_ok (v2:=V/4294967296^m%4294967296) (u2:=U/4294967296^m%4294967296) hV1 (Nat.mod_lt _ (by omega)) htop (U/V) hQ hQW 2 _ _ (by rw[Nat.mul_comm];exact hdm) (by omega) (by omega) hd0
 refine⟨d,r,h1,h2,h3,?_⟩
 rw[<-eW,<-eT]at h4
 -- (d - 1) V <= U
 rcases Nat.eq_zero_or_pos d with h0|h0
 ·rw[h0];exact Nat.zero_le _
 obtain⟨c,rfl⟩:∃ c,d=c+1:=⟨d-1,by omega⟩
 have hW:V<(V/4294967296^m+1)*4294967296^m:=by
  have h2:=Nat.div_add_mod V (4294967296^m)
  have h3:=Nat.mod_lt V hp
  rw[Nat.add_mul,Nat.mul_comm (V/_)]
  omega
 have hWb:4294967296*2147483648<=V/4294967296^m:=by rw[eW];omega
 have key:c*V<=U:=by
  have k1:c*V<=c*((V/4294967296^m+1)*4294967296^m):=Nat.mul_le_mul_left _ (Nat.le_of_lt hW)
  have k2:c*(V/4294967296^m+1)<=U/4294967296^m:=by
   rw[Nat.add_mul,Nat.one_mul]at h4
   rw[Nat.mul_add,Nat.mul_one]
   omega
  have k3:=Nat.mul_le_mul_right (4294967296^m) k2
  have k4:=Nat.div_mul_le_self U (4294967296^m)
  rw[Nat.mul_assoc]at k3
  omega
 have:c<=U/V:=(Nat.le_div_iff_mul_le hV0).2 key
 omega
theorem long_step (X V k:Nat) (hV:0<V):
  X/(V*4294967296^k)=X/(V*4294967296^(k+1))*4294967296+X%(V*4294967296^(k+1))/4294967296^k/V/\
  X%(V*4294967296^k)=(X%(V*4294967296^(k+1))/4294967296^k%V)*4294967296^k+X%(V*4294967296^(k+1))%4294967296^k/\
  X%(V*4294967296^(k+1))/4294967296^k<V*4294967296:=by
 have hp:0<4294967296^k:=Nat.pow_pos (by omega)
 have hb:0<V*4294967296^(k+1):=Nat.mul_pos hV (Nat.pow_pos (by omega))
 have e:V*4294967296^(k+1)=V*4294967296^k*4294967296:=by rw[Nat.pow_succ,Nat.mul_assoc]
 have hR:=Nat.mod_lt X hb
 have h3:X%(V*4294967296^(k+1))/4294967296^k<V*4294967296:=by
  rw[Nat.div_lt_iff_lt_mul hp,Nat.mul_right_comm,<-e];exact hR
 have hX:=Nat.div_add_mod X (V*4294967296^(k+1))
 generalize X/(V*4294967296^(k+1))=T at*
 generalize X%(V*4294967296^(k+1))=R at*
 have hR2:=Nat.div_add_mod R (4294967296^k)
 have hU:=Nat.div_add_mod (R/4294967296^k) V
 have hl:=Nat.mod_lt R hp
 have hm:=Nat.mod_lt (R/4294967296^k) hV
 generalize R/4294967296^k/V=q at*
 generalize R/4294967296^k%V=m at*
 generalize R/4294967296^k=U at*
 generalize R%4294967296^k=L at*
 rw[e]at hX
 generalize hp':4294967296^k=p at*
 have hVp:0<V*p:=Nat.mul_pos hV hp
 have hlow:m*p+L<V*p:=by
  have:=Nat.mul_le_mul_right p (Nat.succ_le_of_lt hm)
  rw[Nat.succ_mul]at this
  omega
 have hXe:X=(m*p+L)+V*p*(T*4294967296+q):=by
  rw[<-hX,<-hR2,<-hU,Nat.mul_add,Nat.mul_add]
  rw[show V*p*4294967296*T=V*p*(T*4294967296) by rw[Nat.mul_assoc (V*p),Nat.mul_comm 4294967296],show p*(V*q)=V*p*q by rw[<-Nat.mul_assoc,Nat.mul_comm p],Nat.mul_comm p m]
  omega
 refine⟨?_,?_,h3⟩
 ·rw[hXe,Nat.add_mul_div_left _ _ hVp,Nat.div_eq_of_lt hlow,Nat.zero_add]
 ·rw[hXe,Nat.add_mul_mod_self_left,Nat.mod_eq_of_lt hlow]
end
section
open Go Tryz
set_option maxRecDepth 100000
variable {G:World->(Nat->Prop)->Prop} (hG:GOk G)
def b130:Code:=(qi (qd f150)).getD 0 .skip
def b130i:Code:=(qi (qd f150)).getD 1 .skip
def b130r:Code:=(qi (qd f150)).getD 2 .skip
def pol130:Pol:={live:=[(6,[4,6,7,8,9,10]),(10,[4,6,7,8,9,10,12,13]),(20,[4,5,6,7,8,145,146])],own:=[26],wr:=[(188,[0]),(189,[0])]}
def u130 (qs us vs:List Int) (lq lu:Nat) (by_ n k d r:Int):LS:=⟨[.sl 0 1 0 lq,.i .i64 by_,.i .i64 n,.sl 1 1 0 lu,.lst 1 (.ints .u32 vs),.i .i64 k,.i .u64 d,.i .u64 r],[some ⟨1,.ints .u32 qs⟩,some ⟨1,.ints .u32 us⟩]⟩
theorem q130i (qs us vs:List Int) (lq lu:Nat) (by_ n k d r:Int):qe prog [] [] pol130 f150.ntmps 0 [4,6,7,8,9,10,12,13] b130i (u130 qs us vs lq lu by_ n k d r)=
 Tr.br (decide ((0:Int)<=32)) (.br (decide (0<d.fdiv ((2:Int)^min (Int.toNat 32) IntKind.u64.bits))) (.br (ib (n-1)) (.br (ix (n-1) ((vs.length:Int))) (.br (decide (0<=r+IntKind.u64.wrap (vs.getD (n-1).toNat (0:Int)))&&decide (r+IntKind.u64.wrap (vs.getD (n-1).toNat (0:Int))<=18446744073709551615)) (.br (decide ((0:Int)<=32)) (.br (decide (0<(r+IntKind.u64.wrap (vs.getD (n-1).toNat (0:Int))).fdiv ((2:Int)^min (Int.toNat 32) IntKind.u64.bits))) (.ok (.out (.exit 2) (LS.mk [.sl 0 1 0 lq,.i .i64 by_,.i .i64 n,.sl 1 1 0 lu,.lst 1 (.ints .u32 vs),.i .i64 k,.i .u64 (IntKind.u64.wrap (d-1)),.i .u64 (r+IntKind.u64.wrap (vs.getD (n-1).toNat (0:Int)))] [some (.mk 1 (.ints .u32 qs)),some (.mk 1 (.ints .u32 us))]))) (.ok (.out .normal (LS.mk [.sl 0 1 0 lq,.i .i64 by_,.i .i64 n,.sl 1 1 0 lu,.lst 1 (.ints .u32 vs),.i .i64 k,.i .u64 (IntKind.u64.wrap (d-1)),.i .u64 (r+IntKind.u64.wrap (vs.getD (n-1).toNat (0:Int)))] [some (.mk 1 (.ints .u32 qs)),some (.mk 1 (.ints .u32 us))])))) (.no 14002)) (.no 13002)) (.no 13005)) (.no 13006)) (.br (ib (n-2)) (.br (ix (n-2) ((vs.length:Int))) (.br (decide (0<=d*IntKind.u64.wrap (vs.getD (n-2).toNat (0:Int)))&&decide (d*IntKind.u64.wrap (vs.getD (n-2).toNat (0:Int))<=18446744073709551615)) (.br (decide ((0:Int)<=32)) (.br (ib (k+n)) (.br (ib (k+n-2)) (.br (ix (k+n-2) ((lu:Int))) (.br ((0+(k+n-2).toNat+1).ble us.length) (.br (decide (IntKind.u64.wrap (↑(BitVec.ofInt IntKind.u64.bits (IntKind.u64.wrap (r*2^min (Int.toNat 32) IntKind.u64.bits)) ||| BitVec.ofInt IntKind.u64.bits (IntKind.u64.wrap (us.getD (0+(k+n-2).toNat) (0:Int)))).toNat:Int)<d*IntKind.u64.wrap (vs.getD (n-2).toNat (0:Int)))) (.br (ib (n-1)) (.br (ix (n-1) ((vs.length:Int))) (.br (decide (0<=r+IntKind.u64.wrap (vs.getD (n-1).toNat (0:Int)))&&decide (r+IntKind.u64.wrap (vs.getD (n-1).toNat (0:Int))<=18446744073709551615)) (.br (decide ((0:Int)<=32)) (.br (decide (0<(r+IntKind.u64.wrap (vs.getD (n-1).toNat (0:Int))).fdiv ((2:Int)^min (Int.toNat 32) IntKind.u64.bits))) (.ok (.out (.exit 2) (LS.mk [.sl 0 1 0 lq,.i .i64 by_,.i .i64 n,.sl 1 1 0 lu,.lst 1 (.ints .u32 vs),.i .i64 k,.i .u64 (IntKind.u64.wrap (d-1)),.i .u64 (r+IntKind.u64.wrap (vs.getD (n-1).toNat (0:Int)))] [some (.mk 1 (.ints .u32 qs)),some (.mk 1 (.ints .u32 us))]))) (.ok (.out .normal (LS.mk [.sl 0 1 0 lq,.i .i64 by_,.i .i64 n,.sl 1 1 0 lu,.lst 1 (.ints .u32 vs),.i .i64 k,.i .u64 (IntKind.u64.wrap (d-1)),.i .u64 (r+IntKind.u64.wrap (vs.getD (n-1).toNat (0:Int)))] [some (.mk 1 (.ints .u32 qs)),some (.mk 1 (.ints .u32 us))])))) (.no 14002)) (.no 13002)) (.no 13005)) (.no 13006)) (.ok (.out (.exit 2) (LS.mk [.sl 0 1 0 lq,.i .i64 by_,.i .i64 n,.sl 1 1 0 lu,.lst 1 (.ints .u32 vs),.i .i64 k,.i .u64 d,.i .u64 r] [some (.mk 1 (.ints .u32 qs)),some (.mk 1 (.ints .u32 us))])))) (.no 11005)) (.no 11006)) (.no 11007)) (.no 11008)) (.no 11012)) (.no 11014)) (.no 11017)) (.no 11018))) (.no 11024):=by kernel_rfl
def t130 (qs us vs:List Int) (lq lu:Nat) (by_ n k:Int):LS:=⟨[.sl 0 1 0 lq,.i .i64 by_,.i .i64 n,.sl 1 1 0 lu,.lst 1 (.ints .u32 vs),.i .i64 k],[some ⟨1,.ints .u32 qs⟩,some ⟨1,.ints .u32 us⟩]⟩
def w130 (qs us:List Int) (lq lr lu:Nat) (by_ n m i:Int):LS:=⟨[.sl 0 1 0 lq,.sl 1 1 0 lr,.i .i64 by_,.i .i64 n,.sl 1 1 0 lu,.i .i64 m,.i .i64 i],[some ⟨1,.ints .u32 qs⟩,some ⟨1,.ints .u32 us⟩]⟩
theorem q130r (qs us:List Int) (lq lr lu:Nat) (by_ n m i:Int):qe prog [] [] pol130 f150.ntmps 0 [4,5,6,7,8,145,146] b130r (w130 qs us lq lr lu by_ n m i)=
 Tr.br (decide (i<m)) (.br (ix (i) ((lr:Int))) (.br ((0+i.toNat+1).ble us.length) (.br (decide (0<=by_)) (.br (ix (i) ((lr:Int))) (.br ((0+i.toNat+1).ble us.length) (.br (ib (i+1)) (.br (decide (i+1<n)) (.br (ix (i) ((lr:Int))) (.br ((0+i.toNat+1).ble (us.set (0+i.toNat) ((us.getD (0+i.toNat) (0:Int)).fdiv ((2:Int)^min by_.toNat IntKind.u32.bits))).length) (.br (ib (i+1)) (.br (ix (i+1) ((lu:Int))) (.br ((0+(i+1).toNat+1).ble (us.set (0+i.toNat) ((us.getD (0+i.toNat) (0:Int)).fdiv ((2:Int)^min by_.toNat IntKind.u32.bits))).length) (.br (ib (32-by_)) (.br (decide ((0:Int)<=32-by_)) (.br (ix (i) ((lr:Int))) (.br ((0+i.toNat+1).ble (us.set (0+i.toNat) ((us.getD (0+i.toNat) (0:Int)).fdiv ((2:Int)^min by_.toNat IntKind.u32.bits))).length) (.br (ib (i+1)) (.ok (.out .normal (LS.mk [.sl 0 1 0 lq,.sl 1 1 0 lr,.i .i64 by_,.i .i64 n,.sl 1 1 0 lu,.i .i64 m,.i .i64 (i+1)] [some (.mk 1 (.ints .u32 qs)),some (.mk 1 (.ints .u32 ((us.set (0+i.toNat) ((us.getD (0+i.toNat) (0:Int)).fdiv ((2:Int)^min by_.toNat IntKind.u32.bits))).set (0+i.toNat) (IntKind.u32.wrap (↑(BitVec.ofInt IntKind.u32.bits ((us.set (0+i.toNat) ((us.getD (0+i.toNat) (0:Int)).fdiv ((2:Int)^min by_.toNat IntKind.u32.bits))).getD (0+i.toNat) (0:Int)) ||| BitVec.ofInt IntKind.u32.bits (IntKind.u32.wrap (IntKind.u64.wrap (IntKind.u64.wrap ((us.set (0+i.toNat) ((us.getD (0+i.toNat) (0:Int)).fdiv ((2:Int)^min by_.toNat IntKind.u32.bits))).getD (0+(i+1).toNat) (0:Int))*2^min (32-by_).toNat IntKind.u64.bits)))).toNat:Int)))))]))) (.no 26002)) (.no 25001)) (.no 25002)) (.no 25005)) (.no 25006)) (.no 25009)) (.no 25010)) (.no 25011)) (.no 25014)) (.no 25015)) (.br (ib (i+1)) (.ok (.out .normal (LS.mk [.sl 0 1 0 lq,.sl 1 1 0 lr,.i .i64 by_,.i .i64 n,.sl 1 1 0 lu,.i .i64 m,.i .i64 (i+1)] [some (.mk 1 (.ints .u32 qs)),some (.mk 1 (.ints .u32 (us.set (0+i.toNat) ((us.getD (0+i.toNat) (0:Int)).fdiv ((2:Int)^min by_.toNat IntKind.u32.bits)))))]))) (.no 26002))) (.no 24003)) (.no 23001)) (.no 23002)) (.no 23003)) (.no 23005)) (.no 23006)) (.ok (.out (.exit 4) (LS.mk [.sl 0 1 0 lq,.sl 1 1 0 lr,.i .i64 by_,.i .i64 n,.sl 1 1 0 lu,.i .i64 m,.i .i64 i] [some (.mk 1 (.ints .u32 qs)),some (.mk 1 (.ints .u32 us))]))):=by kernel_rfl
def Q130i (us vs:List Int) (lu:Nat) (n k d r:Int) (e r':Nat):Prop:=∃ m j d0 r0:Nat,n=(m:Int)/\k=(j:Int)/\d=(d0:Int)/\r=(r0:Int)/\2<=m/\m=vs.length/\j+m<us.length/\lu=us.length/\us.length<=1073741824/\isD us/\isD vs/\r0<4294967296/\d0<=4294967297/\2147483648<=vs.getD (m-1) 0/\
 est (vs.getD (m-1) 0).toNat (vs.getD (m-2) 0).toNat (us.getD (j+m-2) 0).toNat 2 d0 r0=(e,r')
def l130i (e r':Nat):qA:=fun ls K=>match ls with
 | ⟨[.sl 0 1 0 lq,.i .i64 by_,.i .i64 n,.sl 1 1 0 lu,.lst 1 (.ints .u32 vs),.i .i64 k,.i .u64 d,.i .u64 r],[some ⟨1,.ints .u32 qs⟩,some ⟨1,.ints .u32 us⟩]⟩=>
  .br (qg (Q130i us vs lu n k d r e r')) (K (.exit 2) (u130 qs us vs lq lu by_ n k (e:Nat) (r':Nat))) (.no 1)
 | _=>.no 1
def C143 (o l:Nat) (vs:List Int) (d:Int) (L R:List Int) (nb:Bool):Prop:=l=vs.length+1/\o+l<=L.length/\L.length<=1073741824/\0<=d/\d<4294967296/\isD vs/\isD L/\nb=decide (segV o l L<d.toNat*lv 4294967296 vs)/\R=putSeg o l L (tkV l d (lv 4294967296 vs) (segV o l L))
def v143 (R:List Int) (nb:Bool):Spec:=fun args hs K=>match args,hs with
 | [.sl 0 1 o l,.lst 1 (.ints .u32 vs),.i .u64 d],[⟨1,.ints .u32 L⟩]=>.br (qg (C143 o l vs d L R nb)) (K (.b nb) [⟨1,.ints .u32 R⟩]) (.no 1)
 | _,_=>.no 1
include hG in
theorem vk143 (R:List Int) (nb:Bool):qc prog G 188 (v143 R nb):=by
 intro args hs K x h
 unfold v143 at h
 split at h
 case h_2=>cases h
 obtain⟨hc,hr⟩:=k8 h
 obtain⟨h1,h2,h3,h4,h5,h6,h7,rfl,rfl⟩:=decP_iff.1 hc
 refine gk143 hG _ _ K x ?_
 show(Tr.br _ _ _).run=_
 rw[k5 (by simp only[kD,kE,allD_iff];exact⟨⟨⟨⟨⟨⟨h1,h2⟩,h3⟩,h4⟩,h5⟩,h6⟩,h7⟩)]
 exact hr
def C144 (o l:Nat) (vs:List Int) (L R:List Int):Prop:=l=vs.length+1/\o+l<=L.length/\L.length<=1073741824/\isD vs/\isD L/\R=putSeg o l L ((segV o l L+lv 4294967296 vs)%4294967296^l)
def v144 (R:List Int):Spec:=fun args hs K=>match args,hs with
 | [.sl 0 1 o l,.lst 1 (.ints .u32 vs)],[⟨1,.ints .u32 L⟩]=>.br (qg (C144 o l vs L R)) (K (.tup []) [⟨1,.ints .u32 R⟩]) (.no 1)
 | _,_=>.no 1
include hG in
theorem vk144 (R:List Int):qc prog G 189 (v144 R):=by
 intro args hs K x h
 unfold v144 at h
 split at h
 case h_2=>cases h
 obtain⟨hc,hr⟩:=k8 h
 obtain⟨h1,h2,h3,h4,h5,rfl⟩:=decP_iff.1 hc
 refine gk144 hG _ _ K x ?_
 show(Tr.br _ _ _).run=_
 rw[k5 (by simp only[kD,kE,allD_iff];exact⟨⟨⟨⟨h1,h2⟩,h3⟩,h4⟩,h5⟩)]
 exact hr
def O130 (u1 u2:List Int) (nb:Bool):Orc:=[(186,g141),(187,g142),(188,v143 u1 nb),(189,v144 u2)]
theorem q130 (qs us vs u1 u2:List Int) (nb:Bool) (e r' lq lu:Nat) (by_ n k:Int):qe prog (O130 u1 u2 nb) [(10,l130i e r')] pol130 f150.ntmps 0 [4,6,7,8,9,10] b130 (t130 qs us vs lq lu by_ n k)=
 Tr.br (decide (0<=k)) (.br (ib (k+n)) (.br (ix (k+n) ((lu:Int))) (.br ((0+(k+n).toNat+1).ble us.length) (.br (decide ((0:Int)<=32)) (.br (ib (k+n)) (.br (ib (k+n-1)) (.br (ix (k+n-1) ((lu:Int))) (.br ((0+(k+n-1).toNat+1).ble us.length) (.br (ib (n-1)) (.br (ix (n-1) ((vs.length:Int))) (.br (!decide (IntKind.u64.wrap (vs.getD (n-1).toNat (0:Int))=0)) (.br (ib (n-1)) (.br (ix (n-1) ((vs.length:Int))) (.br (!decide (IntKind.u64.wrap (vs.getD (n-1).toNat (0:Int))=0)) (.br (qg (Q130i us vs lu n k (IntKind.u64.wrap ((IntKind.u64.wrap (↑(BitVec.ofInt IntKind.u64.bits (IntKind.u64.wrap (IntKind.u64.wrap (us.getD (0+(k+n).toNat) (0:Int))*2^min (Int.toNat 32) IntKind.u64.bits)) ||| BitVec.ofInt IntKind.u64.bits (IntKind.u64.wrap (us.getD (0+(k+n-1).toNat) (0:Int)))).toNat:Int)).tdiv (IntKind.u64.wrap (vs.getD (n-1).toNat (0:Int))))) ((IntKind.u64.wrap (↑(BitVec.ofInt IntKind.u64.bits (IntKind.u64.wrap (IntKind.u64.wrap (us.getD (0+(k+n).toNat) (0:Int))*2^min (Int.toNat 32) IntKind.u64.bits)) ||| BitVec.ofInt IntKind.u64.bits (IntKind.u64.wrap (us.getD (0+(k+n-1).toNat) (0:Int)))).toNat:Int)).tmod (IntKind.u64.wrap (vs.getD (n-1).toNat (0:Int)))) e r')) (.br (ib (k+n)) (.br (ib (k+n+1)) (.br (decide (0<=k)&&decide (k<=k+n+1)&&decide (k+n+1<=(lu:Int))) (.br (qg (C143 (0+k.toNat) ((k+n+1).toNat-k.toNat) vs (e:Int) us u1 nb)) (.br nb (.br (ib (k+n)) (.br (ib (k+n+1)) (.br (decide (0<=k)&&decide (k<=k+n+1)&&decide (k+n+1<=(lu:Int))) (.br (qg (C144 (0+k.toNat) ((k+n+1).toNat-k.toNat) vs u1 u2)) (.br (ix (k) ((lq:Int))) (.br ((0+k.toNat+1).ble qs.length) (.br (ib (k-1)) (.ok (.out .normal (LS.mk [.sl 0 1 0 lq,.i .i64 by_,.i .i64 n,.sl 1 1 0 lu,.lst 1 (.ints .u32 vs),.i .i64 (k-1)] [some (.mk 1 (.ints .u32 (qs.set (0+k.toNat) (IntKind.u32.wrap (IntKind.u64.wrap ((e:Int)-1)))))),some (.mk 1 (.ints .u32 u2))]))) (.no 8002)) (.no 18001)) (.no 18002)) (.no 1)) (.no 17003)) (.no 17004)) (.no 17005)) (.br (ix (k) ((lq:Int))) (.br ((0+k.toNat+1).ble qs.length) (.br (ib (k-1)) (.ok (.out .normal (LS.mk [.sl 0 1 0 lq,.i .i64 by_,.i .i64 n,.sl 1 1 0 lu,.lst 1 (.ints .u32 vs),.i .i64 (k-1)] [some (.mk 1 (.ints .u32 (qs.set (0+k.toNat) (IntKind.u32.wrap (e:Int))))),some (.mk 1 (.ints .u32 u1))]))) (.no 8002)) (.no 18001)) (.no 18002))) (.no 1)) (.no 15004)) (.no 15005)) (.no 15006)) (.no 1)) (.no 10003)) (.no 10006)) (.no 10007)) (.no 10011)) (.no 10014)) (.no 10015)) (.no 9004)) (.no 9005)) (.no 9006)) (.no 9007)) (.no 9011)) (.no 9013)) (.no 9014)) (.no 9015)) (.ok (.out (.exit 0) (LS.mk [.sl 0 1 0 lq,.i .i64 by_,.i .i64 n,.sl 1 1 0 lu,.lst 1 (.ints .u32 vs),.i .i64 k] [some (.mk 1 (.ints .u32 qs)),some (.mk 1 (.ints .u32 us))]))):=by kernel_rfl
theorem enter130:Enters prog 150 f150 (qd f150):=⟨func150,by kernel_rfl,rfl⟩
include hG in
theorem goes130i (qs us vs:List Int) (lq lu:Nat) (by_:Int) (m j V1 V2 U2:Nat) (hm2:2<=m) (hm:m=vs.length) (hj:j+m<us.length) (hlu:lu=us.length) (hus:us.length<=1073741824)
  (h1:vs.getD (m-1) 0=(V1:Int)) (h2:vs.getD (m-2) 0=(V2:Int)) (h3:us.getD (j+m-2) 0=(U2:Int)) (hV1:V1<4294967296) (hV2:V2<4294967296) (hU2:U2<4294967296) (e r':Nat):
  ∀ f d r:Nat,r<4294967296->4294967296<=r+f*V1->d<=4294967297->est V1 V2 U2 f d r=(e,r')->
  Goes (Rnd prog G f150.ntmps 0 [4,6,7,8,9,10,12,13] b130i) (u130 qs us vs lq lu by_ (m:Nat) (j:Nat) (d:Nat) (r:Nat)) (.exit 2) (u130 qs us vs lq lu by_ (m:Nat) (j:Nat) (e:Nat) (r':Nat))
 | 0,d,r,hr,hf,_,_=>by omega
 | f+1,d,r,hr,hf,hd,he=>by
  have t1:(((m:Nat):Int)-1).toNat=m-1:=by omega
  have t2:(((m:Nat):Int)-2).toNat=m-2:=by omega
  have t3:0+(((j:Nat):Int)+((m:Nat):Int)-2).toNat=j+m-2:=by omega
  have w:∀ k:Nat,k<4294967296->IntKind.u64.wrap ((k:Nat):Int)=((k:Nat):Int):=fun k hk=>qJ (by omega)
  have em:min (Int.toNat (32:Int)) IntKind.u64.bits=32:=rfl
  have hor:IntKind.u64.wrap ((BitVec.ofInt IntKind.u64.bits (IntKind.u64.wrap ((r:Int)*(2:Int)^min (Int.toNat (32:Int)) IntKind.u64.bits)) ||| BitVec.ofInt IntKind.u64.bits (IntKind.u64.wrap ((U2:Nat):Int))).toNat:Int)=((r*4294967296+U2:Nat):Int):=by
   rw[em,w U2 hU2,u64_id (n:=(r:Int)*2^32) (by omega) (by omega),or64 32 _ _ (by omega) (by omega) (by omega) (by omega)]
   omega
  have rs:(r:Int)+(V1:Int)=((r+V1:Nat):Int):=by omega
  unfold est at he
  -- the end of a round that lowers the estimate
  by_cases hc:4294967296<=d\/r*4294967296+U2<d*V2
  ·rw[if_pos hc]at he
   have hd1:1<=d:=by
    rcases hc with h|h
    ·omega
    ·rcases Nat.eq_zero_or_pos d with h0|h0
     ·subst h0;omega
     ·exact h0
   have ed:IntKind.u64.wrap ((d:Int)-1)=((d-1:Nat):Int):=by rw[u64_id (by omega) (by omega)];omega
   have step:∀ ex:Exit,(if 4294967296<=r+V1 then ex=.exit 2 else ex=.normal)->Rnd prog G f150.ntmps 0 [4,6,7,8,9,10,12,13] b130i (u130 qs us vs lq lu by_ (m:Nat) (j:Nat) (d:Nat) (r:Nat)) ex (u130 qs us vs lq lu by_ (m:Nat) (j:Nat) ((d-1:Nat):Int) ((r+V1:Nat):Int)):=by
    intro ex hex
    refine qb hG OrcOK.nil mix (L:=[]) (pol:=pol130) (O:=[]) (kA (by kernel_rfl)) (Nat.zero_le _) ?_
    rw[q130i,t1,t2,t3,h1,h2,h3,hor,w V1 hV1,w V2 hV2,rs,ed,fdiv32,fdiv32]
    have e32:(decide ((0:Int)<=32))=true:=rfl
    rw[k5 e32]
    by_cases hdB:4294967296<=d
    ·rw[k5 (kF (by omega)),k5 (by simp only[kD,kE];omega),k5 (by simp only[kD,kE];omega),k5 (by simp only[kD,kE];omega),k5 e32]
     by_cases hb:4294967296<=r+V1
     ·rw[if_pos hb]at hex;subst hex
      rw[k5 (kF (by omega)),k7];rfl
     ·rw[if_neg hb]at hex;subst hex
      rw[k6 (kG (by omega)),k7];rfl
    ·have hlt:=hc.resolve_left hdB
     have hdv:d*V2<=4294967296*4294967295:=Nat.mul_le_mul (by omega) (by omega)
     have hdvi:(d:Int)*(V2:Int)=((d*V2:Nat):Int):=by simp
     rw[hdvi,k6 (kG (by omega)),k5 (by simp only[kD,kE];omega),k5 (by simp only[kD,kE];omega),k5 (by simp only[kD,kE];omega),k5 e32,
      k5 (by simp only[kD,kE];omega),k5 (by simp only[kD,kE];omega),k5 (by simp only[kD,kE];omega),k5 (by rw[kH];omega),k5 (kF (by omega)),
      k5 (by simp only[kD,kE];omega),k5 (by simp only[kD,kE];omega),k5 (by simp only[kD,kE];omega),k5 e32]
     by_cases hb:4294967296<=r+V1
     ·rw[if_pos hb]at hex;subst hex
      rw[k5 (kF (by omega)),k7];rfl
     ·rw[if_neg hb]at hex;subst hex
      rw[k6 (kG (by omega)),k7];rfl
   by_cases hb:4294967296<=r+V1
   ·rw[if_pos hb]at he
    obtain⟨rfl,rfl⟩:=Prod.mk.inj he
    exact .last _ _ _ (step _ (by rw[if_pos hb])) (by simp)
   ·rw[if_neg hb]at he
    exact .more _ _ _ _ (step _ (by rw[if_neg hb])) (goes130i qs us vs lq lu by_ m j V1 V2 U2 hm2 hm hj hlu hus h1 h2 h3 hV1 hV2 hU2 e r' f (d-1) (r+V1) (by omega) (by rw[Nat.add_mul,Nat.one_mul]at hf;omega) (by omega) he)
  ·rw[if_neg hc]at he
   obtain⟨rfl,rfl⟩:=Prod.mk.inj he
   refine .last _ _ _ (qb hG OrcOK.nil mix (L:=[]) (pol:=pol130) (O:=[]) (kA (by kernel_rfl)) (Nat.zero_le _) ?_) (by simp)
   have hdv:d*V2<=4294967296*4294967295:=Nat.mul_le_mul (by omega) (by omega)
   have hdvi:(d:Int)*(V2:Int)=((d*V2:Nat):Int):=by simp
   have e32:(decide ((0:Int)<=32))=true:=rfl
   rw[q130i,t1,t2,t3,h1,h2,h3,hor,w V1 hV1,w V2 hV2,fdiv32,k5 e32,hdvi,k6 (kG (by omega)),k5 (by simp only[kD,kE];omega),k5 (by simp only[kD,kE];omega),k5 (by simp only[kD,kE];omega),k5 e32,
      k5 (by simp only[kD,kE];omega),k5 (by simp only[kD,kE];omega),k5 (by simp only[kD,kE];omega),k5 (by rw[kH];omega),k6 (kG (by omega)),k7]
   rfl
theorem dig_at {zs:List Int} (h:isD zs) {i:Nat} (hi:i<zs.length):∃ z:Nat,zs.getD i 0=(z:Int)/\z<4294967296:=by
 rw[List.getD_eq_getElem?_getD,List.getElem?_eq_getElem hi]
 have:=h _ (List.getElem_mem hi)
 exact⟨zs[i].toNat,by simp;omega,by omega⟩
include hG in
theorem loop130i (e r':Nat):qz prog G f150.ntmps 0 [4,6,7,8,9,10,12,13] b130i (l130i e r'):=by
 intro ls K x hm h
 unfold l130i at h
 split at h
 case h_2=>cases h
 rename_i lq by_ n lu vs k d r qs us
 obtain⟨hc,hr⟩:=k8 h
 obtain⟨m,j,d0,r0,rfl,rfl,rfl,rfl,h1,h2,h3,h4,h5,h6,h7,h8,h9,h10,h11⟩:=decP_iff.1 hc
 obtain⟨V1,e1,b1⟩:=dig_at h7 (i:=m-1) (by omega)
 obtain⟨V2,e2,b2⟩:=dig_at h7 (i:=m-2) (by omega)
 obtain⟨U2,e3,b3⟩:=dig_at h6 (i:=j+m-2) (by omega)
 rw[e1,e2,e3,Int.toNat_natCast,Int.toNat_natCast,Int.toNat_natCast]at h11
 rw[e1]at h10
 exact⟨_,_,qx (goes130i hG qs us vs lq lu by_ m j V1 V2 U2 h1 h2 h3 h4 h5 e1 e2 e3 b1 b2 b3 e r' 2 d0 r0 h8 (by omega) h9 h11),hr⟩
theorem lv_pd_mod {B:Nat} (hB:0<B):∀ (L n:Nat),lv B (pd B L n)=n%B^L
 | 0,n=>by rw[Nat.pow_zero,Nat.mod_one];rfl
 | L+1,n=>by
  rw[pd_succ]
  simp only[lv,Int.toNat_natCast]
  rw[lv_pd_mod hB L,Nat.pow_succ,Nat.mul_comm (B^L),Nat.mod_mul]
theorem pd_take {B L n o:Nat} (h:o<=L):(pd B L n).take o=pd B o n:=by
 apply List.ext_getElem
 ·simp[pd];omega
 ·intro j h1 h2;simp[pd]
theorem pd_drop {B L n o:Nat}:(pd B L n).drop o=pd B (L-o) (n/B^o):=by
 apply List.ext_getElem
 ·simp[pd]
 ·intro j h1 h2
  simp only[List.getElem_drop,pd,List.getElem_map,List.getElem_range,Nat.pow_add,Nat.div_div_eq_div_mul]
theorem segV_pd {L N o n:Nat} (h:o+n<=L):segV o n (pd 4294967296 L N)=N/4294967296^o%4294967296^n:=by
 unfold segV
 rw[pd_drop,pd_take (by omega),lv_pd_mod (by omega)]
theorem putSeg_pd {L N o n v:Nat} (h:o+n<=L) (hN:N<4294967296^L) (hv:v<4294967296^n):putSeg o n (pd 4294967296 L N) v=pd 4294967296 L (N%4294967296^o+v*4294967296^o+N/4294967296^(o+n)*4294967296^(o+n)):=by
 refine dig_of (isD_putSeg (isD_pd _ _)) (by rw[putSeg_len (by rw[qn];exact h),qn]) ?_
 unfold putSeg
 have hq:N/4294967296^(o+n)<4294967296^(L-(o+n)):=by
  rw[Nat.div_lt_iff_lt_mul (Nat.pow_pos (by omega)),<-Nat.pow_add,show L-(o+n)+(o+n)=L by omega];exact hN
 rw[lv_append,lv_append,List.length_append,pd_take (by omega),pd_drop,qn,qn,lv_pd_mod (by omega),lv_pd_mod (by omega),lv_pd_mod (by omega),Nat.mod_eq_of_lt hv,Nat.mod_eq_of_lt hq,Nat.mul_comm v,Nat.mul_comm (N/_)]
theorem pd_dig {L N k j:Nat} (h:k+j<L):(pd 4294967296 L N).getD (k+j) 0=((N/4294967296^k/4294967296^j%4294967296:Nat):Int):=by
 rw[pd_getD h,Nat.pow_add,Nat.div_div_eq_div_mul]
def s130 (X V n lq lu:Nat) (by_:Int) (k:Nat):LS:=t130 (pd 4294967296 lq (X/(V*4294967296^k)*4294967296^k)) (pd 4294967296 lu (X%(V*4294967296^k))) (pd 4294967296 n V) lq lu by_ (n:Nat) ((k:Nat)-1)
include hG in
theorem lps130 {m:Nat} (hm:m=0) (e r':Nat):LpsOK prog G pol130 f150.ntmps m [(10,l130i e r')] b130:=by
 subst hm
 exact qN (b:=b130i) (live:=[4,6,7,8,9,10,12,13]) (sp:=l130i e r') (by kernel_rfl) (by kernel_rfl) (by kernel_rfl) (loop130i hG e r')
include hG in
theorem orc130 (u1 u2:List Int) (nb:Bool):OrcOK prog G (O130 u1 u2 nb):=.cons (gk141 hG) (.cons (gk142 hG) (.cons (vk143 hG u1 nb) (.cons (vk144 hG u2) .nil)))
theorem lt_pow_of_div {x n:Nat} (h:x<4294967296^(n+1)):x/4294967296^n<4294967296:=by
 rw[Nat.div_lt_iff_lt_mul (Nat.pow_pos (by omega)),<-Nat.pow_succ'];exact h
theorem Q130i_ok {us vs:List Int} {lu n k V1 V2 U2 top e r':Nat} (hn:2<=n) (hv:n=vs.length) (hk:k+n<us.length) (hlu:lu=us.length) (hs:us.length<=1073741824) (hu:isD us) (hvs:isD vs) (h1:vs.getD (n-1) 0=(V1:Int)) (h2:vs.getD (n-2) 0=(V2:Int)) (h3:us.getD (k+n-2) 0=(U2:Int))
  (hV1:2147483648<=V1) (hV1b:V1<4294967296) (htop:top/V1<=4294967297) (he:est V1 V2 U2 2 (top/V1) (top%V1)=(e,r')):qg (Q130i us vs lu (n:Nat) (k:Nat) ((top/V1:Nat):Int) ((top%V1:Nat):Int) e r')=true:=by
 have hr:=Nat.mod_lt top (show 0<V1 by omega)
 refine decP_iff.2 ⟨n,k,_,_,rfl,rfl,rfl,rfl,hn,hv,hk,hlu,hs,hu,hvs,by omega,htop,by rw[h1];omega,?_⟩
 rw[h1,h2,h3,Int.toNat_natCast,Int.toNat_natCast,Int.toNat_natCast]
 exact he
theorem top_bd {U V n:Nat} (hn:2<=n) (hV1:2147483648<=V/4294967296^(n-1)) (hU:U<V*4294967296):U/4294967296^(n-1)/(V/4294967296^(n-1))<=4294967297:=by
 have hp1:0<4294967296^(n-1):=Nat.pow_pos (by omega)
 have htop:U/4294967296^(n-1)<(V/4294967296^(n-1)+1)*4294967296:=by
  rw[Nat.div_lt_iff_lt_mul hp1]
  have h1:V<(V/4294967296^(n-1)+1)*4294967296^(n-1):=by
   have h2:=Nat.div_add_mod V (4294967296^(n-1))
   have h3:=Nat.mod_lt V hp1
   rw[Nat.add_mul,Nat.mul_comm (V/_)]
   omega
  have h2:V*4294967296<=(V/4294967296^(n-1)+1)*4294967296^(n-1)*4294967296:=Nat.mul_le_mul_right _ (Nat.le_of_lt h1)
  rw[Nat.mul_right_comm (V/4294967296^(n-1)+1) 4294967296]
  exact Nat.lt_of_lt_of_le hU h2
 generalize U/4294967296^(n-1)=top at*
 generalize V/4294967296^(n-1)=v at*
 have:top/v<4294967298:=by
  rw[Nat.div_lt_iff_lt_mul (by omega)];omega
 omega
include hG in
theorem round130' (R V n lq lu:Nat) (by_:Int) (k T:Nat) (hn:2<=n) (hk:k<lq) (hlu:lu=lq+n) (hs:lu<=1073741824) (hV:V<4294967296^n) (hV1:2147483648<=V/4294967296^(n-1)) (hU:R/4294967296^k<V*4294967296) (hR:R<4294967296^lu) (hT:T*4294967296^(k+1)<4294967296^lq):
  Rnd prog G f150.ntmps 0 [4,6,7,8,9,10] b130 (t130 (pd 4294967296 lq (T*4294967296^(k+1))) (pd 4294967296 lu R) (pd 4294967296 n V) lq lu by_ (n:Nat) (k:Nat)) .normal
   (t130 (pd 4294967296 lq ((T*4294967296+R/4294967296^k/V)*4294967296^k)) (pd 4294967296 lu (R/4294967296^k%V*4294967296^k+R%4294967296^k)) (pd 4294967296 n V) lq lu by_ (n:Nat) ((k:Nat)-1)):=by
 have hV0:0<V:=by
  rcases Nat.eq_zero_or_pos V with h|h
  ·rw[h,Nat.zero_div]at hV1;omega
  ·exact h
 have hpk:0<4294967296^k:=Nat.pow_pos (by omega)
 have hUn:R/4294967296^k<4294967296^(n+1):=by
  rw[Nat.pow_succ]
  exact Nat.lt_of_lt_of_le hU (Nat.mul_le_mul_right _ (Nat.le_of_lt hV))
 have hRhi:R/4294967296^(k+(n+1))=0:=by
  rw[Nat.pow_add,<-Nat.div_div_eq_div_mul,Nat.div_eq_of_lt hUn]
 obtain⟨e,r',h1,h2,h3,h4⟩:=est_digit hn hV hV1 hU
 -- digits
 have dn:(pd 4294967296 lu R).getD (k+n) 0=((R/4294967296^k/4294967296^n:Nat):Int):=by
  rw[pd_dig (by omega),Nat.mod_eq_of_lt (lt_pow_of_div hUn)]
 have dn1:=pd_dig (L:=lu) (N:=R) (k:=k) (j:=n-1) (by omega)
 have dn2:=pd_dig (L:=lu) (N:=R) (k:=k) (j:=n-2) (by omega)
 have hVb:V/4294967296^(n-1)<4294967296:=lt_pow_of_div (by rw[show n-1+1=n by omega];exact hV)
 have vn1:(pd 4294967296 n V).getD (n-1) 0=((V/4294967296^(n-1):Nat):Int):=by
  rw[pd_getD (by omega),Nat.mod_eq_of_lt hVb]
 have vn2:(pd 4294967296 n V).getD (n-2) 0=((V/4294967296^(n-2)%4294967296:Nat):Int):=pd_getD (by omega)
 have hseg:segV k (n+1) (pd 4294967296 lu R)=R/4294967296^k:=by
  rw[segV_pd (by omega),Nat.mod_eq_of_lt hUn]
 have hput:∀ v,v<4294967296^(n+1)->putSeg k (n+1) (pd 4294967296 lu R) v=pd 4294967296 lu (v*4294967296^k+R%4294967296^k):=by
  intro v hv
  rw[putSeg_pd (by omega) hR hv,hRhi,Nat.zero_mul,Nat.add_zero,Nat.add_comm]
 have hlen:=qn 4294967296 lu R
 have hVl:=lv_pd (B:=4294967296) (by omega) n V hV
 have hset:∀ d:Nat,d<4294967296->(pd 4294967296 lq (T*4294967296^(k+1))).set k ((d:Nat):Int)=pd 4294967296 lq ((T*4294967296+d)*4294967296^k):=by
  intro d hd
  refine dig_of (isD_set (isD_pd _ _) (by omega) _) (by rw[List.length_set,qn]) ?_
  have:=lv_set 4294967296 (pd 4294967296 lq (T*4294967296^(k+1))) k ((d:Nat):Int) (by rw[qn];exact hk)
  have z:(pd 4294967296 lq (T*4294967296^(k+1))).getD k 0=0:=by
   rw[pd_getD hk,show T*4294967296^(k+1)=T*4294967296*4294967296^k by rw[Nat.pow_succ,Nat.mul_assoc,Nat.mul_comm 4294967296],Nat.mul_div_cancel _ hpk,Nat.mul_mod_left]
   rfl
  rw[z,Int.toNat_zero,Nat.zero_mul,Nat.add_zero,lv_pd (by omega) _ _ hT,Int.toNat_natCast]at this
  rw[this,Nat.add_mul,Nat.mul_assoc,<-Nat.pow_succ']
 have htop:R/4294967296^k/4294967296^n*4294967296+R/4294967296^k/4294967296^(n-1)%4294967296=R/4294967296^k/4294967296^(n-1):=by
  have hh:R/4294967296^k/4294967296^n=R/4294967296^k/4294967296^(n-1)/4294967296:=by
   rw[Nat.div_div_eq_div_mul _ (4294967296^(n-1)),<-Nat.pow_succ,show(n-1).succ=n by omega]
  rw[hh];omega
 have hTB:R/4294967296^k/4294967296^(n-1)/(V/4294967296^(n-1))<=4294967297:=top_bd hn hV1 hU
 have hUb:=lt_pow_of_div hUn
 have hmodV:=Nat.mod_lt (R/4294967296^k) hV0
 have hdm:=Nat.div_add_mod (R/4294967296^k) V
 have hL0:=Nat.mod_lt R hpk
 have eD:=Nat.mul_comm V (R/4294967296^k/V)
 generalize R/4294967296^k/4294967296^n=uh at*
 generalize hul:R/4294967296^k/4294967296^(n-1)%4294967296=ul at*
 have hulb:ul<4294967296:=by rw[<-hul];exact Nat.mod_lt _ (by omega)
 generalize htp:R/4294967296^k/4294967296^(n-1)=top at*
 have hu2b:R/4294967296^k/4294967296^(n-2)%4294967296<4294967296:=Nat.mod_lt _ (by omega)
 generalize R/4294967296^k/4294967296^(n-2)%4294967296=u2 at*
 generalize V/4294967296^(n-1)=v1 at*
 generalize V/4294967296^(n-2)%4294967296=v2 at*
 have htopb:top/v1<=4294967297:=hTB
 have t1:(((n:Nat):Int)-1).toNat=n-1:=by omega
 have t2:0+(((k:Nat):Int)+((n:Nat):Int)).toNat=k+n:=by omega
 have t3:0+(((k:Nat):Int)+((n:Nat):Int)-1).toNat=k+(n-1):=by omega
 have t4:((((k:Nat):Int)+((n:Nat):Int)+1).toNat-k)=n+1:=by omega
 have w:∀ k:Nat,k<4294967296->IntKind.u64.wrap ((k:Nat):Int)=((k:Nat):Int):=fun k hk=>qJ (by omega)
 have em:min (Int.toNat (32:Int)) IntKind.u64.bits=32:=rfl
 have hor:IntKind.u64.wrap ((BitVec.ofInt IntKind.u64.bits (IntKind.u64.wrap (IntKind.u64.wrap ((uh:Nat):Int)*(2:Int)^min (Int.toNat (32:Int)) IntKind.u64.bits)) ||| BitVec.ofInt IntKind.u64.bits (IntKind.u64.wrap ((ul:Nat):Int))).toNat:Int)=((top:Nat):Int):=by
  rw[em,w ul hulb,w uh hUb,u64_id (n:=(uh:Int)*2^32) (by omega) (by omega),or64 32 _ _ (by omega) (by omega) (by omega) (by omega)]
  omega
 have fin:∀ (nb:Bool) (u1 u2':List Int) (d:Nat),C143 k (n+1) (pd 4294967296 n V) (e:Nat) (pd 4294967296 lu R) u1 nb->(nb=true->C144 k (n+1) (pd 4294967296 n V) u1 u2')->d<4294967296->(nb=true->e=d+1)->(nb=false->e=d)->
   Rnd prog G f150.ntmps 0 [4,6,7,8,9,10] b130 (t130 (pd 4294967296 lq (T*4294967296^(k+1))) (pd 4294967296 lu R) (pd 4294967296 n V) lq lu by_ (n:Nat) (k:Nat)) .normal
   (t130 (pd 4294967296 lq ((T*4294967296+d)*4294967296^k)) (if nb=true then u2' else u1) (pd 4294967296 n V) lq lu by_ (n:Nat) ((k:Nat)-1)):=by
  intro nb u1 u2' d hC hC2 hd hd1 hd2
  refine qb hG (orc130 hG u1 u2' nb) mix (L:=[(10,l130i e r')]) (pol:=pol130) (O:=O130 u1 u2' nb) (lps130 hG rfl e r') (Nat.zero_le _) ?_
  have e32:(decide ((0:Int)<=32))=true:=rfl
  have q1:(!decide (((v1:Nat):Int)=0))=true:=by rw[kG (by omega)];rfl
  have eq1:IntKind.u64.wrap (((top:Nat):Int).tdiv ((v1:Nat):Int))=((top/v1:Nat):Int):=by rw[tdiv_nat,qJ (by omega)]
  have eq2:(((top:Nat):Int).tmod ((v1:Nat):Int))=((top%v1:Nat):Int):=tmod_nat _ _
  rw[q130,t1,t2,t3,dn,dn1,vn1,hor,w v1 hVb,eq1,eq2,Int.toNat_natCast,Nat.zero_add,t4]
  have ew:IntKind.u32.wrap (IntKind.u64.wrap ((e:Int)-1))=if nb=true then ((d:Nat):Int)else IntKind.u32.wrap (IntKind.u64.wrap ((e:Int)-1)):=by
   cases nb with
   | true=>rw[if_pos rfl,hd1 rfl,u64_id (by omega) (by omega),u32_mod];omega
   | false=>rw[if_neg (by simp)]
  repeat rw[k5 (by first|exact e32|exact q1|(simp only[kD,kE,kH,qn];omega))]
  rw[k5 (Q130i_ok hn (qn _ _ _).symm (by rw[hlen];omega) hlen.symm (by rw[hlen];exact hs) (isD_pd _ _) (isD_pd _ _) vn1 vn2 (by rw[show k+n-2=k+(n-2) by omega];exact dn2) hV1 hVb htopb h1)]
  repeat rw[k5 (by simp only[kD,kE,kH];omega)]
  rw[k5 (decP_iff.2 hC)]
  cases hnb:nb with
  | true=>
   rw[k5 rfl]
   repeat rw[k5 (by simp only[kD,kE,kH];omega)]
   rw[k5 (decP_iff.2 (hC2 hnb))]
   repeat rw[k5 (by simp only[kD,kE,kH,qn];omega)]
   rw[k7,ew,if_pos hnb,hset d hd,if_pos rfl]
   rfl
  | false=>
   rw[k6 rfl]
   repeat rw[k5 (by simp only[kD,kE,kH,qn];omega)]
   have ee:IntKind.u32.wrap ((e:Nat):Int)=((d:Nat):Int):=by rw[<-hd2 hnb,u32_mod];omega
   rw[k7,ee,hset d hd,if_neg (by simp)]
   rfl
 have hC:∀ nb u1,nb=decide (R/4294967296^k<e*V)->u1=putSeg k (n+1) (pd 4294967296 lu R) (tkV (n+1) (e:Nat) V (R/4294967296^k))->C143 k (n+1) (pd 4294967296 n V) (e:Nat) (pd 4294967296 lu R) u1 nb:=by
  intro nb u1 g1 g2
  refine⟨by rw[qn],by rw[hlen];omega,by rw[hlen];exact hs,by omega,by omega,isD_pd _ _,isD_pd _ _,?_,?_⟩
  ·rw[hseg,hVl,Int.toNat_natCast];exact g1
  ·rw[hseg,hVl];exact g2
 have hdvU:R/4294967296^k/V*V+R/4294967296^k%V=R/4294967296^k:=by omega
 generalize R/4294967296^k/V=q at*
 generalize R/4294967296^k%V=m at*
 generalize R/4294967296^k=U at*
 rcases(show e=q\/e=q+1 by omega)with he|he
 ·subst he
  have hlt:¬ U<e*V:=by omega
  have htk:tkV (n+1) (e:Nat) V U=m:=by
   unfold tkV
   rw[Int.toNat_natCast,if_neg hlt];omega
  have g:=fin false (pd 4294967296 lu (m*4294967296^k+R%4294967296^k)) [] e (hC _ _ (kG hlt).symm (by rw[htk,hput m (by rw[Nat.pow_succ];omega)])) (fun h=>by cases h) (by omega) (fun h=>by cases h) (fun _=>rfl)
  rw[if_neg (by simp)]at g
  exact g
 ·have hqe:(q+1)*V=q*V+V:=by rw[Nat.add_mul,Nat.one_mul]
  have hlt:U<e*V:=by rw[he];omega
  have hw:U+4294967296^(n+1)-e*V<4294967296^(n+1):=by omega
  have htk:tkV (n+1) (e:Nat) V U=U+4294967296^(n+1)-e*V:=by
   unfold tkV
   rw[Int.toNat_natCast,if_pos hlt]
  have hbig:V<=4294967296^(n+1):=by rw[Nat.pow_succ];omega
  have hmod:(U+4294967296^(n+1)-e*V+V)%4294967296^(n+1)=m:=by
   have:U+4294967296^(n+1)-e*V+V=m+4294967296^(n+1):=by rw[he];omega
   rw[this,Nat.add_mod_right,Nat.mod_eq_of_lt (by rw[Nat.pow_succ];omega)]
  have hu1:=hput _ hw
  have hR1:(U+4294967296^(n+1)-e*V)*4294967296^k+R%4294967296^k<4294967296^lu:=by
   have h1:=Nat.mul_le_mul_right (4294967296^k) (Nat.succ_le_of_lt hw)
   rw[Nat.succ_mul,<-Nat.pow_add]at h1
   have h2:4294967296^(n+1+k)<=4294967296^lu:=Nat.pow_le_pow_right (by omega) (by omega)
   omega
  have hC2:C144 k (n+1) (pd 4294967296 n V) (putSeg k (n+1) (pd 4294967296 lu R) (U+4294967296^(n+1)-e*V)) (pd 4294967296 lu (m*4294967296^k+R%4294967296^k)):=by
   rw[hu1]
   refine⟨by rw[qn],by rw[qn];omega,by rw[qn];exact hs,isD_pd _ _,isD_pd _ _,?_⟩
   have hd:((U+4294967296^(n+1)-e*V)*4294967296^k+R%4294967296^k)/4294967296^k=U+4294967296^(n+1)-e*V:=by
    rw[Nat.add_comm,Nat.add_mul_div_right _ _ hpk,Nat.div_eq_of_lt hL0,Nat.zero_add]
   have hm2:((U+4294967296^(n+1)-e*V)*4294967296^k+R%4294967296^k)%4294967296^k=R%4294967296^k:=by
    rw[Nat.add_comm,Nat.add_mul_mod_self_right,Nat.mod_mod]
   have hhi:((U+4294967296^(n+1)-e*V)*4294967296^k+R%4294967296^k)/4294967296^(k+(n+1))=0:=by
    rw[Nat.pow_add 4294967296 k,<-Nat.div_div_eq_div_mul _ (4294967296^k),hd,Nat.div_eq_of_lt hw]
   rw[segV_pd (by omega),hd,Nat.mod_eq_of_lt hw,hVl,hmod,putSeg_pd (by omega) hR1 (by rw[Nat.pow_succ];omega),hm2,hhi,Nat.zero_mul,Nat.add_zero,Nat.add_comm]
  have g:=fin true _ (pd 4294967296 lu (m*4294967296^k+R%4294967296^k)) q (hC _ _ (kF hlt).symm (by rw[htk])) (fun _=>hC2) (by omega) (fun _=>he) (fun h=>by cases h)
  rw[if_pos rfl]at g
  exact g
theorem unshift_digit (R s i:Nat) (hs:s<32):R/4294967296^i%4294967296/2^s+R/4294967296^(i+1)%4294967296*2^(32-s)%4294967296=R/2^s/4294967296^i%4294967296/\
  R/4294967296^i%4294967296/2^s<2^(32-s)/\R/4294967296^(i+1)%4294967296*2^(32-s)%4294967296=R/4294967296^(i+1)%2^s*2^(32-s):=by
 have hB:4294967296=2^s*2^(32-s):=by rw[<-Nat.pow_add,show s+(32-s)=32 by omega]
 have h2:0<2^s:=Nat.pow_pos (by omega)
 have h3:0<2^(32-s):=Nat.pow_pos (by omega)
 have e1:R/2^s/4294967296^i=R/4294967296^i/2^s:=by rw[Nat.div_div_eq_div_mul,Nat.mul_comm,<-Nat.div_div_eq_div_mul]
 have e2:R/4294967296^(i+1)=R/4294967296^i/4294967296:=by rw[Nat.div_div_eq_div_mul,<-Nat.pow_succ]
 rw[e1,e2]
 generalize R/4294967296^i=S
 have hlow:S%4294967296/2^s<2^(32-s):=by
  rw[Nat.div_lt_iff_lt_mul h2,Nat.mul_comm,<-hB];exact Nat.mod_lt _ (by omega)
 have hm:S/4294967296%4294967296*2^(32-s)%4294967296=S/4294967296%2^s*2^(32-s):=by
  have:∀ y:Nat,y*2^(32-s)%4294967296=y%2^s*2^(32-s):=by
   intro y
   have:=Nat.mul_mod_mul_right (2^(32-s)) y (2^s)
   rw[<-hB]at this
   exact this
  rw[this,hB,Nat.mod_mul_right_mod]
 refine⟨?_,hlow,hm⟩
 rw[hm]
 have hS:=Nat.div_add_mod S 4294967296
 have e3:S/2^s=S%4294967296/2^s+S/4294967296*2^(32-s):=by
  have:S=S%4294967296+S/4294967296*2^(32-s)*2^s:=by
   rw[Nat.mul_assoc,Nat.mul_comm (2^(32-s)),<-hB];omega
  conv=>lhs;rw[this]
  rw[Nat.add_mul_div_right _ _ h2]
 rw[e3]
 have hmm:(S%4294967296/2^s+S/4294967296*2^(32-s))%(2^(32-s)*2^s)=S%4294967296/2^s+S/4294967296%2^s*2^(32-s):=by
  rw[Nat.mod_mul,Nat.add_mul_mod_self_right,Nat.mod_eq_of_lt hlow,Nat.add_mul_div_right _ _ h3,Nat.div_eq_of_lt hlow,Nat.zero_add,Nat.mul_comm (2^(32-s))]
 have hB':2^(32-s)*2^s=4294967296:=by rw[Nat.mul_comm];exact hB.symm
 rw[hB']at hmm
 exact hmm.symm
def usR (R lu s i:Nat):List Int:=pd 4294967296 i (R/2^s)++(pd 4294967296 lu R).drop i
theorem usR_len {R lu s i:Nat} (h:i<=lu):(usR R lu s i).length=lu:=by
 unfold usR
 rw[List.length_append,List.length_drop,qn,qn];omega
theorem usR_get {R lu s i j:Nat} (h:i<=j) (hj:j<lu):(usR R lu s i).getD j 0=((R/4294967296^j%4294967296:Nat):Int):=by
 unfold usR
 rw[List.getD_eq_getElem?_getD,List.getElem?_append_right (by rw[qn];exact h),qn,List.getElem?_drop,show i+(j-i)=j by omega,<-List.getD_eq_getElem?_getD,pd_getD hj]
theorem usR_set {R lu s i:Nat} (hi:i<lu):(usR R lu s i).set i ((R/2^s/4294967296^i%4294967296:Nat):Int)=usR R lu s (i+1):=by
 unfold usR
 rw[List.set_append_right _ _ (by rw[qn];exact Nat.le_refl _),qn,Nat.sub_self]
 have hd:(pd 4294967296 lu R).drop i=((R/4294967296^i%4294967296:Nat):Int)::(pd 4294967296 lu R).drop (i+1):=by
  rw[List.drop_eq_getElem_cons (by rw[qn];exact hi)]
  congr 1
  simp[pd]
 have hp:pd 4294967296 (i+1) (R/2^s)=pd 4294967296 i (R/2^s)++[((R/2^s/4294967296^i%4294967296:Nat):Int)]:=by
  unfold pd
  rw[List.range_succ,List.map_append]
  rfl
 rw[hd,hp,List.set_cons_zero,List.append_assoc]
 rfl
include hG in
theorem round130r (qs:List Int) (R lq lu s n i:Nat) (hs:s<32) (hi:i<n) (hn:n<lu) (hl:lu<=1073741824) (hR:R<4294967296^n):
  Rnd prog G f150.ntmps 0 [4,5,6,7,8,145,146] b130r (w130 qs (usR R lu s i) lq n lu (s:Nat) (n:Nat) (n:Nat) (i:Nat)) .normal (w130 qs (usR R lu s (i+1)) lq n lu (s:Nat) (n:Nat) (n:Nat) ((i+1:Nat):Int)):=by
 refine qb hG OrcOK.nil mix (L:=[]) (pol:=pol130) (O:=[]) (kA (by kernel_rfl)) (Nat.zero_le _) ?_
 obtain⟨d1,d2,d3⟩:=unshift_digit R s i hs
 have hlen:=usR_len (R:=R) (lu:=lu) (s:=s) (i:=i) (by omega)
 have g1:=usR_get (R:=R) (lu:=lu) (s:=s) (i:=i) (j:=i) (Nat.le_refl _) (by omega)
 have g2:=usR_get (R:=R) (lu:=lu) (s:=s) (i:=i) (j:=i+1) (by omega) (by omega)
 have hset:=usR_set (R:=R) (lu:=lu) (s:=s) (i:=i) (by omega)
 have e0:0+i=i:=by omega
 have e1:0+(((i:Nat):Int)+1).toNat=i+1:=by omega
 have e2:min (Int.toNat ((s:Nat):Int)) IntKind.u32.bits=s:=by rw[Int.toNat_natCast];simp only[IntKind.bits];omega
 have e3:min ((32:Int)-((s:Nat):Int)).toNat IntKind.u64.bits=32-s:=by simp only[IntKind.bits];omega
 have e4:((i:Nat):Int)+1=((i+1:Nat):Int):=by omega
 have hr1:R/4294967296^(i+1)%4294967296<4294967296:=Nat.mod_lt _ (by omega)
 rw[q130r,Int.toNat_natCast (n:=i),e0,g1,e1,e2,fdiv_nat,e3]
 have g3:∀ v:Int,((usR R lu s i).set i v).getD (i+1) 0=((R/4294967296^(i+1)%4294967296:Nat):Int):=by
  intro v
  rw[List.getD_eq_getElem?_getD,List.getElem?_set_ne (by omega),<-List.getD_eq_getElem?_getD,g2]
 have g4:∀ v:Int,((usR R lu s i).set i v).getD i 0=v:=by
  intro v
  rw[List.getD_eq_getElem?_getD,List.getElem?_set_self (by rw[hlen];omega)]
  rfl
 rw[g3,g4,List.set_set]
 rw[k5 (kF (by omega)),k5 (by simp only[kD,kE];omega),k5 (by rw[kH];omega),k5 (kF (by omega)),k5 (by simp only[kD,kE];omega),k5 (by rw[kH];omega),k5 (by simp only[kD,kE];omega)]
 by_cases hi1:i+1<n
 ·rw[k5 (kF (by omega))]
  repeat rw[k5 (by simp only[kD,kE,kH,List.length_set];omega)]
  have hpw:2^(32-s)<=4294967296:=by
   have:2^(32-s)<=2^32:=Nat.pow_le_pow_right (by omega) (by omega)
   omega
  have hmul:R/4294967296^(i+1)%4294967296*2^(32-s)<=4294967295*4294967296:=Nat.mul_le_mul (by omega) hpw
  have hsum:R/2^s/4294967296^i%4294967296<4294967296:=Nat.mod_lt _ (by omega)
  have e5:IntKind.u64.wrap ((R/4294967296^(i+1)%4294967296:Nat):Int)*(2:Int)^(32-s)=((R/4294967296^(i+1)%4294967296*2^(32-s):Nat):Int):=by
   rw[qJ (by omega)];simp
  have pc:((2^(32-s):Nat):Int)=(2:Int)^(32-s):=by simp
  have hor:IntKind.u32.wrap ((BitVec.ofInt IntKind.u32.bits ((R/4294967296^i%4294967296/2^s:Nat):Int) ||| BitVec.ofInt IntKind.u32.bits ((R/4294967296^(i+1)%4294967296*2^(32-s)%4294967296:Nat):Int)).toNat:Int)=((R/2^s/4294967296^i%4294967296:Nat):Int):=by
   rw[<-d1]at hsum ⊢
   rw[d3]at hsum ⊢
   have h:=or32c (32-s) ((R/4294967296^(i+1)%2^s:Nat):Int) ((R/4294967296^i%4294967296/2^s:Nat):Int) (Int.natCast_nonneg _) (Int.natCast_nonneg _) (by rw[<-pc];omega) (by rw[<-pc,<-Int.natCast_mul];omega)
   rw[<-pc,<-Int.natCast_mul]at h
   rw[h];omega
  rw[e5,qJ (by omega),wrap_u32_nat (R/4294967296^(i+1)%4294967296*2^(32-s)),hor,hset,k7,e4]
  rfl
 ·have hz:R/4294967296^(i+1)=0:=by rw[show i+1=n by omega];exact Nat.div_eq_of_lt hR
  rw[hz,Nat.zero_mod,Nat.zero_mul,Nat.zero_mod,Nat.add_zero]at d1
  rw[k6 (kG (by omega)),k5 (by simp only[kD,kE];omega),k7,d1,hset,e4]
  rfl
def R130 (us:List Int) (lr lu:Nat) (by_ n m i:Int) (uf:List Int):Prop:=∃ R s k:Nat,us=pd 4294967296 lu R/\by_=(s:Int)/\s<32/\n=(k:Int)/\m=(k:Int)/\i=0/\lr=k/\k<lu/\lu<=1073741824/\R<4294967296^k/\uf=usR R lu s k
def l130r (uf:List Int):qA:=fun ls K=>match ls with
 | ⟨[.sl 0 1 0 lq,.sl 1 1 0 lr,.i .i64 by_,.i .i64 n,.sl 1 1 0 lu,.i .i64 m,.i .i64 i],[some ⟨1,.ints .u32 qs⟩,some ⟨1,.ints .u32 us⟩]⟩=>
  .br (qg (R130 us lr lu by_ n m i uf)) (K (.exit 4) (w130 qs uf lq lr lu by_ n m m)) (.no 1)
 | _=>.no 1
include hG in
theorem loop130r (uf:List Int):qz prog G f150.ntmps 0 [4,5,6,7,8,145,146] b130r (l130r uf):=by
 intro ls K x hm h
 unfold l130r at h
 split at h
 case h_2=>cases h
 rename_i lq lr by_ n lu m i qs us
 obtain⟨hc,hr⟩:=k8 h
 obtain⟨R,s,k,rfl,rfl,hs,rfl,rfl,rfl,rfl,hk,hl,hR,rfl⟩:=decP_iff.1 hc
 have g:=Goes.count (R:=Rnd prog G f150.ntmps 0 [4,5,6,7,8,145,146] b130r) (fun i=>w130 qs (usR R lu s i) lq lr lu (s:Nat) (lr:Nat) (lr:Nat) ((i:Nat):Int)) (e:=.exit 4) (ls':=w130 qs (usR R lu s lr) lq lr lu (s:Nat) (lr:Nat) (lr:Nat) (lr:Nat)) (by simp) lr 0
  (fun i _ hi=>round130r hG qs R lq lu s lr i hs (by omega) hk hl hR) (by
   refine qb hG OrcOK.nil mix (L:=[]) (pol:=pol130) (O:=[]) (kA (by kernel_rfl)) (Nat.zero_le _) ?_
   rw[Nat.zero_add,q130r,k6 (kG (by omega)),k7]
   rfl)
 have e0:usR R lu s 0=pd 4294967296 lu R:=rfl
 rw[<-e0]
 exact⟨_,_,qx g,hr⟩
def M130 (qs us vs:List Int) (lq lu:Nat) (n k:Int) (qf uf:List Int):Prop:=∃ X V m:Nat,qs=List.replicate lq 0/\us=pd 4294967296 lu X/\vs=pd 4294967296 m V/\n=(m:Int)/\k=(lq:Int)-1/\2<=m/\lu=lq+m/\lu<=1073741824/\V<4294967296^m/\2147483648<=V/4294967296^(m-1)/\X<V*4294967296^lq/\X<4294967296^lu/\
 qf=pd 4294967296 lq (X/V)/\uf=pd 4294967296 lu (X%V)
def l130 (qf uf:List Int):qA:=fun ls K=>match ls with
 | ⟨[.sl 0 1 0 lq,.i .i64 by_,.i .i64 n,.sl 1 1 0 lu,.lst 1 (.ints .u32 vs),.i .i64 k],[some ⟨1,.ints .u32 qs⟩,some ⟨1,.ints .u32 us⟩]⟩=>
  .br (qg (M130 qs us vs lq lu n k qf uf)) (K (.exit 0) (t130 qf uf vs lq lu by_ n (-1))) (.no 1)
 | _=>.no 1
include hG in
theorem loop130 (qf uf:List Int):qz prog G f150.ntmps 0 [4,6,7,8,9,10] b130 (l130 qf uf):=by
 intro ls K x hm h
 unfold l130 at h
 split at h
 case h_2=>cases h
 rename_i lq by_ n lu vs k qs us
 obtain⟨hc,hr⟩:=k8 h
 obtain⟨X,V,m,rfl,rfl,rfl,rfl,rfl,h1,h2,h3,h4,h5,h6,h7,rfl,rfl⟩:=decP_iff.1 hc
 have hV0:0<V:=by
  rcases Nat.eq_zero_or_pos V with h|h
  ·rw[h,Nat.zero_div]at h5;omega
  ·exact h
 have key:∀ k,k<=lq->Goes (Rnd prog G f150.ntmps 0 [4,6,7,8,9,10] b130) (s130 X V m lq lu by_ k) (.exit 0) (t130 (pd 4294967296 lq (X/V)) (pd 4294967296 lu (X%V)) (pd 4294967296 m V) lq lu by_ (m:Nat) (-1)):=by
  intro k
  induction k with
  | zero=>
   intro _
   refine .last _ _ _ (qb hG (orc130 hG [] [] true) mix (L:=[(10,l130i 0 0)]) (pol:=pol130) (O:=O130 [] [] true) (lps130 hG rfl 0 0) (Nat.zero_le _) ?_) (by simp)
   unfold s130
   rw[Nat.pow_zero,Nat.mul_one,Nat.mul_one,q130,k6 (kG (by omega)),k7]
   rfl
  | succ k ih=>
   intro hk
   refine .more _ _ _ _ ?_ (ih (by omega))
   obtain⟨s1,s2,s3⟩:=long_step X V k hV0
   have hT:X/(V*4294967296^(k+1))*4294967296^(k+1)<4294967296^lq:=by
    have a1:X/(V*4294967296^(k+1))*(V*4294967296^(k+1))<=X:=Nat.div_mul_le_self _ _
    have a2:V*(X/(V*4294967296^(k+1))*4294967296^(k+1))<V*4294967296^lq:=by
     rw[Nat.mul_left_comm];omega
    exact Nat.lt_of_mul_lt_mul_left a2
   have hR:=Nat.lt_of_le_of_lt (Nat.mod_le X (V*4294967296^(k+1))) h7
   have g:=round130' hG (X%(V*4294967296^(k+1))) V m lq lu by_ k (X/(V*4294967296^(k+1))) h1 (by omega) h2 h3 h4 h5 s3 hR hT
   rw[<-s1,<-s2]at g
   unfold s130
   rw[show(((k+1:Nat):Int)-1)=(k:Int) by omega]
   exact g
 have g:=key lq (Nat.le_refl _)
 have e0:s130 X V m lq lu by_ lq=t130 (List.replicate lq 0) (pd 4294967296 lu X) (pd 4294967296 m V) lq lu by_ (m:Nat) ((lq:Int)-1):=by
  unfold s130
  rw[Nat.div_eq_of_lt h6,Nat.zero_mul,pd_zero,Nat.mod_eq_of_lt h6]
 rw[e0]at g
 exact⟨_,_,qx g,hr⟩
def F130:Orc:=[(186,g141),(187,g142),(188,g143),(189,g144)]
theorem p130 (xs ys qf uf uf2:List Int):evF prog F130 [(6,l130 qf uf),(20,l130r uf2)] pol130 f150 [.lst 1 (.ints .u32 xs),.lst 1 (.ints .u32 ys)] [] ql=
 Tr.br (ib ((ys.length:Int)-1)) (.br (ix ((ys.length:Int)-1) ((ys.length:Int))) (.br (ix (ys.getD ((ys.length:Int)-1).toNat (0:Int)) ((4294967296:Int))) (.br (qg (P142 xs ((32:Int)-(↑(blen (ys.getD ((ys.length:Int)-1).toNat (0:Int)).toNat):Int)))) (.br (qg (P142 ys ((32:Int)-(↑(blen (ys.getD ((ys.length:Int)-1).toNat (0:Int)).toNat):Int)))) (.br ((0+(zL ys ((32:Int)-(↑(blen (ys.getD ((ys.length:Int)-1).toNat (0:Int)).toNat):Int)).toNat).length).ble (zL ys ((32:Int)-(↑(blen (ys.getD ((ys.length:Int)-1).toNat (0:Int)).toNat):Int)).toNat).length) (.br (decide (0<=(ys.length:Int))&&decide ((ys.length:Int)<=(↑(tk0 (zL ys ((32:Int)-(↑(blen (ys.getD ((ys.length:Int)-1).toNat (0:Int)).toNat):Int)).toNat)).length:Int))) (.br (ib ((↑(zL xs ((32:Int)-(↑(blen (ys.getD ((ys.length:Int)-1).toNat (0:Int)).toNat):Int)).toNat).length:Int)-(ys.length:Int))) (.br (decide ((↑(zL xs ((32:Int)-(↑(blen (ys.getD ((ys.length:Int)-1).toNat (0:Int)).toNat):Int)).toNat).length:Int)-(ys.length:Int)=(↑(zL xs ((32:Int)-(↑(blen (ys.getD ((ys.length:Int)-1).toNat (0:Int)).toNat):Int)).toNat).length:Int)-(ys.length:Int))&&decide (0<=(↑(zL xs ((32:Int)-(↑(blen (ys.getD ((ys.length:Int)-1).toNat (0:Int)).toNat):Int)).toNat).length:Int)-(ys.length:Int))&&decide ((↑(zL xs ((32:Int)-(↑(blen (ys.getD ((ys.length:Int)-1).toNat (0:Int)).toNat):Int)).toNat).length:Int)-(ys.length:Int)<=4294967296)&&prog.types[(158:Nat)].bytes.ble 1024) (.br (ib ((↑((↑(zL xs ((32:Int)-(↑(blen (ys.getD ((ys.length:Int)-1).toNat (0:Int)).toNat):Int)).toNat).length:Int)-(ys.length:Int)).toNat:Int)-1)) (.br (qg (M130 (List.replicate ((↑(zL xs ((32:Int)-(↑(blen (ys.getD ((ys.length:Int)-1).toNat (0:Int)).toNat):Int)).toNat).length:Int)-(ys.length:Int)).toNat (0:Int)) (zL xs ((32:Int)-(↑(blen (ys.getD ((ys.length:Int)-1).toNat (0:Int)).toNat):Int)).toNat) (List.take ((ys.length:Int).toNat-0) (List.drop 0 (tk0 (zL ys ((32:Int)-(↑(blen (ys.getD ((ys.length:Int)-1).toNat (0:Int)).toNat):Int)).toNat)))) ((↑(zL xs ((32:Int)-(↑(blen (ys.getD ((ys.length:Int)-1).toNat (0:Int)).toNat):Int)).toNat).length:Int)-(ys.length:Int)).toNat (zL xs ((32:Int)-(↑(blen (ys.getD ((ys.length:Int)-1).toNat (0:Int)).toNat):Int)).toNat).length (ys.length:Int) ((↑((↑(zL xs ((32:Int)-(↑(blen (ys.getD ((ys.length:Int)-1).toNat (0:Int)).toNat):Int)).toNat).length:Int)-(ys.length:Int)).toNat:Int)-1) qf uf)) (.br (decide (0<=(ys.length:Int))&&decide ((ys.length:Int)<=(↑(zL xs ((32:Int)-(↑(blen (ys.getD ((ys.length:Int)-1).toNat (0:Int)).toNat):Int)).toNat).length:Int))) (.br (qg (R130 uf ((ys.length:Int).toNat-0) (zL xs ((32:Int)-(↑(blen (ys.getD ((ys.length:Int)-1).toNat (0:Int)).toNat):Int)).toNat).length ((32:Int)-(↑(blen (ys.getD ((ys.length:Int)-1).toNat (0:Int)).toNat):Int)) (ys.length:Int) (↑((ys.length:Int).toNat-0):Int) (0:Int) uf2)) (.br (((↑(zL xs ((32:Int)-(↑(blen (ys.getD ((ys.length:Int)-1).toNat (0:Int)).toNat):Int)).toNat).length:Int)-(ys.length:Int)).toNat.ble qf.length&&((ys.length:Int).toNat-0).ble uf2.length) (.ok (.ret (.tup [.fr 1 (.ints .u32 (List.take ((↑(zL xs ((32:Int)-(↑(blen (ys.getD ((ys.length:Int)-1).toNat (0:Int)).toNat):Int)).toNat).length:Int)-(ys.length:Int)).toNat (List.drop 0 qf))),.fr 1 (.ints .u32 (List.take ((ys.length:Int).toNat-0) (List.drop 0 uf2)))]) [])) (.no 15)) (.no 1)) (.no 19002)) (.no 1)) (.no 6002)) (.no 5002)) (.no 5003)) (.no 4003)) (.no 4005)) (.no 1)) (.no 1)) (.no 1)) (.no 2004)) (.no 2005):=by kernel_rfl
def qL (xs ys:List Int):List Int:=hide (pd 4294967296 (xs.length+1-ys.length) (lv 4294967296 xs/lv 4294967296 ys))
def rL (xs ys:List Int):List Int:=hide (pd 4294967296 ys.length (lv 4294967296 xs%lv 4294967296 ys))
def P130 (xs ys:List Int):Prop:=(∃ X Y,xs=dg 4294967296 X/\ys=dg 4294967296 Y)/\2<=ys.length/\ys.length<=xs.length/\xs.length<=134217728
def g130:Spec:=fun args hs K=>match args,hs with
 | [.lst 1 (.ints .u32 xs),.lst 1 (.ints .u32 ys)],[]=>.br (qg (P130 xs ys)) (K (.tup [.fr 1 (.ints .u32 (qL xs ys)),.fr 1 (.ints .u32 (rL xs ys))]) []) (.no 1)
 | _,_=>.no 1
theorem norm_ok {Y n:Nat} (hn:1<=n) (h1:4294967296^(n-1)<=Y) (h2:Y<4294967296^n):
  1<=blen (Y/4294967296^(n-1))/\blen (Y/4294967296^(n-1))<=32/\Y*2^(32-blen (Y/4294967296^(n-1)))<4294967296^n/\2147483648<=Y*2^(32-blen (Y/4294967296^(n-1)))/4294967296^(n-1):=by
 have hp:0<4294967296^(n-1):=Nat.pow_pos (by omega)
 have hn1:4294967296^n=4294967296*4294967296^(n-1):=by rw[<-Nat.pow_succ',show(n-1).succ=n by omega]
 have ht0:0<Y/4294967296^(n-1):=Nat.div_pos h1 hp
 have ht1:Y/4294967296^(n-1)<4294967296:=lt_pow_of_div (by rw[show n-1+1=n by omega];exact h2)
 have hdm:=Nat.div_add_mod Y (4294967296^(n-1))
 have hm:=Nat.mod_lt Y hp
 generalize Y%4294967296^(n-1)=y0 at*
 generalize Y/4294967296^(n-1)=t at*
 have hb:blen t=Nat.log2 t+1:=by unfold blen;rw[if_neg (by omega)]
 have l1:=Nat.log2_self_le (n:=t) (by omega)
 have l2:=Nat.lt_log2_self (n:=t)
 have l3:Nat.log2 t<32:=(Nat.log2_lt (by omega)).2 (by omega)
 have e1:2^(Nat.log2 t+1)*2^(32-(Nat.log2 t+1))=4294967296:=by rw[<-Nat.pow_add,show Nat.log2 t+1+(32-(Nat.log2 t+1))=32 by omega]
 have e2:2^Nat.log2 t*2^(32-(Nat.log2 t+1))=2147483648:=by rw[<-Nat.pow_add,show Nat.log2 t+(32-(Nat.log2 t+1))=31 by omega]
 rw[hb]
 refine⟨by omega,by omega,?_,?_⟩
 ·rw[hn1]
  have hY:Y<2^(Nat.log2 t+1)*4294967296^(n-1):=by
   have:=Nat.mul_le_mul_right (4294967296^(n-1)) (Nat.succ_le_of_lt l2)
   rw[Nat.succ_mul,Nat.mul_comm t]at this
   omega
  have:=Nat.mul_lt_mul_of_pos_right hY (show 0<2^(32-(Nat.log2 t+1))from Nat.pow_pos (by omega))
  rwa[Nat.mul_right_comm,e1]at this
 ·rw[Nat.le_div_iff_mul_le hp]
  have hY:2^Nat.log2 t*4294967296^(n-1)<=Y:=by
   have:=Nat.mul_le_mul_right (4294967296^(n-1)) l1
   rw[Nat.mul_comm t]at this
   omega
  have:=Nat.mul_le_mul_right (2^(32-(Nat.log2 t+1))) hY
  rwa[Nat.mul_right_comm,e2]at this
include hG in
theorem orcF130:OrcOK prog G F130:=.cons (gk141 hG) (.cons (gk142 hG) (.cons (gk143 hG) (.cons (gk144 hG) .nil)))
theorem loops130:qi (qd f150)=[b130,b130i,b130r]:=by kernel_rfl
include hG in
theorem gk130:qc prog G 150 g130:=by
 intro args hs K x h
 unfold g130 at h
 split at h
 case h_2=>cases h
 rename_i xs ys
 obtain⟨hc,hr⟩:=k8 h
 obtain⟨⟨X,Y,rfl,rfl⟩,hn2,hnx,hs⟩:=decP_iff.1 hc
 have hx:=dg_lt (B:=4294967296) (by omega) X
 have hy:=dg_lt (B:=4294967296) (by omega) Y
 have hY0:Y≠0:=fun h=>by rw[h,dg_zero]at hn2;simp at hn2
 have hyl:=dg_le (B:=4294967296) (by omega) hY0
 have eX:=lv_dg (B:=4294967296) (by omega) X
 have eY:=lv_dg (B:=4294967296) (by omega) Y
 obtain⟨n1,n2,n3,n4⟩:=norm_ok (Y:=Y) (n:=(dg 4294967296 Y).length) (by omega) hyl hy
 have htop:(dg 4294967296 Y).getD (((dg 4294967296 Y).length:Int)-1).toNat 0=((Y/4294967296^((dg 4294967296 Y).length-1):Nat):Int):=by
  rw[show(((dg 4294967296 Y).length:Int)-1).toNat=(dg 4294967296 Y).length-1 by omega,dg_get (by omega) (by omega),Nat.mod_eq_of_lt (lt_pow_of_div (by rw[show(dg 4294967296 Y).length-1+1=(dg 4294967296 Y).length by omega];exact hy))]
 have htb:=lt_pow_of_div (x:=Y) (n:=(dg 4294967296 Y).length-1) (by rw[show(dg 4294967296 Y).length-1+1=(dg 4294967296 Y).length by omega];exact hy)
 have hpx:P142 (dg 4294967296 X) ((32:Int)-(blen (Y/4294967296^((dg 4294967296 Y).length-1)):Nat)):=⟨⟨X,rfl⟩,by omega,by omega,by omega⟩
 have hpy:P142 (dg 4294967296 Y) ((32:Int)-(blen (Y/4294967296^((dg 4294967296 Y).length-1)):Nat)):=⟨⟨Y,rfl⟩,by omega,by omega,by omega⟩
 generalize Y/4294967296^((dg 4294967296 Y).length-1)=t at*
 obtain⟨s,hs'⟩:∃ s,s=32-blen t:=⟨_,rfl⟩
 have hsI:(32:Int)-(blen t:Nat)=(s:Int):=by omega
 rw[<-hs']at n3 n4
 have hV0:0<Y*2^s:=Nat.mul_pos (by omega) (Nat.pow_pos (by omega))
 have h2s:0<2^s:=Nat.pow_pos (by omega)
 have h2b:2^s<=2147483648:=by
  have:2^s<=2^31:=Nat.pow_le_pow_right (by omega) (by omega)
  omega
 have hq:X*2^s/(Y*2^s)=X/Y:=Nat.mul_div_mul_right _ _ h2s
 have hm:X*2^s%(Y*2^s)=X%Y*2^s:=Nat.mul_mod_mul_right _ _ _
 have hRd:X%Y*2^s/2^s=X%Y:=Nat.mul_div_cancel _ h2s
 have hXl:X*2^s<4294967296^((dg 4294967296 X).length+1):=by
  rw[Nat.pow_succ]
  exact Nat.mul_lt_mul_of_lt_of_le hx (by omega) (by omega)
 have hXV:X*2^s<Y*2^s*4294967296^((dg 4294967296 X).length+1-(dg 4294967296 Y).length):=by
  have a1:2147483648*4294967296^((dg 4294967296 Y).length-1)<=Y*2^s:=(Nat.le_div_iff_mul_le (Nat.pow_pos (by omega))).1 n4
  have a2:=Nat.mul_le_mul_right (4294967296^((dg 4294967296 X).length+1-(dg 4294967296 Y).length)) a1
  rw[Nat.mul_assoc,<-Nat.pow_add,show(dg 4294967296 Y).length-1+((dg 4294967296 X).length+1-(dg 4294967296 Y).length)=(dg 4294967296 X).length by omega]at a2
  have a3:X*2^s<4294967296^(dg 4294967296 X).length*2147483648:=Nat.mul_lt_mul_of_lt_of_le hx h2b (by omega)
  omega
 have zx:zL (dg 4294967296 X) s=pd 4294967296 ((dg 4294967296 X).length+1) (X*2^s):=by unfold zL;rw[qh,eX]
 have zy:zL (dg 4294967296 Y) s=pd 4294967296 ((dg 4294967296 Y).length+1) (Y*2^s):=by unfold zL;rw[qh,eY]
 have hR:X*2^s%(Y*2^s)<4294967296^(dg 4294967296 Y).length:=Nat.lt_trans (Nat.mod_lt _ hV0) n3
 have fM:M130 (List.replicate ((dg 4294967296 X).length+1-(dg 4294967296 Y).length) 0) (pd 4294967296 ((dg 4294967296 X).length+1) (X*2^s)) (pd 4294967296 (dg 4294967296 Y).length (Y*2^s)) ((dg 4294967296 X).length+1-(dg 4294967296 Y).length) ((dg 4294967296 X).length+1) ((dg 4294967296 Y).length:Nat) ((((dg 4294967296 X).length+1-(dg 4294967296 Y).length:Nat):Int)-1)
   (pd 4294967296 ((dg 4294967296 X).length+1-(dg 4294967296 Y).length) (X*2^s/(Y*2^s))) (pd 4294967296 ((dg 4294967296 X).length+1) (X*2^s%(Y*2^s))):=
  ⟨_,_,_,rfl,rfl,rfl,rfl,rfl,hn2,by omega,by omega,n3,n4,hXV,hXl,rfl,rfl⟩
 have fR:R130 (pd 4294967296 ((dg 4294967296 X).length+1) (X*2^s%(Y*2^s))) (dg 4294967296 Y).length ((dg 4294967296 X).length+1) (s:Nat) ((dg 4294967296 Y).length:Nat) ((dg 4294967296 Y).length:Nat) 0 (usR (X*2^s%(Y*2^s)) ((dg 4294967296 X).length+1) s (dg 4294967296 Y).length):=
  ⟨_,s,_,rfl,rfl,by omega,rfl,rfl,rfl,rfl,by omega,by omega,hR,rfl⟩
 refine⟨_,_,qj hG (orcF130 hG) mix enter130 (hs:=[]) (pol:=pol130) (L:=[(6,l130 (pd 4294967296 ((dg 4294967296 X).length+1-(dg 4294967296 Y).length) (X*2^s/(Y*2^s))) (pd 4294967296 ((dg 4294967296 X).length+1) (X*2^s%(Y*2^s)))),(20,l130r (usR (X*2^s%(Y*2^s)) ((dg 4294967296 X).length+1) s (dg 4294967296 Y).length))])
  (LpsOK.of loops130 fun a ha live sp h1 h2 => ?_) ?_,hr⟩
 ·simp only[List.mem_cons,List.not_mem_nil,or_false]at ha
  rcases ha with rfl|rfl|rfl
  ·have e1:assoc (qr b130) pol130.live=some [4,6,7,8,9,10]:=by kernel_rfl
   rw[e1]at h1;cases h1
   have e2:Lps.look (qr b130) [(6,l130 (pd 4294967296 ((dg 4294967296 X).length+1-(dg 4294967296 Y).length) (X*2^s/(Y*2^s))) (pd 4294967296 ((dg 4294967296 X).length+1) (X*2^s%(Y*2^s)))),(20,l130r (usR (X*2^s%(Y*2^s)) ((dg 4294967296 X).length+1) s (dg 4294967296 Y).length))]=some (l130 (pd 4294967296 ((dg 4294967296 X).length+1-(dg 4294967296 Y).length) (X*2^s/(Y*2^s))) (pd 4294967296 ((dg 4294967296 X).length+1) (X*2^s%(Y*2^s)))):=by kernel_rfl
   rw[e2]at h2;cases h2
   exact loop130 hG _ _
  ·have e2:Lps.look (qr b130i) [(6,l130 (pd 4294967296 ((dg 4294967296 X).length+1-(dg 4294967296 Y).length) (X*2^s/(Y*2^s))) (pd 4294967296 ((dg 4294967296 X).length+1) (X*2^s%(Y*2^s)))),(20,l130r (usR (X*2^s%(Y*2^s)) ((dg 4294967296 X).length+1) s (dg 4294967296 Y).length))]=none:=by kernel_rfl
   rw[e2]at h2;cases h2
  ·have e1:assoc (qr b130r) pol130.live=some [4,5,6,7,8,145,146]:=by kernel_rfl
   rw[e1]at h1;cases h1
   have e2:Lps.look (qr b130r) [(6,l130 (pd 4294967296 ((dg 4294967296 X).length+1-(dg 4294967296 Y).length) (X*2^s/(Y*2^s))) (pd 4294967296 ((dg 4294967296 X).length+1) (X*2^s%(Y*2^s)))),(20,l130r (usR (X*2^s%(Y*2^s)) ((dg 4294967296 X).length+1) s (dg 4294967296 Y).length))]=some (l130r (usR (X*2^s%(Y*2^s)) ((dg 4294967296 X).length+1) s (dg 4294967296 Y).length)):=by kernel_rfl
   rw[e2]at h2;cases h2
   exact loop130r hG _
 ·rw[p130];try unfold tk0
  simp only[htop,Int.toNat_natCast,hsI,zx,zy,qn,List.drop_zero,Nat.sub_zero,u32_ty,Bool.and_true]
  rw[hsI]at hpx hpy
  have e1:((((dg 4294967296 X).length+1:Nat):Int)-((dg 4294967296 Y).length:Int)).toNat=(dg 4294967296 X).length+1-(dg 4294967296 Y).length:=by omega
  have e2:List.take ((dg 4294967296 Y).length+1) (pd 4294967296 ((dg 4294967296 Y).length+1) (Y*2^s))=pd 4294967296 ((dg 4294967296 Y).length+1) (Y*2^s):=pd_take (Nat.le_refl _)
  have e3:List.take (dg 4294967296 Y).length (pd 4294967296 ((dg 4294967296 Y).length+1) (Y*2^s))=pd 4294967296 (dg 4294967296 Y).length (Y*2^s):=pd_take (by omega)
  have e4:List.take ((dg 4294967296 X).length+1-(dg 4294967296 Y).length) (pd 4294967296 ((dg 4294967296 X).length+1-(dg 4294967296 Y).length) (X*2^s/(Y*2^s)))=qL (dg 4294967296 X) (dg 4294967296 Y):=by
   unfold qL
   rw[qh,eX,eY,hq,pd_take (Nat.le_refl _)]
  have e5:List.take (dg 4294967296 Y).length (usR (X*2^s%(Y*2^s)) ((dg 4294967296 X).length+1) s (dg 4294967296 Y).length)=rL (dg 4294967296 X) (dg 4294967296 Y):=by
   unfold rL usR
   rw[qh,eX,eY,hm,hRd,List.take_append_of_le_length (by rw[qn];exact Nat.le_refl _),pd_take (Nat.le_refl _)]
  rw[e1,e2,e3,e4,e5,usR_len (by omega)]
  rw[k5 (by simp only[kD,kE];omega),k5 (by simp only[kD,kE];omega),k5 (by simp only[kD,kE];omega),k5 (decP_iff.2 hpx),k5 (decP_iff.2 hpy)]
  repeat rw[k5 (by simp only[kD,kE,kH,qn,decide_true,Bool.true_and];omega)]
  rw[k5 (decP_iff.2 fM)]
  repeat rw[k5 (by simp only[kD,kE,kH,qn];omega)]
  rw[k5 (decP_iff.2 fR)]
  rw[k5 (by simp only[kD,kH];omega),k7]
def b113:Code:=(qi (qd f114)).getD 0 .skip
def pol113:Pol:={live:=[(12,[7,8,9,10])],own:=[48]}
def t113 (zs ys:List Int) (l:Nat) (r i:Int):LS:=⟨[.sl 0 1 0 l,.lst 1 (.ints .u32 ys),.i .u64 r,.i .i64 i],[some ⟨1,.ints .u32 zs⟩]⟩
theorem q113 (zs ys:List Int) (l:Nat) (r i:Int):qe prog [] [] pol113 f114.ntmps 0 [7,8,9,10] b113 (t113 zs ys l r i)=
 Tr.br (decide (0<=i)) (.br (decide ((0:Int)<=32)) (.br (ix (i) ((l:Int))) (.br ((0+i.toNat+1).ble zs.length) (.br (ix ((0:Int)) ((ys.length:Int))) (.br (!decide (IntKind.u64.wrap (ys.getD (Int.toNat 0) (0:Int))=0)) (.br (ix ((0:Int)) ((ys.length:Int))) (.br (!decide (IntKind.u64.wrap (ys.getD (Int.toNat 0) (0:Int))=0)) (.br (ix (i) ((l:Int))) (.br ((0+i.toNat+1).ble zs.length) (.br (ib (i-1)) (.ok (.out .normal (LS.mk [.sl 0 1 0 l,.lst 1 (.ints .u32 ys),.i .u64 ((IntKind.u64.wrap (↑(BitVec.ofInt IntKind.u64.bits (IntKind.u64.wrap (r*2^min (Int.toNat 32) IntKind.u64.bits)) ||| BitVec.ofInt IntKind.u64.bits (IntKind.u64.wrap (zs.getD (0+i.toNat) (0:Int)))).toNat:Int)).tmod (IntKind.u64.wrap (ys.getD (Int.toNat 0) (0:Int)))),.i .i64 (i-1)] [some (.mk 1 (.ints .u32 (zs.set (0+i.toNat) (IntKind.u32.wrap (IntKind.u64.wrap ((IntKind.u64.wrap (↑(BitVec.ofInt IntKind.u64.bits (IntKind.u64.wrap (r*2^min (Int.toNat 32) IntKind.u64.bits)) ||| BitVec.ofInt IntKind.u64.bits (IntKind.u64.wrap (zs.getD (0+i.toNat) (0:Int)))).toNat:Int)).tdiv (IntKind.u64.wrap (ys.getD (Int.toNat 0) (0:Int)))))))))]))) (.no 14002)) (.no 16002)) (.no 16003)) (.no 16004)) (.no 16007)) (.no 16011)) (.no 16014)) (.no 15004)) (.no 15005)) (.no 15008)) (.ok (.out (.exit 1) (LS.mk [.sl 0 1 0 l,.lst 1 (.ints .u32 ys),.i .u64 r,.i .i64 i] [some (.mk 1 (.ints .u32 zs))]))):=by kernel_rfl
def h82:Spec:=fun args hs K=>match args,hs with
 | [.s a,.s b],[]=>K (.i .i64 (ncmp (val a) (val b))) []
 | _,_=>.no 1
include hG in
theorem hk82:qc prog G 59 h82:=by
 intro args hs K x h
 unfold h82 at h
 split at h
 case h_2=>cases h
 rw[val_eq,val_eq]at h
 exact ok82 hG _ _ K x h
def dQ (xs ys:List Int):List Int:=hide (pd 4294967296 xs.length (lv 4294967296 xs/lv 4294967296 ys))
def dR (xs ys:List Int):Nat:=hide (lv 4294967296 xs%lv 4294967296 ys)
def Q113 (xs ys:List Int) (l:Nat) (r i:Int):Prop:=isD xs/\l=xs.length/\r=0/\i=(xs.length:Int)-1/\xs.length<=1073741824/\∃ y:Nat,ys=[(y:Int)]/\0<y/\y<4294967296
def l113:qA:=fun ls K=>match ls with
 | ⟨[.sl 0 1 0 l,.lst 1 (.ints .u32 ys),.i .u64 r,.i .i64 i],[some ⟨1,.ints .u32 zs⟩]⟩=>
  .br (qg (Q113 zs ys l r i)) (K (.exit 1) (t113 (dQ zs ys) ys l (dR zs ys:Nat) (-1))) (.no 1)
 | _=>.no 1
def dS (X y l k:Nat):List Int:=pd 4294967296 k X++pd 4294967296 (l-k) (X/4294967296^k/y)
theorem short_step (X y k:Nat) (hy:0<y) (hyb:y<4294967296):
  (X/4294967296^(k+1)%y*4294967296+X/4294967296^k%4294967296)/y<4294967296/\X/4294967296^k/y%4294967296=(X/4294967296^(k+1)%y*4294967296+X/4294967296^k%4294967296)/y/\
  X/4294967296^k/y/4294967296=X/4294967296^(k+1)/y/\X/4294967296^k%y=(X/4294967296^(k+1)%y*4294967296+X/4294967296^k%4294967296)%y/\
  X/4294967296^(k+1)%y*4294967296+X/4294967296^k%4294967296<18446744073709551616:=by
 have e:X/4294967296^(k+1)=X/4294967296^k/4294967296:=by rw[Nat.div_div_eq_div_mul,<-Nat.pow_succ]
 rw[e]
 generalize X/4294967296^k=H
 have hm:=Nat.mod_lt (H/4294967296) hy
 have hx:=Nat.mod_lt H (show 0<4294967296 by omega)
 have d1:=Nat.div_add_mod H 4294967296
 have d2:=Nat.div_add_mod (H/4294967296) y
 generalize H/4294967296%y=r at*
 generalize H/4294967296/y=q at*
 generalize H%4294967296=x at*
 generalize H/4294967296=H' at*
 have ht:r*4294967296+x<y*4294967296:=by
  have:=Nat.mul_le_mul_right 4294967296 (Nat.succ_le_of_lt hm)
  omega
 have hq:(r*4294967296+x)/y<4294967296:=by rw[Nat.div_lt_iff_lt_mul hy];omega
 have eH:H=(r*4294967296+x)+y*(q*4294967296):=by
  rw[<-d1,<-d2,Nat.mul_add,Nat.mul_comm 4294967296 (y*q),Nat.mul_assoc];omega
 have eD:H/y=(r*4294967296+x)/y+q*4294967296:=by rw[eH,Nat.add_mul_div_left _ _ hy]
 refine⟨hq,?_,?_,?_,?_⟩
 ·rw[eD,Nat.add_mul_mod_self_right,Nat.mod_eq_of_lt hq]
 ·rw[eD,Nat.add_mul_div_right _ _ (by omega),Nat.div_eq_of_lt hq,Nat.zero_add]
 ·rw[eH,Nat.add_mul_mod_self_left]
 ·have:y*4294967296<=4294967296*4294967296:=Nat.mul_le_mul_right _ (by omega)
  omega
theorem dS_len {X y l k:Nat} (h:k<=l):(dS X y l k).length=l:=by
 unfold dS
 rw[List.length_append,qn,qn];omega
theorem dS_get {X y l k:Nat}:(dS X y l (k+1)).getD k 0=((X/4294967296^k%4294967296:Nat):Int):=by
 unfold dS
 rw[List.getD_eq_getElem?_getD,List.getElem?_append_left (by rw[qn];omega),<-List.getD_eq_getElem?_getD,pd_getD (by omega)]
theorem dS_set {X y l k:Nat} (hy:0<y) (hyb:y<4294967296) (h:k<l):(dS X y l (k+1)).set k (((X/4294967296^(k+1)%y*4294967296+X/4294967296^k%4294967296)/y:Nat):Int)=dS X y l k:=by
 obtain⟨h1,h2,h3,h4,h5⟩:=short_step X y k hy hyb
 have hp:pd 4294967296 (k+1) X=pd 4294967296 k X++[((X/4294967296^k%4294967296:Nat):Int)]:=by
  unfold pd
  rw[List.range_succ,List.map_append]
  rfl
 unfold dS
 rw[hp,List.append_assoc,List.set_append_right _ _ (by rw[qn];exact Nat.le_refl _),qn,Nat.sub_self,List.singleton_append,List.set_cons_zero]
 congr 1
 rw[show l-k=(l-(k+1))+1 by omega,pd_succ,h2,h3]
include hG in
theorem goes113 (X y l:Nat) (hy:0<y) (hyb:y<4294967296) (hl:l<=1073741824):∀ k,k<=l->Goes (Rnd prog G f114.ntmps 0 [7,8,9,10] b113) (t113 (dS X y l k) [(y:Int)] l ((X/4294967296^k%y:Nat):Int) ((k:Int)-1)) (.exit 1) (t113 (dS X y l 0) [(y:Int)] l ((X%y:Nat):Int) (-1))
 | 0,_=>by
  refine .last _ _ _ (qb hG OrcOK.nil mix (L:=[]) (pol:=pol113) (O:=[]) (kA (by kernel_rfl)) (Nat.zero_le _) ?_) (by simp)
  rw[q113,k6 (kG (by omega)),k7,Nat.pow_zero,Nat.div_one]
  rfl
 | k+1,hk=>by
  refine .more _ _ _ _ (qb hG OrcOK.nil mix (L:=[]) (pol:=pol113) (O:=[]) (kA (by kernel_rfl)) (Nat.zero_le _) ?_) (goes113 X y l hy hyb hl k (by omega))
  obtain⟨h1,h2,h3,h4,h5⟩:=short_step X y k hy hyb
  have hlen:=dS_len (X:=X) (y:=y) (l:=l) (k:=k+1) hk
  have hx:=Nat.mod_lt (X/4294967296^k) (show 0<4294967296 by omega)
  have hr:=Nat.mod_lt (X/4294967296^(k+1)) hy
  have hset:=dS_set (X:=X) (y:=y) (l:=l) (k:=k) hy hyb (by omega)
  have hget:=dS_get (X:=X) (y:=y) (l:=l) (k:=k)
  have t1:0+(((k+1:Nat):Int)-1).toNat=k:=by omega
  have t0:[(y:Int)].getD (Int.toNat 0) 0=(y:Int):=rfl
  have em:min (Int.toNat (32:Int)) IntKind.u64.bits=32:=rfl
  have hor:IntKind.u64.wrap ((BitVec.ofInt IntKind.u64.bits (IntKind.u64.wrap (((X/4294967296^(k+1)%y:Nat):Int)*(2:Int)^min (Int.toNat (32:Int)) IntKind.u64.bits)) ||| BitVec.ofInt IntKind.u64.bits (IntKind.u64.wrap ((X/4294967296^k%4294967296:Nat):Int))).toNat:Int)=((X/4294967296^(k+1)%y*4294967296+X/4294967296^k%4294967296:Nat):Int):=by
   generalize X/4294967296^(k+1)%y=r at*
   generalize X/4294967296^k%4294967296=x at*
   rw[em,qJ (n:=x) (by omega),u64_id (n:=(r:Int)*2^32) (by omega) (by omega),or64 32 _ _ (by omega) (by omega) (by omega) (by omega)]
   omega
  rw[h4]
  generalize X/4294967296^(k+1)%y*4294967296+X/4294967296^k%4294967296=top at*
  have hd:top/y<=top:=Nat.div_le_self _ _
  have eq1:IntKind.u32.wrap (IntKind.u64.wrap (((top:Nat):Int).tdiv ((y:Nat):Int)))=((top/y:Nat):Int):=by rw[tdiv_nat,qJ (by omega),wrap_u32_nat,Nat.mod_eq_of_lt h1]
  have q1:(!decide (((y:Nat):Int)=0))=true:=by rw[kG (by omega)];rfl
  rw[q113,t1,t0,hget,hor,qJ (n:=y) (by omega),eq1,hset,tmod_nat]
  repeat rw[k5 (by first|exact q1|(simp only[kD,kE,kH,kI,kJ];omega))]
  rw[k7,show((k+1:Nat):Int)-1-1=(k:Int)-1 by omega]
  rfl
include hG in
theorem loop113:qz prog G f114.ntmps 0 [7,8,9,10] b113 l113:=by
 intro ls K x hm h
 unfold l113 at h
 split at h
 case h_2=>cases h
 rename_i l ys r i zs
 obtain⟨hc,hr⟩:=k8 h
 obtain⟨hD,rfl,rfl,rfl,hl,y,rfl,hy,hyb⟩:=decP_iff.1 hc
 have g:=goes113 hG (lv 4294967296 zs) y zs.length hy hyb hl zs.length (Nat.le_refl _)
 have hz:=lv_lt (B:=4294967296) (xs:=zs) fun x hx=>by have:=hD x hx;omega
 have e0:dS (lv 4294967296 zs) y zs.length zs.length=zs:=by
  unfold dS
  rw[Nat.sub_self,pd_lv (B:=4294967296) (by omega) hD]
  exact List.append_nil _
 have e1:dS (lv 4294967296 zs) y zs.length 0=dQ zs [(y:Int)]:=by
  unfold dS dQ
  rw[qh,Nat.pow_zero,Nat.div_one,Nat.sub_zero]
  simp[lv,pd]
 have e2:lv 4294967296 zs%y=dR zs [(y:Int)]:=by
  unfold dR
  rw[qh]
  simp[lv]
 rw[e0,e1,e2,Nat.div_eq_of_lt hz,Nat.zero_mod]at g
 exact⟨_,_,qx g,hr⟩
def O113:Orc:=[(106,h114),(108,s115),(109,h116),(110,h117),(111,h118),(59,h82),(150,g130)]
abbrev zp1131 (a b:ByteArray):Tr:=Tr.br (decide (ncmp (val (tr a)) (val (tr b))<(0:Int))) (.ok (.ret (.tup [.s (ByteArray.mk #[]),.s (tr a),.i .i64 (0:Int)]) [])) (.br ((tr a).size.ble 1073741824) (.br ((tr b).size.ble 1073741824) (.br (((0:Nat)+(wd (tr b)).length).ble (wd (tr b)).length) (.br (decide ((↑(tk0 (wd (tr b))).length:Int)=(1:Int))) (.br (ib ((↑(wd (tr a)).length:Int)-(1:Int))) (.br (qg (Q113 (wd (tr a)) (tk0 (wd (tr b))) (wd (tr a)).length (0:Int) ((↑(wd (tr a)).length:Int)-(1:Int)))) (.br (((0:Nat)+(wd (tr a)).length).ble (dQ (wd (tr a)) (tk0 (wd (tr b)))).length) (.br ((List.take (wd (tr a)).length (List.drop (0:Nat) (dQ (wd (tr a)) (tk0 (wd (tr b)))))).length.ble 268435456&&allD (List.take (wd (tr a)).length (List.drop (0:Nat) (dQ (wd (tr a)) (tk0 (wd (tr b))))))) (.br (ix ((↑(dR (wd (tr a)) (tk0 (wd (tr b)))):Int)) ((18446744073709551616:Int))) (.ok (.ret (.tup [.s (tx (List.take (wd (tr a)).length (List.drop (0:Nat) (dQ (wd (tr a)) (tk0 (wd (tr b))))))),.s (nb (↑(dR (wd (tr a)) (tk0 (wd (tr b)))):Int).toNat),.i .i64 (0:Int)]) [])) (.no 1)) (.no 1)) (.no 17006)) (.no 1)) (.no 12002)) (.br (((0:Nat)+(wd (tr a)).length).ble (wd (tr a)).length) (.br (qg (P130 (tk0 (wd (tr a))) (tk0 (wd (tr b))))) (.br (((0:Nat)+(qL (tk0 (wd (tr a))) (tk0 (wd (tr b)))).length).ble (qL (tk0 (wd (tr a))) (tk0 (wd (tr b)))).length&&((0:Nat)+(rL (tk0 (wd (tr a))) (tk0 (wd (tr b)))).length).ble (rL (tk0 (wd (tr a))) (tk0 (wd (tr b)))).length) (.br ((tk0 (qL (List.take (wd (tr a)).length (List.drop (0:Nat) (wd (tr a)))) (List.take (wd (tr b)).length (List.drop (0:Nat) (wd (tr b)))))).length.ble 268435456&&allD (tk0 (qL (List.take (wd (tr a)).length (List.drop (0:Nat) (wd (tr a)))) (List.take (wd (tr b)).length (List.drop (0:Nat) (wd (tr b))))))) (.br ((tk0 (rL (List.take (wd (tr a)).length (List.drop (0:Nat) (wd (tr a)))) (List.take (wd (tr b)).length (List.drop (0:Nat) (wd (tr b)))))).length.ble 268435456&&allD (tk0 (rL (List.take (wd (tr a)).length (List.drop (0:Nat) (wd (tr a)))) (List.take (wd (tr b)).length (List.drop (0:Nat) (wd (tr b))))))) (.ok (.ret (.tup [.s (tx (tk0 (qL (List.take (wd (tr a)).length (List.drop (0:Nat) (wd (tr a)))) (List.take (wd (tr b)).length (List.drop (0:Nat) (wd (tr b))))))),.s (tx (tk0 (rL (List.take (wd (tr a)).length (List.drop (0:Nat) (wd (tr a)))) (List.take (wd (tr b)).length (List.drop (0:Nat) (wd (tr b))))))),.i .i64 (0:Int)]) [])) (.no 1)) (.no 1)) (.no 18006)) (.no 1)) (.no 18006))) (.no 9003)) (.no 1)) (.no 1))
theorem p113 (a b:ByteArray):evF prog O113 [(12,l113)] pol113 f114 [.s a,.s b] [] ql=
 Tr.br (decide (tr b=ByteArray.mk #[])) (.ok (.ret (.tup [.s (ByteArray.mk #[]),.s (ByteArray.mk #[]),.i .i64 12]) [])) (.br (decide ((↑(tr a).size:Int)<=8)) (.br (decide ((↑(tr b).size:Int)<=8)) (.br ((tr a).size.ble 8) (.br ((tr b).size.ble 8) (.br (!decide ((↑(val (tr b)):Int)=0)) (.br (ix (IntKind.u64.wrap ((↑(val (tr a)):Int).tdiv (↑(val (tr b)):Int))) ((18446744073709551616:Int))) (.br ((tr a).size.ble 8) (.br ((tr b).size.ble 8) (.br (!decide ((↑(val (tr b)):Int)=0)) (.br (ix ((↑(val (tr a)):Int).tmod (↑(val (tr b)):Int)) ((18446744073709551616:Int))) (.ok (.ret (.tup [.s (nb (IntKind.u64.wrap ((↑(val (tr a)):Int).tdiv (↑(val (tr b)):Int))).toNat),.s (nb ((↑(val (tr a)):Int).tmod (↑(val (tr b)):Int)).toNat),.i .i64 0]) [])) (.no 1)) (.no 6005)) (.no 1)) (.no 1)) (.no 1)) (.no 6011)) (.no 1)) (.no 1)) (zp1131 a b)) (zp1131 a b)):=by kernel_rfl
include hG in
theorem orcD:OrcOK prog G O113:=.cons (hk114 hG) (.cons (ok115 hG) (.cons (hk116 hG) (.cons (hk117 hG) (.cons (hk118 hG) (.cons (hk82 hG) (.cons (gk130 hG) .nil))))))
def g113:Spec:=fun args hs K=>match args,hs with
 | [.s a,.s b],[]=>.br (bz a&&bz b&&decide (0<bv b.data.toList)) (K (.tup [.s (nb (bv a.data.toList/bv b.data.toList)),.s (nb (bv a.data.toList%bv b.data.toList)),.i .i64 0]) []) (.no 1)
 | _,_=>.no 1
theorem one_digit {Y:Nat} (h:(dg 4294967296 Y).length=1):dg 4294967296 Y=[(Y:Int)]/\0<Y/\Y<4294967296:=by
 have h0:Y≠0:=fun h0=>by rw[h0,dg_zero]at h;simp at h
 have h1:=dg_lt (B:=4294967296) (by omega) Y
 rw[h,Nat.pow_one]at h1
 refine⟨?_,by omega,h1⟩
 rw[dg_pos (by omega) h0,Nat.mod_eq_of_lt h1,Nat.div_eq_of_lt h1,dg_zero]
include hG in
theorem gk113:qc prog G 114 g113:=by
 refine qq hG (orcD hG) mix enter113 (L:=[(12,l113)]) (pol:=pol113) fun args hs K x h => ?_
 unfold g113 at h
 split at h
 case h_2=>cases h
 rename_i a b
 obtain⟨hc,hr⟩:=k8 h
 simp only[kD,bz_iff,kE]at hc
 refine⟨qN (b:=b113) (live:=[7,8,9,10]) (sp:=l113) (m:=0) (by kernel_rfl) (by kernel_rfl) (by kernel_rfl) (loop113 hG),_,_,_,?_,.refl _,hr⟩
 obtain⟨⟨ha,hb⟩,hY⟩:=hc
 have sa:=tr_size a
 have sb:=tr_size b
 have la:=dg_len_size a
 have lb:=dg_len_size b
 have et:=tr_eq a
 have et':=tr_eq b
 have empty:({data := #[]}:ByteArray)=nb 0:=rfl
 rw[p113];try unfold zp1131;try unfold tk0
 simp only[List.drop_zero,List.take_length,wd_tr,val_tr]
 generalize bv a.data.toList=X at*
 generalize bv b.data.toList=Y at*
 have hx:=dg_lt (B:=4294967296) (by omega) X
 have hy:=dg_lt (B:=4294967296) (by omega) Y
 have eX:=lv_dg (B:=4294967296) (by omega) X
 have eY:=lv_dg (B:=4294967296) (by omega) Y
 rw[k6 (kG (by rw[et',nb_eq_empty];omega))]
 by_cases h8:(tr a).size<=8/\(tr b).size<=8
 ·have h1:=nb_lt (n:=X) (k:=8) (by rw[<-et];omega)
  have h2:=nb_lt (n:=Y) (k:=8) (by rw[<-et'];omega)
  have h3:X/Y<=X:=Nat.div_le_self _ _
  have h4:X%Y<Y:=Nat.mod_lt _ hY
  have q1:(!decide (((Y:Nat):Int)=0))=true:=by rw[kG (by omega)];rfl
  rw[tdiv_nat,tmod_nat,qJ (n:=X/Y) (by omega)]
  clear hr
  generalize X/Y=q at*
  generalize X%Y=m at*
  repeat rw[k5 (by first|(simp only[kD,kE,kH];omega)|exact q1)]
  rw[k7,Int.toNat_natCast,Int.toNat_natCast]
 ·have skip:∀ u t:Tr,(Tr.br (decide (((tr a).size:Int)<=8)) (Tr.br (decide (((tr b).size:Int)<=8)) u t) t).run=t.run:=by
   intro u t
   by_cases h1:(tr a).size<=8
   ·rw[k5 (kF (by omega)),k6 (kG (by omega))]
   ·rw[k6 (kG (by omega))]
  rw[skip]
  by_cases hlt:X<Y
  ·rw[k5 (kF (ncmp_lt0.2 hlt)),k7,Nat.div_eq_of_lt hlt,Nat.mod_eq_of_lt hlt,et]
   rfl
  ·rw[k6 (kG (fun h=>hlt (ncmp_lt0.1 h)))]
   have lm:=dg_len_mono (n:=Y) (m:=X) (by omega)
   rw[k5 (by rw[kH];omega),k5 (by rw[kH];omega),k5 (by rw[kH];omega)]
   by_cases h1:(dg 4294967296 Y).length=1
   ·obtain⟨o1,o2,o3⟩:=one_digit h1
    have eQ:dQ (dg 4294967296 X) (dg 4294967296 Y)=pd 4294967296 (dg 4294967296 X).length (X/Y):=by unfold dQ;rw[qh,eX,eY]
    have eR:dR (dg 4294967296 X) (dg 4294967296 Y)=X%Y:=by unfold dR;rw[qh,eX,eY]
    have hq:X/Y<4294967296^(dg 4294967296 X).length:=Nat.lt_of_le_of_lt (Nat.div_le_self _ _) hx
    have hm:X%Y<Y:=Nat.mod_lt _ hY
    rw[eQ,eR,pd_take (Nat.le_refl _),qn,allD_pd,tx_eq,lv_pd (by omega) _ _ hq]
    rw[k5 (kF (by omega)),k5 (by simp only[kD,kE];omega),k5 (decP_iff.2 ⟨dg_isD X,rfl,rfl,rfl,by omega,Y,o1,o2,o3⟩),k5 (by rw[kH];omega),
     k5 (by rw[Bool.and_true,kH];omega),k5 (by simp only[kD,kE];omega),k7,Int.toNat_natCast]
   ·have hl1:(dg 4294967296 Y).length≠0:=fun h0=>by
     have:=List.eq_nil_of_length_eq_zero h0
     rw[this]at eY
     simp[lv]at eY
     omega
    have eQ:qL (dg 4294967296 X) (dg 4294967296 Y)=pd 4294967296 ((dg 4294967296 X).length+1-(dg 4294967296 Y).length) (X/Y):=by unfold qL;rw[qh,eX,eY]
    have eR:rL (dg 4294967296 X) (dg 4294967296 Y)=pd 4294967296 (dg 4294967296 Y).length (X%Y):=by unfold rL;rw[qh,eX,eY]
    have hm:X%Y<4294967296^(dg 4294967296 Y).length:=Nat.lt_trans (Nat.mod_lt _ hY) hy
    have hyl:=dg_le (B:=4294967296) (n:=Y) (by omega) (by omega)
    have hq:X/Y<4294967296^((dg 4294967296 X).length+1-(dg 4294967296 Y).length):=by
     rw[Nat.div_lt_iff_lt_mul hY]
     have h2:=Nat.mul_le_mul_left (4294967296^((dg 4294967296 X).length+1-(dg 4294967296 Y).length)) hyl
     rw[<-Nat.pow_add,show(dg 4294967296 X).length+1-(dg 4294967296 Y).length+((dg 4294967296 Y).length-1)=(dg 4294967296 X).length by omega]at h2
     omega
    rw[eQ,eR,qn,qn,allD_pd,allD_pd,tx_eq (pd 4294967296 _ (X/Y)),tx_eq (pd 4294967296 _ (X%Y)),lv_pd (by omega) _ _ hq,lv_pd (by omega) _ _ hm]
    rw[k6 (kG (by omega)),k5 (by rw[kH];omega),k5 (decP_iff.2 ⟨⟨X,Y,rfl,rfl⟩,by omega,by omega,by omega⟩),k5 (by simp only[kD,kH];omega),
     k5 (by rw[Bool.and_true,kH];omega),k5 (by rw[Bool.and_true,kH];omega),k7]
def rhoT:Go.Shelf.Ren:=⟨fun x=>if x=29 then 211 else x,fun t=>if t=22 then 164 else if t=25 then 169 else if t=54 then 269 else t,fun _=>1⟩
theorem laysT:Lays7.n29 prog rhoT:=by
 constructor
 all_goals first|kernel_rfl|(intro w;kernel_rfl)
def qp (G:World->(Nat->Prop)->Prop):Prop:=∀ w S,G w S->Go.Proofs.TabAt 1 Go.Lib.deBruijn64tab w
theorem enter147:Enters prog 211 f211 (qd f211):=⟨func211,by kernel_rfl,rfl⟩
def g147:Spec:=fun args hs K=>match args,hs with
 | [.i .u64 x],[]=>.br (decide (0<=x)&&decide (x<18446744073709551616)) (K (.i .i64 (Go.Lib.ctz 64 x.toNat:Nat)) []) (.no 1)
 | _,_=>.no 1
theorem gk147 (hT:qp G):qc prog G 211 g147:=by
 intro args hs K x h
 unfold g147 at h
 split at h
 case h_2=>cases h
 rename_i x
 obtain⟨hc,hr⟩:=k8 h
 simp only[kD,kE]at hc
 obtain⟨x,rfl⟩:=Int.eq_ofNat_of_zero_le hc.1
 refine⟨_,_,fun w S μ vs hg hv hh hmu => ?_,hr⟩
 cases hv with
 | cons _ _ _ v xs h1 h2=>
 cases h2
 rw[qU h1]
 refine Does.of_calls enter147 ((Go.Proofs.Any7.bits_TrailingZeros64 laysT x (by omega) w fun _=>hT w S hg).mono fun e w' he => ?_)
 obtain⟨rfl,rfl⟩:=he
 refine⟨_,rfl,S,μ,⟨rfl,rfl,rfl,Nat.le_refl _,fun _ _ _=>rfl,fun _ h=>h,fun _ h=>.inl h,fun _ _=>rfl,?_,fun j k hj=>by simp at hj,fun j k hj => ?_,fun j j' a z z' hj => ?_⟩⟩
 ·rw[Int.toNat_natCast];exact qC _ _
 ·simp[unfr,unfrA,unfr1]at hj
 ·simp[unfr,unfrA,unfr1]at hj
def s149:Spec:=fun args hs K=>match args,hs with
 | [.i .u64 x,.i .u64 y,.i .u64 b],[]=>.br (decide (0<=x)&&decide (x<18446744073709551616)&&decide (0<=y)&&decide (y<18446744073709551616)&&decide (0<=b)&&decide (b<=1))
   (K (.tup [.i .u64 ((x-y-b)%18446744073709551616),.i .u64 (if x<y+b then 1 else 0)]) []) (.no 1)
 | _,_=>.no 1
def sub64E:Array Value->Sem Value:=fun args=>do
 let (x,y,b) <- Extern.MathBitsCarry.three "Sub64" args
 pure (Extern.MathBitsCarry.pair ((x+Extern.MathBitsCarry.m64-y-b)%Extern.MathBitsCarry.m64) (if x<y+b then 1 else 0))
theorem sub64_run {P:Program} {w:World} (x y b:Nat) (hb:b<=1):(sub64E #[.int .u64 x,.int .u64 y,.int .u64 b]).run P w=
  .ok (.tuple #[.int .u64 (((x+Extern.MathBitsCarry.m64-y-b)%Extern.MathBitsCarry.m64:Nat):Int),.int .u64 ((if x<y+b then 1 else 0:Nat):Int)]) w:=by
 rcases(show b=0\/b=1 by omega)with rfl|rfl
 ·kernel_rfl
 ·kernel_rfl
theorem ok149:qc prog G 213 s149:=by
 intro args hs K x h
 unfold s149 at h
 split at h
 case h_2=>cases h
 rename_i x y b
 obtain⟨hc,hr⟩:=k8 h
 simp only[kD,kE]at hc
 obtain⟨⟨⟨⟨⟨hx0,hx1⟩,hy0⟩,hy1⟩,hb0⟩,hb1⟩:=hc
 obtain⟨x,rfl⟩:=Int.eq_ofNat_of_zero_le hx0
 obtain⟨y,rfl⟩:=Int.eq_ofNat_of_zero_le hy0
 obtain⟨b,rfl⟩:=Int.eq_ofNat_of_zero_le hb0
 refine⟨_,_,pc_extern (e:=sub64E) func213 (by kernel_rfl) (by rfl) (by kernel_rfl) (by kernel_rfl) rfl (fun w S μ vs hv => ?_),hr⟩
 obtain⟨u,v,t,rfl,h1,h2,h3⟩:=repVL_three hv
 rw[qU h1,qU h2,qU h3]
 refine⟨_,sub64_run x y b (by omega),.tup _ _ _ (.cons _ _ _ _ _ ?_ (.cons _ _ _ _ _ ?_ (.nil _)))⟩
 ·have:(((x+Extern.MathBitsCarry.m64-y-b)%Extern.MathBitsCarry.m64:Nat):Int)=((x:Int)-y-b)%18446744073709551616:=by
   simp only[Extern.MathBitsCarry.m64];omega
  rw[this];exact qC _ _
 ·have:((if x<y+b then 1 else 0:Nat):Int)=if (x:Int)<y+b then 1 else 0:=by
   split<;>split<;>omega
  rw[this];exact qC _ _
def isE (xs:List Int):Prop:=∀ x∈xs,0<=x/\x<18446744073709551616
def b136:Code:=(qi (qd f181)).getD 0 .skip
def pol136:Pol:={live:=[(3,[0,3,11,12])],own:=[]}
theorem enter136:Enters prog 181 f181 (qd f181):=⟨func181,by kernel_rfl,rfl⟩
def t136 (a:ByteArray) (xs:List Int) (l:Nat) (n i:Int):LS:=⟨[.s a,.sl 0 1 0 l,.i .i64 n,.i .i64 i],[some ⟨1,.ints .u64 xs⟩]⟩
theorem q136 (a:ByteArray) (xs:List Int) (l:Nat) (n i:Int):qe prog [] [] pol136 f181.ntmps 0 [0,3,11,12] b136 (t136 a xs l n i)=
 Tr.br (decide (i<n)) (.br (!decide ((8:Int)=0)&&(decide ((-9223372036854775808)<=i.tdiv (8:Int))&&decide (i.tdiv (8:Int)<=9223372036854775807))) (.br (decide (0<=i.tdiv (8:Int))&&decide (i.tdiv (8:Int)<(l:Int))) (.br ((0+(i.tdiv (8:Int)).toNat+1).ble xs.length) (.br (decide ((-9223372036854775808)<=(a.size:Int)-1)&&decide ((a.size:Int)-1<=9223372036854775807)) (.br (decide ((-9223372036854775808)<=(a.size:Int)-1-i)&&decide ((a.size:Int)-1-i<=9223372036854775807)) (.br (decide (0<=(a.size:Int)-1-i)&&decide ((a.size:Int)-1-i<(a.size:Int))) (.br (!decide ((8:Int)=0)) (.br (decide ((-9223372036854775808)<=i.tmod (8:Int)*8)&&decide (i.tmod (8:Int)*8<=9223372036854775807)) (.br (decide (0<=i.tmod (8:Int)*8)) (.br (decide (0<=i.tdiv (8:Int))&&decide (i.tdiv (8:Int)<(l:Int))) (.br ((0+(i.tdiv (8:Int)).toNat+1).ble xs.length) (.br (decide ((-9223372036854775808)<=i+1)&&decide (i+1<=9223372036854775807)) (.ok (.out .normal (LS.mk [.s a,.sl 0 1 0 l,.i .i64 n,.i .i64 (i+1)] [some (.mk 1 (.ints .u64 (xs.set (0+(i.tdiv (8:Int)).toNat) (IntKind.u64.wrap (↑(BitVec.ofInt IntKind.u64.bits (xs.getD (0+(i.tdiv (8:Int)).toNat) (0:Int)) ||| BitVec.ofInt IntKind.u64.bits (IntKind.u64.wrap (IntKind.u64.wrap (↑(a.1.toList.getD ((a.size:Int)-1-i).toNat (0:UInt8)).toNat:Int)*2^min (i.tmod (8:Int)*8).toNat IntKind.u64.bits))).toNat:Int)))))]))) (.no 7002)) (.no 6001)) (.no 6002)) (.no 6004)) (.no 6005)) (.no 6006)) (.no 6009)) (.no 6010)) (.no 6012)) (.no 6016)) (.no 6017)) (.no 6018)) (.ok (.out (.exit 0) (LS.mk [.s a,.sl 0 1 0 l,.i .i64 n,.i .i64 i] [some (.mk 1 (.ints .u64 xs))]))):=by kernel_rfl
def b148:Code:=(qi (qd f212)).getD 0 .skip
def pol148:Pol:={live:=[(1,[0])]}
def t148 (L:List Int) (o l:Nat):LS:=⟨[.sl 0 1 o l],[some ⟨1,.ints .u64 L⟩]⟩
theorem q148 (L:List Int) (o l:Nat):qe prog [] [] pol148 f212.ntmps 1 [0] b148 (t148 L o l)=
 Tr.br (decide (0<(l:Int))) (.br (decide ((-9223372036854775808)<=(l:Int)-1)&&decide ((l:Int)-1<=9223372036854775807)) (.br (decide (0<=(l:Int)-1)&&decide ((l:Int)-1<(l:Int))) (.br ((o+((l:Int)-1).toNat+1).ble L.length) (.br (decide (L.getD (o+((l:Int)-1).toNat) (0:Int)=0)) (.br (decide ((-9223372036854775808)<=(l:Int)-1)&&decide ((l:Int)-1<=9223372036854775807)) (.br (decide (0<=(l:Int)-1)&&decide ((l:Int)-1<=(l:Int))) (.ok (.out .normal (LS.mk [.sl 0 1 (o+0) (((l:Int)-1).toNat-0)] [some (.mk 1 (.ints .u64 L))]))) (.no 3002)) (.no 3003)) (.ok (.out (.exit 0) (LS.mk [.sl 0 1 o l] [some (.mk 1 (.ints .u64 L))])))) (.no 2003)) (.no 2004)) (.no 2005)) (.ok (.out (.exit 0) (LS.mk [.sl 0 1 o l] [some (.mk 1 (.ints .u64 L))]))):=by kernel_rfl
def b137:Code:=(qi (qd f182)).getD 0 .skip
def pol137:Pol:={live:=[(2,[0,3])]}
def t137 (xs:List Int) (n:Int):LS:=⟨[.lst 1 (.ints .u64 xs),.i .i64 n],[]⟩
theorem q137 (xs:List Int) (n:Int):qe prog [] [] pol137 f182.ntmps 0 [0,3] b137 (t137 xs n)=
 Tr.br (decide (0<=n)&&decide (n<(xs.length:Int))) (.br (decide (xs.getD n.toNat 0=0)) (.br (decide ((-9223372036854775808)<=n+1)&&decide (n+1<=9223372036854775807)) (.ok (.out .normal (LS.mk [.lst 1 (.ints .u64 xs),.i .i64 (n+1)] []))) (.no 4002)) (.ok (.out (.exit 0) (LS.mk [.lst 1 (.ints .u64 xs),.i .i64 n] [])))) (.no 3003):=by kernel_rfl
def b138:Code:=(qi (qd f183)).getD 0 .skip
def pol138:Pol:={live:=[(5,[0,1,15,16])],wr:=[(212,[0])],own:=[47]}
def t138 (L:List Int) (o l:Nat) (s n i:Int):LS:=⟨[.sl 0 1 o l,.i .i64 s,.i .i64 n,.i .i64 i],[some ⟨1,.ints .u64 L⟩]⟩
theorem q138 (L:List Int) (o l:Nat) (s n i:Int):qe prog [] [] pol138 f183.ntmps 1 [0,1,15,16] b138 (t138 L o l s n i)=
 Tr.br (decide (i<n)) (.br (decide (0<=i)&&decide (i<(l:Int))) (.br ((o+i.toNat+1).ble L.length) (.br (decide (0<=s)) (.br (decide (0<=i)&&decide (i<(l:Int))) (.br ((o+i.toNat+1).ble L.length) (.br (decide ((-9223372036854775808)<=i+1)&&decide (i+1<=9223372036854775807)) (.br (decide (i+1<(l:Int))) (.br (decide (0<=i)&&decide (i<(l:Int))) (.br ((o+i.toNat+1).ble (L.set (o+i.toNat) ((L.getD (o+i.toNat) (0:Int)).fdiv ((2:Int)^min s.toNat IntKind.u64.bits))).length) (.br (decide ((-9223372036854775808)<=i+1)&&decide (i+1<=9223372036854775807)) (.br (decide (0<=i+1)&&decide (i+1<(l:Int))) (.br ((o+(i+1).toNat+1).ble (L.set (o+i.toNat) ((L.getD (o+i.toNat) (0:Int)).fdiv ((2:Int)^min s.toNat IntKind.u64.bits))).length) (.br (decide ((-9223372036854775808)<=64-s)&&decide (64-s<=9223372036854775807)) (.br (decide ((0:Int)<=64-s)) (.br (decide (0<=i)&&decide (i<(l:Int))) (.br ((o+i.toNat+1).ble (L.set (o+i.toNat) ((L.getD (o+i.toNat) (0:Int)).fdiv ((2:Int)^min s.toNat IntKind.u64.bits))).length) (.br (decide ((-9223372036854775808)<=i+1)&&decide (i+1<=9223372036854775807)) (.ok (.out .normal (LS.mk [.sl 0 1 o l,.i .i64 s,.i .i64 n,.i .i64 (i+1)] [some (.mk 1 (.ints .u64 ((L.set (o+i.toNat) ((L.getD (o+i.toNat) (0:Int)).fdiv ((2:Int)^min s.toNat IntKind.u64.bits))).set (o+i.toNat) (IntKind.u64.wrap (↑(BitVec.ofInt IntKind.u64.bits ((L.set (o+i.toNat) ((L.getD (o+i.toNat) (0:Int)).fdiv ((2:Int)^min s.toNat IntKind.u64.bits))).getD (o+i.toNat) (0:Int)) ||| BitVec.ofInt IntKind.u64.bits (IntKind.u64.wrap ((L.set (o+i.toNat) ((L.getD (o+i.toNat) (0:Int)).fdiv ((2:Int)^min s.toNat IntKind.u64.bits))).getD (o+(i+1).toNat) (0:Int)*2^min (64-s).toNat IntKind.u64.bits))).toNat:Int)))))]))) (.no 11002)) (.no 10001)) (.no 10002)) (.no 10004)) (.no 10005)) (.no 10007)) (.no 10008)) (.no 10009)) (.no 10012)) (.no 10013)) (.br (decide ((-9223372036854775808)<=i+1)&&decide (i+1<=9223372036854775807)) (.ok (.out .normal (LS.mk [.sl 0 1 o l,.i .i64 s,.i .i64 n,.i .i64 (i+1)] [some (.mk 1 (.ints .u64 (L.set (o+i.toNat) ((L.getD (o+i.toNat) (0:Int)).fdiv ((2:Int)^min s.toNat IntKind.u64.bits)))))]))) (.no 11002))) (.no 9004)) (.no 8001)) (.no 8002)) (.no 8003)) (.no 8005)) (.no 8006)) (.ok (.out (.exit 0) (LS.mk [.sl 0 1 o l,.i .i64 s,.i .i64 n,.i .i64 i] [some (.mk 1 (.ints .u64 L))]))):=by kernel_rfl
def b139:Code:=(qi (qd f184)).getD 0 .skip
def pol139:Pol:={live:=[(4,[0,1,4,5])]}
def t139 (xs ys:List Int) (b:Bool) (i:Int):LS:=⟨[.lst 1 (.ints .u64 xs),.lst 1 (.ints .u64 ys),.bl b,.i .i64 i],[]⟩
theorem q139 (xs ys:List Int) (b:Bool) (i:Int):qe prog [] [] pol139 f184.ntmps 0 [0,1,4,5] b139 (t139 xs ys b i)=
 Tr.br (decide (0<=i)) (.br (decide (0<=i)&&decide (i<(xs.length:Int))) (.br (decide (0<=i)&&decide (i<(ys.length:Int))) (.br (!decide (xs.getD i.toNat 0=ys.getD i.toNat 0)) (.br (decide (0<=i)&&decide (i<(xs.length:Int))) (.br (decide (0<=i)&&decide (i<(ys.length:Int))) (.ok (.out .ret (LS.mk [.lst 1 (.ints .u64 xs),.lst 1 (.ints .u64 ys),.b (decide (xs.getD i.toNat 0<ys.getD i.toNat 0)),.i .i64 i] []))) (.no 8004)) (.no 8008)) (.br (decide ((-9223372036854775808)<=i-1)&&decide (i-1<=9223372036854775807)) (.ok (.out .normal (LS.mk [.lst 1 (.ints .u64 xs),.lst 1 (.ints .u64 ys),.bl b,.i .i64 (i-1)] []))) (.no 6002))) (.no 7003)) (.no 7007)) (.ok (.out (.exit 0) (LS.mk [.lst 1 (.ints .u64 xs),.lst 1 (.ints .u64 ys),.bl b,.i .i64 i] []))):=by kernel_rfl
def b140:Code:=(qi (qd f185)).getD 0 .skip
def pol140:Pol:={live:=[(3,[0,1,5,9,10])],wr:=[(212,[0])],own:=[36]}
def t140 (L ys:List Int) (o l:Nat) (c n i:Int):LS:=⟨[.sl 0 1 o l,.lst 1 (.ints .u64 ys),.i .u64 c,.i .i64 n,.i .i64 i],[some ⟨1,.ints .u64 L⟩]⟩
theorem q140 (L ys:List Int) (o l:Nat) (c n i:Int):qe prog [(213,s149)] [] pol140 f185.ntmps 1 [0,1,5,9,10] b140 (t140 L ys o l c n i)=
 Tr.br (decide (i<n)) (.br (decide (i<(ys.length:Int))) (.br (decide (0<=i)&&decide (i<(ys.length:Int))) (.br (decide (0<=i)&&decide (i<(l:Int))) (.br ((o+i.toNat+1).ble L.length) (.br (decide (0<=L.getD (o+i.toNat) (0:Int))&&decide (L.getD (o+i.toNat) (0:Int)<18446744073709551616)&&decide (0<=ys.getD i.toNat 0)&&decide (ys.getD i.toNat 0<18446744073709551616)&&decide (0<=c)&&decide (c<=1)) (.br (decide (0<=i)&&decide (i<(l:Int))) (.br ((o+i.toNat+1).ble L.length) (.br (decide ((-9223372036854775808)<=i+1)&&decide (i+1<=9223372036854775807)) (.ok (.out .normal (LS.mk [.sl 0 1 o l,.lst 1 (.ints .u64 ys),.i .u64 (if L.getD (o+i.toNat) (0:Int)<ys.getD i.toNat 0+c then (1:Int)else (0:Int)),.i .i64 n,.i .i64 (i+1)] [some (.mk 1 (.ints .u64 (L.set (o+i.toNat) ((L.getD (o+i.toNat) 0-ys.getD i.toNat 0-c)%(18446744073709551616:Int)))))]))) (.no 10002)) (.no 9002)) (.no 9003)) (.no 1)) (.no 9010)) (.no 9011)) (.no 8003)) (.br (decide (0<=i)&&decide (i<(l:Int))) (.br ((o+i.toNat+1).ble L.length) (.br (decide (0<=L.getD (o+i.toNat) (0:Int))&&decide (L.getD (o+i.toNat) (0:Int)<18446744073709551616)&&decide ((0:Int)<=0)&&decide ((0:Int)<18446744073709551616)&&decide (0<=c)&&decide (c<=1)) (.br (decide (0<=i)&&decide (i<(l:Int))) (.br ((o+i.toNat+1).ble L.length) (.br (decide ((-9223372036854775808)<=i+1)&&decide (i+1<=9223372036854775807)) (.ok (.out .normal (LS.mk [.sl 0 1 o l,.lst 1 (.ints .u64 ys),.i .u64 (if L.getD (o+i.toNat) (0:Int)<0+c then (1:Int)else (0:Int)),.i .i64 n,.i .i64 (i+1)] [some (.mk 1 (.ints .u64 (L.set (o+i.toNat) ((L.getD (o+i.toNat) (0:Int)-0-c)%(18446744073709551616:Int)))))]))) (.no 10002)) (.no 9002)) (.no 9003)) (.no 1)) (.no 9010)) (.no 9011))) (.ok (.out (.exit 0) (LS.mk [.sl 0 1 o l,.lst 1 (.ints .u64 ys),.i .u64 c,.i .i64 n,.i .i64 i] [some (.mk 1 (.ints .u64 L))]))):=by kernel_rfl
theorem E_eq:(18446744073709551616:Nat)=256^8:=by decide
theorem isE_pd (L n:Nat):isE (pd 18446744073709551616 L n):=pd_mem (by omega)
theorem isE_take {zs:List Int} (h:isE zs) (i:Nat):isE (zs.take i):=fun a ha=>h a (List.mem_of_mem_take ha)
theorem isE_drop {zs:List Int} (h:isE zs) (i:Nat):isE (zs.drop i):=fun a ha=>h a (List.mem_of_mem_drop ha)
theorem isE_app {xs ys:List Int} (h:isE xs) (h':isE ys):isE (xs++ys):=fun a ha=>(List.mem_append.1 ha).elim (h a) (h' a)
theorem isE_dg (n:Nat):isE (dg 18446744073709551616 n):=dg_mem (by omega) n
theorem digE_of {zs:List Int} (h:isE zs) {L v:Nat} (hl:zs.length=L) (hv:lv 18446744073709551616 zs=v):zs=pd 18446744073709551616 L v:=by
 rw[<-hl,<-hv]
 exact(pd_lv (by decide) h).symm
theorem step136 (a:ByteArray) (l i:Nat) (hi:i<a.size) (hs:a.size<=1073741824) (hl:l=(a.size+7)/8):
  (qe prog [] [] pol136 f181.ntmps 0 [0,3,11,12] b136 (t136 a (pd 18446744073709551616 l (bv a.data.toList%256^i)) l (a.size:Nat) (i:Nat))).run=
   some (.out .normal (t136 a (pd 18446744073709551616 l (bv a.data.toList%256^(i+1))) l (a.size:Nat) ((i+1:Nat):Int))):=by
 have hal:=ba_len a
 have h4:((i:Int)).tdiv 8=((i/8:Nat):Int):=tdiv_nat i 8
 have h5:((i:Int)).tmod 8=((i%8:Nat):Int):=tmod_nat i 8
 have hk:i/8<l:=by omega
 have e1:0+((i/8:Nat):Int).toNat=i/8:=by rw[Int.toNat_natCast];omega
 have e2:((a.size:Int)-1-(i:Int)).toNat=a.size-1-i:=by omega
 have e3:min (((i%8:Nat):Int)*8).toNat IntKind.u64.bits=8*(i%8):=by
  simp only[IntKind.bits];omega
 have e4:(a.data.toList.getD (a.size-1-i) 0).toNat=bv a.data.toList/256^i%256:=by
  rw[bv_get _ _ (by omega),hal,show a.size-1-(a.size-1-i)=i by omega]
 have e5:((i:Int)+1)=((i+1:Nat):Int):=by simp
 rw[q136,h4,h5,e1,e2,e3,e4,e5,pd_getD hk]
 rw[k5 (kF (by omega)),k5 (by rw[kG (show ¬ (8:Int)=0 by omega)];simp only[Bool.not_false,Bool.true_and,kD,kE];omega)]
 repeat rw[k5 (by first|(simp only[kD,kE,kH,qn];omega)|decide)]
 rw[k7]
 have hM:bv a.data.toList%256^i<256^i:=Nat.mod_lt _ (Nat.pow_pos (by omega))
 have hb:bv a.data.toList/256^i%256<256:=Nat.mod_lt _ (by omega)
 generalize hMe:bv a.data.toList%256^i=M at hM ⊢
 generalize hbe:bv a.data.toList/256^i%256=b at hb ⊢
 have hnext:bv a.data.toList%256^(i+1)=M+b*256^i:=by
  rw[Nat.mod_pow_succ,hMe,hbe,Nat.mul_comm]
 have hie:8*(i/8)+i%8=i:=Nat.div_add_mod i 8
 have hpow:256^i=18446744073709551616^(i/8)*256^(i%8):=by rw[E_eq,<-Nat.pow_mul,<-Nat.pow_add,hie]
 have hx:M/18446744073709551616^(i/8)%18446744073709551616<256^(i%8):=by
  refine Nat.lt_of_le_of_lt (Nat.mod_le _ _) ?_
  rw[Nat.div_lt_iff_lt_mul (Nat.pow_pos (by omega)),Nat.mul_comm,<-hpow];exact hM
 have hp:(2:Nat)^(8*(i%8))=256^(i%8):=by rw[Nat.pow_mul]
 have hpi:(2:Int)^(8*(i%8))=((256^(i%8):Nat):Int):=by rw[<-hp];simp
 have hp3:256^(i%8)<=256^7:=Nat.pow_le_pow_right (by omega) (by omega)
 have hbb:(b+1)*256^(i%8)<=256*256^(i%8):=Nat.mul_le_mul_right _ (by omega)
 rw[Nat.add_mul,Nat.one_mul]at hbb
 have hval:IntKind.u64.wrap ((BitVec.ofInt IntKind.u64.bits ((M/18446744073709551616^(i/8)%18446744073709551616:Nat):Int) ||| BitVec.ofInt IntKind.u64.bits (IntKind.u64.wrap (IntKind.u64.wrap (b:Int)*(2:Int)^(8*(i%8))))).toNat:Int)=
   ((M/18446744073709551616^(i/8)%18446744073709551616+b*256^(i%8):Nat):Int):=by
  have w1:IntKind.u64.wrap (b:Int)=b:=w64 (by omega) (by omega)
  have hbi:(b:Int)*((256^(i%8):Nat):Int)=((b*256^(i%8):Nat):Int):=by simp
  have w2:IntKind.u64.wrap ((b:Int)*(2:Int)^(8*(i%8)))=(b:Int)*(2:Int)^(8*(i%8)):=by
   rw[hpi,hbi];exact w64 (by omega) (by omega)
  rw[w1,w2,or64c (8*(i%8)) b _ (by omega) (by omega) (by rw[hpi];omega) (by rw[hpi,hbi];omega),hpi,hbi]
  omega
 have hadd:=pd_add (c:=256) (e:=8) (L:=l) (M:=M) (b:=b) (i:=i) (by omega) (by omega) hM hb hk
 rw[<-E_eq]at hadd
 rw[hval,hadd,hnext]
 rfl
def lb (a:ByteArray):List Int:=hide (pd 18446744073709551616 ((a.size+7)/8) (bv a.data.toList))
def l136:qA:=fun ls K=>match ls with
 | ⟨[.s a,.sl 0 1 0 l,.i .i64 n,.i .i64 i],[some ⟨1,.ints .u64 xs⟩]⟩=>.br (decide (i=0)&&decide (n=a.size)&&decide (l=(a.size+7)/8)&&decide (xs=List.replicate l 0)&&Nat.ble a.size 1073741824)
   (K (.exit 0) (t136 a (pd 18446744073709551616 l (bv a.data.toList)) l n n)) (.no 1)
 | _=>.no 1
include hG in
theorem loop136:qz prog G f181.ntmps 0 [0,3,11,12] b136 l136:=by
 intro ls K x hm h
 unfold l136 at h
 split at h
 case h_2=>cases h
 rename_i a l n i xs
 obtain⟨hc,hr⟩:=k8 h
 simp only[kD,kE,kH]at hc
 obtain⟨⟨⟨⟨rfl,rfl⟩,rfl⟩,rfl⟩,hs⟩:=hc
 have h0:List.replicate ((a.size+7)/8) 0=pd 18446744073709551616 ((a.size+7)/8) (bv a.data.toList%256^0):=by
  rw[Nat.pow_zero,Nat.mod_one,pd_zero]
 have hN:bv a.data.toList%256^a.size=bv a.data.toList:=by
  have:=bv_lt a.data.toList
  rw[ba_len]at this
  exact Nat.mod_eq_of_lt this
 rw[h0]
 refine⟨_,_,qx (Goes.count (fun i=>t136 a (pd 18446744073709551616 ((a.size+7)/8) (bv a.data.toList%256^i)) ((a.size+7)/8) (a.size:Nat) ((i:Nat):Int)) (e:=.exit 0) (by simp) a.size 0 (fun j h1 h2 => ?_) ?_),hr⟩
 ·exact qb hG OrcOK.nil mix (L:=[]) (pol:=pol136) (O:=[]) (kA (by kernel_rfl)) (Nat.zero_le _) (step136 a _ j (by omega) hs rfl)
 ·refine qb hG OrcOK.nil mix (L:=[]) (pol:=pol136) (O:=[]) (kA (by kernel_rfl)) (Nat.zero_le _) ?_
  rw[Nat.zero_add,hN,q136,k6 (kG (by omega)),k7]
  rfl
theorem p136 (a:ByteArray):evF prog [] [(3,l136)] pol136 f181 [.s a] [] ql=
 Tr.br (decide ((-9223372036854775808)<=(a.size:Int)+7)&&decide ((a.size:Int)+7<=9223372036854775807)) (.br (!decide ((8:Int)=0)&&(decide ((-9223372036854775808)<=((a.size:Int)+7).tdiv (8:Int))&&decide (((a.size:Int)+7).tdiv (8:Int)<=9223372036854775807))) (.br (decide (((a.size:Int)+7).tdiv (8:Int)=((a.size:Int)+7).tdiv (8:Int))&&decide (0<=((a.size:Int)+7).tdiv (8:Int))&&decide (((a.size:Int)+7).tdiv (8:Int)<=4294967296)&&prog.types[(154:Nat)].bytes.ble 1024) (.br (decide ((0:Int)=0)&&decide ((a.size:Int)=(a.size:Int))&&decide ((((a.size:Int)+7).tdiv (8:Int)).toNat=(a.size+7)/(8:Nat))&&decide (List.replicate (((a.size:Int)+7).tdiv (8:Int)).toNat (0:Int)=List.replicate (((a.size:Int)+7).tdiv (8:Int)).toNat (0:Int))&&a.size.ble 1073741824) (.br ((((a.size:Int)+7).tdiv (8:Int)).toNat.ble (pd (18446744073709551616:Nat) (((a.size:Int)+7).tdiv (8:Int)).toNat (bv a.1.toList)).length) (.ok (.ret (.fr 1 (.ints .u64 (List.take (((a.size:Int)+7).tdiv (8:Int)).toNat (List.drop 0 (pd (18446744073709551616:Nat) (((a.size:Int)+7).tdiv (8:Int)).toNat (bv a.1.toList)))))) [])) (.no 15)) (.no 1)) (.no 2002)) (.no 2003)) (.no 2004):=by kernel_rfl
def g136:Spec:=fun args hs K=>match args,hs with
 | [.s a],[]=>.br (bz a) (K (.fr 1 (.ints .u64 (lb a))) []) (.no 1)
 | _,_=>.no 1
theorem u64_ty:prog.types[(154:Nat)].bytes.ble (1024:Nat)=true:=by kernel_rfl
include hG in
theorem gk136:qc prog G 181 g136:=by
 refine qq hG OrcOK.nil mix enter136 (L:=[(3,l136)]) (pol:=pol136) fun args hs K x h => ?_
 unfold g136 at h
 split at h
 case h_2=>cases h
 rename_i a
 obtain⟨hc,hr⟩:=k8 h
 rw[bz_iff]at hc
 refine⟨qN (b:=b136) (live:=[0,3,11,12]) (sp:=l136) (m:=0) (by kernel_rfl) (by kernel_rfl) (by kernel_rfl) (loop136 hG),_,_,_,?_,.refl _,hr⟩
 have ht:((a.size:Int)+7).tdiv 8=(((a.size+7)/8:Nat):Int):=by
  have:=tdiv_nat (a.size+7) 8
  simpa using this
 rw[p136]
 simp only[ht,Int.toNat_natCast,u64_ty,Bool.and_true,List.drop_zero]
 rw[pd_take (Nat.le_refl _)]
 have:lb a=pd 18446744073709551616 ((a.size+7)/8) (bv a.data.toList):=qh _
 rw[this]
 repeat rw[k5 (by first|(simp only[kD,kE,kH,qn,decide_true,Bool.true_and,Bool.and_true];omega)|decide|(rw[kG (show ¬ (8:Int)=0 by omega)];simp only[Bool.not_false,Bool.true_and,kD,kE];omega))]
 rw[k7]
def qO (o n:Nat) (L:List Int):Nat:=lv 18446744073709551616 ((L.drop o).take n)
theorem segE_succ {L:List Int} {o l:Nat} (h:o+(l+1)<=L.length):qO o (l+1) L=qO o l L+18446744073709551616^l*(L.getD (o+l) 0).toNat:=by
 unfold qO
 have e:(L.drop o).take (l+1)=(L.drop o).take l++[L.getD (o+l) 0]:=by
  rw[List.take_succ_eq_append_getElem (by rw[List.length_drop];omega),List.getElem_drop,List.getD_eq_getElem?_getD,List.getElem?_eq_getElem (by omega)]
  rfl
 rw[e,lv_append,List.length_take,List.length_drop,Nat.min_eq_left (by omega)]
 simp[lv]
theorem segE_lt {L:List Int} (h:isE L) (o n:Nat):qO o n L<18446744073709551616^n:=by
 have h1:=lv_lt (B:=18446744073709551616) (xs:=(L.drop o).take n) fun x hx=>by have:=isE_take (isE_drop h o) n x hx;omega
 exact Nat.lt_of_lt_of_le h1 (Nat.pow_le_pow_right (by omega) (by rw[List.length_take];omega))
theorem getE {L:List Int} (h:isE L) {j:Nat} (hj:j<L.length):0<=L.getD j 0/\L.getD j 0<18446744073709551616:=by
 rw[List.getD_eq_getElem?_getD,List.getElem?_eq_getElem hj]
 exact h _ (List.getElem_mem hj)
include hG in
theorem goes148 (L:List Int) (o:Nat) (hE:isE L) (hs:L.length<=1073741824):∀ l,o+l<=L.length->Goes (Rnd prog G f212.ntmps 1 [0] b148) (t148 L o l) (.exit 0) (t148 L o (dg 18446744073709551616 (qO o l L)).length)
 | 0,_=>by
  refine .last _ _ _ (qb hG OrcOK.nil mix (L:=[]) (pol:=pol148) (O:=[]) (kA (by kernel_rfl)) (Nat.le_refl _) ?_) (by simp)
  rw[q148,k6 (kG (by omega)),k7]
  rfl
 | l+1,hl=>by
  have e1:(((l+1:Nat):Int)-1).toNat=l:=by omega
  have hd:=getE hE (j:=o+l) (by omega)
  have hsucc:=segE_succ (L:=L) (o:=o) (l:=l) hl
  have hlt:=segE_lt hE o l
  by_cases h0:L.getD (o+l) 0=0
  ·refine .more _ (t148 L o l) _ _ (qb hG OrcOK.nil mix (L:=[]) (pol:=pol148) (O:=[]) (kA (by kernel_rfl)) (Nat.le_refl _) ?_) ?_
   ·rw[q148,e1]
    repeat rw[k5 (by first|(simp only[kD,kE,kH];omega)|exact kF h0)]
    rw[k7]
    rfl
   ·have:=goes148 L o hE hs l (by omega)
    rw[h0]at hsucc
    rw[hsucc]
    exact this
  ·refine .last _ _ _ (qb hG OrcOK.nil mix (L:=[]) (pol:=pol148) (O:=[]) (kA (by kernel_rfl)) (Nat.le_refl _) ?_) (by simp)
   have hlen:(dg 18446744073709551616 (qO o (l+1) L)).length=l+1:=by
    have h1:(dg 18446744073709551616 (qO o (l+1) L)).length<=l+1:=dg_length_le (by omega) (segE_lt hE o (l+1))
    rcases Nat.lt_or_ge l (dg 18446744073709551616 (qO o (l+1) L)).length with h2|h2
    ·omega
    ·have h3:=dg_lt (B:=18446744073709551616) (by omega) (qO o (l+1) L)
     have h4:18446744073709551616^(dg 18446744073709551616 (qO o (l+1) L)).length<=18446744073709551616^l:=Nat.pow_le_pow_right (by omega) h2
     have h5:18446744073709551616^l*1<=18446744073709551616^l*(L.getD (o+l) 0).toNat:=Nat.mul_le_mul_left _ (by omega)
     omega
   rw[hlen,q148,e1]
   rw[k5 (kF (by omega)),k5 (by simp only[kD,kE];omega),k5 (by simp only[kD,kE];omega),k5 (by rw[kH];omega),k6 (kG h0),k7]
   rfl
theorem enter148:Enters prog 212 f212 (qd f212):=⟨func212,by kernel_rfl,rfl⟩
def cutN (o l:Nat) (L:List Int):Nat:=hide (dg 18446744073709551616 (qO o l L)).length
def Q148 (o l:Nat) (L:List Int):Prop:=isE L/\L.length<=1073741824/\o+l<=L.length
def l148:qA:=fun ls K=>match ls with
 | ⟨[.sl 0 1 o l],[some ⟨1,.ints .u64 L⟩]⟩=>.br (qg (Q148 o l L)) (K (.exit 0) (t148 L o (cutN o l L))) (.no 1)
 | _=>.no 1
theorem p148 (o l:Nat) (L:List Int):evF prog [] [(1,l148)] pol148 f212 [.sl 0 1 o l] [⟨1,.ints .u64 L⟩] ql=
 Tr.br (qg (Q148 o l L)) (.ok (.ret (.sl 0 1 o (cutN o l L)) [Blk.mk 1 (.ints .u64 L)])) (.no 1):=by kernel_rfl
def g148:Spec:=fun args hs K=>match args,hs with
 | [.sl 0 1 o l],[⟨1,.ints .u64 L⟩]=>.br (qg (Q148 o l L)) (K (.sl 0 1 o (cutN o l L)) [⟨1,.ints .u64 L⟩]) (.no 1)
 | _,_=>.no 1
include hG in
theorem gk148:qc prog G 212 g148:=by
 refine qq hG OrcOK.nil mix enter148 (L:=[(1,l148)]) (pol:=pol148) fun args hs K x h => ?_
 unfold g148 at h
 split at h
 case h_2=>cases h
 rename_i o l L
 obtain⟨hc,hr⟩:=k8 h
 refine⟨qN (b:=b148) (live:=[0]) (sp:=l148) (m:=1) (by kernel_rfl) (by kernel_rfl) (by kernel_rfl) ?_,_,_,_,?_,.refl _,hr⟩
 ·intro ls K x hm h
  unfold l148 at h
  split at h
  case h_2=>cases h
  obtain⟨hc,hr⟩:=k8 h
  obtain⟨h1,h2,h3⟩:=decP_iff.1 hc
  unfold cutN at hr
  rw[qh]at hr
  exact⟨_,_,qx (goes148 hG _ _ h1 h2 _ h3),hr⟩
 ·rw[p148,k5 hc,k7]
def ev2 (X:Nat):Nat:=Go.Lib.ctzFrom X X
theorem ev2_spec {X:Nat} (h:X≠0):∃ m,X=2^ev2 X*(2*m+1):=by
 obtain⟨m,h1,_⟩:=Go.Lib.ctzFrom_spec X X (by omega) Nat.lt_two_pow_self
 exact⟨m,h1⟩
theorem ev2_unique {a b m k:Nat} (h:2^a*(2*m+1)=2^b*(2*k+1)):a=b:=by
 rcases Nat.lt_trichotomy a b with hl|hl|hl
 ·obtain⟨d,rfl⟩:∃ d,b=a+(d+1):=⟨b-a-1,by omega⟩
  rw[Nat.pow_add,Nat.mul_assoc]at h
  have:=Nat.eq_of_mul_eq_mul_left (Nat.pow_pos (by omega)) h
  rw[Nat.pow_succ,Nat.mul_comm (2^d),Nat.mul_assoc]at this
  omega
 ·exact hl
 ·obtain⟨d,rfl⟩:∃ d,a=b+(d+1):=⟨a-b-1,by omega⟩
  rw[Nat.pow_add,Nat.mul_assoc]at h
  have:=Nat.eq_of_mul_eq_mul_left (Nat.pow_pos (by omega)) h
  rw[Nat.pow_succ,Nat.mul_comm (2^d),Nat.mul_assoc]at this
  omega
theorem ev2_eq {X a m:Nat} (h:X=2^a*(2*m+1)):ev2 X=a:=by
 have h0:X≠0:=by
  rw[h]
  exact Nat.pos_iff_ne_zero.1 (Nat.mul_pos (Nat.pow_pos (by omega)) (by omega))
 obtain⟨k,hk⟩:=ev2_spec h0
 exact ev2_unique (hk.symm.trans h)
theorem ctz64_ev2 {x Z n:Nat} (h0:x≠0) (hx:x<18446744073709551616):ev2 (18446744073709551616^n*(x+18446744073709551616*Z))=64*n+Go.Lib.ctz 64 x/\Go.Lib.ctz 64 x<64:=by
 have hc:Go.Lib.ctz 64 x=Go.Lib.ctzFrom 64 x:=if_neg h0
 obtain⟨m,h1,h2⟩:=Go.Lib.ctzFrom_spec 64 x (by omega) (by omega)
 rw[hc]
 generalize Go.Lib.ctzFrom 64 x=k at*
 refine⟨ev2_eq (m:=m+2^(63-k)*Z) ?_,h2⟩
 have e1:18446744073709551616^n=2^(64*n):=by rw[Nat.pow_mul]
 have e2:18446744073709551616=2^k*(2*2^(63-k)):=by
  rw[<-Nat.pow_succ',<-Nat.pow_add,show k+(63-k).succ=64 by omega]
 rw[Nat.pow_add,e1,Nat.mul_assoc]
 congr 1
 have e3:18446744073709551616*Z=2^k*(2*(2^(63-k)*Z)):=by
  conv=>lhs;rw[e2]
  rw[Nat.mul_assoc,Nat.mul_assoc]
 rw[e3]
 conv=>lhs;rw[h1]
 rw[<-Nat.mul_add]
 congr 1
 omega
theorem lv_zeros_pre {xs:List Int}:∀ {n:Nat},(∀ j,j<n->xs.getD j 0=0)->n<xs.length->lv 18446744073709551616 xs=18446744073709551616^n*((xs.getD n 0).toNat+18446744073709551616*lv 18446744073709551616 (xs.drop (n+1))):=by
 intro n h hn
 have h1:=lv_take_drop 18446744073709551616 xs n (by omega)
 have h2:lv 18446744073709551616 (xs.take n)=0:=by
  have:xs.take n=List.replicate n 0:=by
   apply List.ext_getElem
   ·simp;omega
   ·intro j a b
    simp only[List.length_take]at a
    have:=h j (by omega)
    rw[List.getD_eq_getElem?_getD,List.getElem?_eq_getElem (by omega)]at this
    simpa using this
  rw[this,lv_zeros]
 have h3:xs.drop n=xs.getD n 0::xs.drop (n+1):=by
  rw[List.drop_eq_getElem_cons hn,List.getD_eq_getElem?_getD,List.getElem?_eq_getElem hn];rfl
 rw[h1,h2,h3]
 simp[lv]
include hG in
theorem goes137 (xs:List Int) (hE:isE xs) (hs:xs.length<=1073741824) (h0:lv 18446744073709551616 xs≠0):∀ (f n:Nat),n+f=xs.length->(∀ j,j<n->xs.getD j 0=0)->
  ∃ m,m<xs.length/\(∀ j,j<m->xs.getD j 0=0)/\xs.getD m 0≠0/\Goes (Rnd prog G f182.ntmps 0 [0,3] b137) (t137 xs (n:Nat)) (.exit 0) (t137 xs (m:Nat))
 | 0,n,hn,hz=>by
  exfalso
  apply h0
  have:xs=List.replicate xs.length 0:=by
   apply List.ext_getElem
   ·simp
   ·intro j a b
    have:=hz j (by omega)
    rw[List.getD_eq_getElem?_getD,List.getElem?_eq_getElem (by omega)]at this
    simpa using this
  rw[this,lv_zeros]
 | f+1,n,hn,hz=>by
  by_cases h:xs.getD n 0=0
  ·obtain⟨m,g1,g2,g3,g4⟩:=goes137 xs hE hs h0 f (n+1) (by omega) (fun j hj=>by
    rcases Nat.lt_or_ge j n with a|a
    ·exact hz j a
    ·rw[show j=n by omega];exact h)
   refine⟨m,g1,g2,g3,.more _ _ _ _ (qb hG OrcOK.nil mix (L:=[]) (pol:=pol137) (O:=[]) (kA (by kernel_rfl)) (Nat.zero_le _) ?_) g4⟩
   rw[q137,Int.toNat_natCast,k5 (by simp only[kD,kE];omega),k5 (kF h),k5 (by simp only[kD,kE];omega),k7]
   rfl
  ·refine⟨n,by omega,hz,h,.last _ _ _ (qb hG OrcOK.nil mix (L:=[]) (pol:=pol137) (O:=[]) (kA (by kernel_rfl)) (Nat.zero_le _) ?_) (by simp)⟩
   rw[q137,Int.toNat_natCast,k5 (by simp only[kD,kE];omega),k6 (kG h),k7]
   rfl
theorem enter137:Enters prog 182 f182 (qd f182):=⟨func182,by kernel_rfl,rfl⟩
theorem p137 (xs:List Int) (m:Nat):evF prog [(211,g147)] [(2,qy (t137 xs 0) (.exit 0) (t137 xs (m:Nat)))] pol137 f182 [.lst 1 (.ints .u64 xs)] [] ql=
 Tr.br (qg (isLS (LS.mk [.lst 1 (.ints .u64 xs),.i .i64 0] []) (LS.mk [.lst 1 (.ints .u64 xs),.i .i64 0] []))) (.br (ib ((64:Int)*(m:Int))) (.br (ix ((m:Int)) ((xs.length:Int))) (.br (ix (xs.getD (m:Int).toNat (0:Int)) ((18446744073709551616:Int))) (.br (ib ((64:Int)*(m:Int)+(↑(Lib.ctz (64:Nat) (xs.getD (m:Int).toNat (0:Int)).toNat):Int))) (.ok (.ret (.i .i64 ((64:Int)*(m:Int)+(↑(Lib.ctz (64:Nat) (xs.getD (m:Int).toNat (0:Int)).toNat):Int))) [])) (.no 5002)) (.no 1)) (.no 5005)) (.no 5008)) (.no 1):=by kernel_rfl
def evN (xs:List Int):Nat:=hide (ev2 (lv 18446744073709551616 xs))
def Q137 (xs:List Int):Prop:=isE xs/\xs.length<=1073741824/\lv 18446744073709551616 xs≠0
def g137:Spec:=fun args hs K=>match args,hs with
 | [.lst 1 (.ints .u64 xs)],[]=>.br (qg (Q137 xs)) (K (.i .i64 (evN xs:Nat)) []) (.no 1)
 | _,_=>.no 1
include hG in
theorem gk137 (hT:qp G):qc prog G 182 g137:=by
 intro args hs K x h
 unfold g137 at h
 split at h
 case h_2=>cases h
 rename_i xs
 obtain⟨hc,hr⟩:=k8 h
 obtain⟨hE,hs,h0⟩:=decP_iff.1 hc
 obtain⟨m,m1,m2,m3,g⟩:=goes137 hG xs hE hs h0 xs.length 0 (by omega) (fun j hj=>by omega)
 have hd:=getE hE m1
 have hv:=lv_zeros_pre m2 m1
 obtain⟨c1,c2⟩:=ctz64_ev2 (x:=(xs.getD m 0).toNat) (Z:=lv 18446744073709551616 (xs.drop (m+1))) (n:=m) (by omega) (by omega)
 rw[<-hv]at c1
 refine⟨_,_,qj hG (.cons (gk147 hT) .nil) mix enter137 (hs:=[]) (L:=[(2,qy (t137 xs 0) (.exit 0) (t137 xs (m:Nat)))]) (pol:=pol137) (qN (b:=b137) (live:=[0,3]) (m:=0) (by kernel_rfl) (by kernel_rfl) (by kernel_rfl) (qv g)) ?_,hr⟩
 rw[p137]
 have e1:evN xs=64*m+Go.Lib.ctz 64 (xs.getD m 0).toNat:=by unfold evN;rw[qh,c1]
 rw[e1,Int.toNat_natCast (n:=m)]
 generalize Go.Lib.ctz 64 (xs.getD m 0).toNat=k at*
 rw[k5 qK]
 repeat rw[k5 (by simp only[kD,kE];omega)]
 rw[k7,show((64*m+k:Nat):Int)=64*(m:Int)+(k:Int) by omega]
def lnoE:qA:=fun _ _=>.no 1
theorem lnoE_ok {P:Program} {n m:Nat} {live:List Nat} {b:Code}:qz P G n m live b lnoE:=by
 intro ls K x hm h;cases h
theorem vle_bl (x:Bool):VLe (.bl x) (.b x):=by
 have key:∀ (w:World) (S:Nat->Prop) (μ:Mu) (cs:List Value),RepC w S μ (.bl x) cs->RepC w S μ (.b x) cs:=by
  intro w S μ cs hc
  cases hc
  exact .b _ _
 refine⟨rfl,fun w S μ=>⟨key w S μ,fun v hv => ?_⟩⟩
 cases hv with
 | cell _ _ _ hv h=>exact .cell _ _ _ rfl (key w S μ _ h)
 | agg _ _ cs hv h=>simp[isAgg]at hv
theorem rle_bl {x y:Bool} (h:x=y):RLe (.bl x) (.b y):=by
 subst h;exact⟨fun _=>vle_bl x,fun _=>.refl _⟩
def f139 (xs ys:List Int) (c:Bool) (i:Int):LS:=⟨[.lst 1 (.ints .u64 xs),.lst 1 (.ints .u64 ys),.b c,.i .i64 i],[]⟩
theorem div_step (X k:Nat):X/18446744073709551616^k=X/18446744073709551616^k%18446744073709551616+18446744073709551616*(X/18446744073709551616^(k+1)):=by
 have e:X/18446744073709551616^(k+1)=X/18446744073709551616^k/18446744073709551616:=by rw[Nat.div_div_eq_div_mul,<-Nat.pow_succ]
 rw[e];omega
theorem lt_of_div_lt {X Y k:Nat} (h:X/18446744073709551616^k<Y/18446744073709551616^k):X<Y:=by
 rcases Nat.lt_or_ge X Y with h1|h1
 ·exact h1
 ·have:=Nat.div_le_div_right (c:=18446744073709551616^k) h1
  omega
include hG in
theorem goes139 (X Y n:Nat) (hn:n<=1073741824):∀ k,k<=n->X/18446744073709551616^k=Y/18446744073709551616^k->
  (∃ i,Goes (Rnd prog G f184.ntmps 0 [0,1,4,5] b139) (t139 (pd 18446744073709551616 n X) (pd 18446744073709551616 n Y) false ((k:Int)-1)) .ret (f139 (pd 18446744073709551616 n X) (pd 18446744073709551616 n Y) (decide (X<Y)) i))\/
  (Goes (Rnd prog G f184.ntmps 0 [0,1,4,5] b139) (t139 (pd 18446744073709551616 n X) (pd 18446744073709551616 n Y) false ((k:Int)-1)) (.exit 0) (t139 (pd 18446744073709551616 n X) (pd 18446744073709551616 n Y) false (-1))/\X=Y)
 | 0,_,he=>by
  refine .inr ⟨.last _ _ _ (qb hG OrcOK.nil mix (L:=[]) (pol:=pol139) (O:=[]) (kA (by kernel_rfl)) (Nat.zero_le _) ?_) (by simp),by simpa using he⟩
  rw[q139,k6 (kG (by omega)),k7]
  rfl
 | k+1,hk,he=>by
  have hx:=div_step X k
  have hy:=div_step Y k
  have gx:=pd_getD (B:=18446744073709551616) (L:=n) (n:=X) (j:=k) (by omega)
  have gy:=pd_getD (B:=18446744073709551616) (L:=n) (n:=Y) (j:=k) (by omega)
  have e1:(((k+1:Nat):Int)-1).toNat=k:=by omega
  have lx:=qn 18446744073709551616 n X
  have ly:=qn 18446744073709551616 n Y
  by_cases hd:X/18446744073709551616^k%18446744073709551616=Y/18446744073709551616^k%18446744073709551616
  ·have ih:=goes139 X Y n hn k (by omega) (by rw[hx,hy,hd,he])
   have r1:Rnd prog G f184.ntmps 0 [0,1,4,5] b139 (t139 (pd 18446744073709551616 n X) (pd 18446744073709551616 n Y) false (((k+1:Nat):Int)-1)) .normal (t139 (pd 18446744073709551616 n X) (pd 18446744073709551616 n Y) false ((k:Int)-1)):=by
    refine qb hG OrcOK.nil mix (L:=[]) (pol:=pol139) (O:=[]) (kA (by kernel_rfl)) (Nat.zero_le _) ?_
    rw[q139,e1,gx,gy,hd,k5 (kF (by omega)),k5 (by simp only[kD,kE];omega),k5 (by simp only[kD,kE];omega),k6 (by rw[kF rfl];rfl),k5 (by simp only[kD,kE];omega),k7,
     show((k+1:Nat):Int)-1-1=(k:Int)-1 by omega]
    rfl
   rcases ih with ⟨i,g⟩|⟨g,e⟩
   ·exact .inl ⟨i,.more _ _ _ _ r1 g⟩
   ·exact .inr ⟨.more _ _ _ _ r1 g,e⟩
  ·refine .inl ⟨((k+1:Nat):Int)-1,.last _ _ _ (qb hG OrcOK.nil mix (L:=[]) (pol:=pol139) (O:=[]) (kA (by kernel_rfl)) (Nat.zero_le _) ?_) (by simp)⟩
   have hlt:decide (((X/18446744073709551616^k%18446744073709551616:Nat):Int)<((Y/18446744073709551616^k%18446744073709551616:Nat):Int))=decide (X<Y):=by
    rcases Nat.lt_or_ge (X/18446744073709551616^k%18446744073709551616) (Y/18446744073709551616^k%18446744073709551616)with h|h
    ·rw[kF (by omega),kF (lt_of_div_lt (k:=k) (by rw[hx,hy,he];omega))]
    ·have h2:Y<X:=lt_of_div_lt (k:=k) (by rw[hx,hy,he];omega)
     rw[kG (by omega),kG (by omega)]
   rw[q139,e1,gx,gy,hlt,k5 (kF (by omega)),k5 (by simp only[kD,kE];omega),k5 (by simp only[kD,kE];omega),k5 (by rw[kG (by omega)];rfl),k5 (by simp only[kD,kE];omega),k5 (by simp only[kD,kE];omega),k7]
   rfl
theorem enter139:Enters prog 184 f184 (qd f184):=⟨func184,by kernel_rfl,rfl⟩
theorem p139r (xs ys:List Int) (c:Bool) (i:Int):evF prog [] [(4,qy (t139 xs ys false ((xs.length:Int)-1)) .ret (f139 xs ys c i))] pol139 f184 [.lst 1 (.ints .u64 xs),.lst 1 (.ints .u64 ys)] [] ql=
 Tr.br (!decide ((xs.length:Int)=(ys.length:Int))) (.ok (.ret (.b (decide ((xs.length:Int)<(ys.length:Int)))) [])) (.br (ib ((xs.length:Int)-1)) (.br (qg (isLS (LS.mk [.lst 1 (.ints .u64 xs),.lst 1 (.ints .u64 ys),.bl false,.i .i64 ((xs.length:Int)-1)] []) (LS.mk [.lst 1 (.ints .u64 xs),.lst 1 (.ints .u64 ys),.bl false,.i .i64 ((xs.length:Int)-1)] []))) (.ok (.ret (.b c) [])) (.no 1)) (.no 4002)):=by kernel_rfl
theorem p139n (xs ys:List Int):evF prog [] [(4,lnoE)] pol139 f184 [.lst 1 (.ints .u64 xs),.lst 1 (.ints .u64 ys)] [] ql=
 Tr.br (!decide ((xs.length:Int)=(ys.length:Int))) (.ok (.ret (.b (decide ((xs.length:Int)<(ys.length:Int)))) [])) (.br (ib ((xs.length:Int)-1)) (.no 1) (.no 4002)):=by kernel_rfl
theorem p139e (xs ys:List Int):evF prog [] [(4,qy (t139 xs ys false ((xs.length:Int)-1)) (.exit 0) (t139 xs ys false (-1)))] pol139 f184 [.lst 1 (.ints .u64 xs),.lst 1 (.ints .u64 ys)] [] ql=
 Tr.br (!decide ((xs.length:Int)=(ys.length:Int))) (.ok (.ret (.b (decide ((xs.length:Int)<(ys.length:Int)))) [])) (.br (ib ((xs.length:Int)-1)) (.br (qg (isLS (LS.mk [.lst 1 (.ints .u64 xs),.lst 1 (.ints .u64 ys),.bl false,.i .i64 ((xs.length:Int)-1)] []) (LS.mk [.lst 1 (.ints .u64 xs),.lst 1 (.ints .u64 ys),.bl false,.i .i64 ((xs.length:Int)-1)] []))) (.ok (.ret (.bl false) [])) (.no 1)) (.no 4002)):=by kernel_rfl
def Q139 (xs ys:List Int) (c:Bool):Prop:=(∃ X Y,xs=dg 18446744073709551616 X/\ys=dg 18446744073709551616 Y)/\xs.length<=1073741824/\ys.length<=1073741824/\c=decide (lv 18446744073709551616 xs<lv 18446744073709551616 ys)
def g139 (c:Bool):Spec:=fun args hs K=>match args,hs with
 | [.lst 1 (.ints .u64 xs),.lst 1 (.ints .u64 ys)],[]=>.br (qg (Q139 xs ys c)) (K (.b c) []) (.no 1)
 | _,_=>.no 1
theorem dgE_lt {X Y:Nat} (h:(dg 18446744073709551616 X).length<(dg 18446744073709551616 Y).length):X<Y:=by
 have h1:=dg_lt (B:=18446744073709551616) (by omega) X
 have hy:Y≠0:=fun h0=>by rw[h0,dg_zero]at h;simp at h
 have h2:=dg_le (B:=18446744073709551616) (by omega) hy
 have h3:18446744073709551616^(dg 18446744073709551616 X).length<=18446744073709551616^((dg 18446744073709551616 Y).length-1):=Nat.pow_le_pow_right (by omega) (by omega)
 omega
include hG in
theorem gk139 (c:Bool):qc prog G 184 (g139 c):=by
 intro args hs K x h
 unfold g139 at h
 split at h
 case h_2=>cases h
 rename_i xs ys
 obtain⟨hc,hr⟩:=k8 h
 obtain⟨⟨X,Y,rfl,rfl⟩,hx,hy,rfl⟩:=decP_iff.1 hc
 rw[lv_dg (by omega),lv_dg (by omega)]at hr
 by_cases hl:(dg 18446744073709551616 X).length=(dg 18446744073709551616 Y).length
 ·have px:=pd_dg (B:=18446744073709551616) (n:=X) (by omega)
  have py:=pd_dg (B:=18446744073709551616) (n:=Y) (by omega)
  have hX:=dg_lt (B:=18446744073709551616) (by omega) X
  have hY:=dg_lt (B:=18446744073709551616) (by omega) Y
  rw[<-hl]at py hY
  have hg:=goes139 hG X Y (dg 18446744073709551616 X).length hx _ (Nat.le_refl _) (by rw[Nat.div_eq_of_lt hX,Nat.div_eq_of_lt hY])
  rw[px,py]at hg
  have n1:(!decide (((dg 18446744073709551616 X).length:Int)=((dg 18446744073709551616 Y).length:Int)))=false:=by rw[kF (by omega)];rfl
  rcases hg with ⟨i,g⟩|⟨g,e⟩
  ·refine⟨_,_,qj hG OrcOK.nil mix enter139 (hs:=[]) (L:=[(4,qy (t139 (dg 18446744073709551616 X) (dg 18446744073709551616 Y) false (((dg 18446744073709551616 X).length:Int)-1)) .ret (f139 (dg 18446744073709551616 X) (dg 18446744073709551616 Y) (decide (X<Y)) i))]) (pol:=pol139) (qN (b:=b139) (live:=[0,1,4,5]) (m:=0) (by kernel_rfl) (by kernel_rfl) (by kernel_rfl) (qv g)) ?_,hr⟩
   rw[p139r,k6 n1,k5 (by simp only[kD,kE];omega),k5 qK,k7]
  ·refine⟨_,_,PC.le (qj hG OrcOK.nil mix enter139 (hs:=[]) (L:=[(4,qy (t139 (dg 18446744073709551616 X) (dg 18446744073709551616 Y) false (((dg 18446744073709551616 X).length:Int)-1)) (.exit 0) (t139 (dg 18446744073709551616 X) (dg 18446744073709551616 Y) false (-1)))]) (pol:=pol139) (qN (b:=b139) (live:=[0,1,4,5]) (m:=0) (by kernel_rfl) (by kernel_rfl) (by kernel_rfl) (qv g)) ?_) (rle_bl (kG (by omega)).symm) (.refl _),hr⟩
   rw[p139e,k6 n1,k5 (by simp only[kD,kE];omega),k5 qK,k7]
 ·have n1:(!decide (((dg 18446744073709551616 X).length:Int)=((dg 18446744073709551616 Y).length:Int)))=true:=by rw[kG (by omega)];rfl
  have hd:decide (((dg 18446744073709551616 X).length:Int)<((dg 18446744073709551616 Y).length:Int))=decide (X<Y):=by
   rcases Nat.lt_or_ge (dg 18446744073709551616 X).length (dg 18446744073709551616 Y).length with h|h
   ·rw[kF (by omega),kF (dgE_lt h)]
   ·have:=dgE_lt (X:=Y) (Y:=X) (by omega)
    rw[kG (by omega),kG (by omega)]
  refine⟨_,_,qj hG OrcOK.nil mix enter139 (hs:=[]) (L:=[(4,lnoE)]) (pol:=pol139) (qN (b:=b139) (live:=[0,1,4,5]) (m:=0) (by kernel_rfl) (by kernel_rfl) (by kernel_rfl) lnoE_ok) ?_,hr⟩
  rw[p139n,k5 n1,hd,k7]
def stE (o n:Nat) (L:List Int) (v:Nat):List Int:=L.take o++pd 18446744073709551616 n v++L.drop (o+n)
theorem stE_len {o n v:Nat} {L:List Int} (ho:o+n<=L.length):(stE o n L v).length=L.length:=by
 unfold stE
 rw[List.length_append,List.length_append,List.length_take,List.length_drop,qn];omega
theorem isE_stE {o n v:Nat} {L:List Int} (h:isE L):isE (stE o n L v):=isE_app (isE_app (isE_take h o) (isE_pd _ _)) (isE_drop h _)
theorem segE_stE {o n v:Nat} {L:List Int} (ho:o+n<=L.length) (hv:v<18446744073709551616^n):qO o n (stE o n L v)=v:=by
 unfold qO stE
 rw[List.append_assoc,List.drop_append_of_le_length (by rw[List.length_take];omega),List.drop_eq_nil_of_le (by rw[List.length_take];omega),List.nil_append,List.take_append_of_le_length (by rw[qn];exact Nat.le_refl _),pd_take (Nat.le_refl _),lv_pd (by omega) _ _ hv]
theorem seg_pd {L:List Int} (hE:isE L) {o n:Nat} (ho:o+n<=L.length):(L.drop o).take n=pd 18446744073709551616 n (qO o n L):=by
 have:=pd_lv (B:=18446744073709551616) (by omega) (isE_take (isE_drop hE o) n)
 rw[List.length_take,List.length_drop,Nat.min_eq_left (by omega)]at this
 exact this.symm
theorem split3 {L:List Int} (hE:isE L) {o n:Nat} (ho:o+n<=L.length):L=L.take o++pd 18446744073709551616 n (qO o n L)++L.drop (o+n):=by
 rw[<-seg_pd hE ho,List.append_assoc,<-List.drop_drop,List.take_append_drop,List.take_append_drop]
def subE:Int->List Int->List Int->List Int
 | _,[],_=>[]
 | c,x::xs,ys=>((x-ys.headD 0-c)%18446744073709551616)::subE (if x<ys.headD 0+c then 1 else 0) xs ys.tail
def subF:Int->List Int->List Int->Int
 | c,[],_=>c
 | c,x::xs,ys=>subF (if x<ys.headD 0+c then 1 else 0) xs ys.tail
theorem isE.tail {xs:List Int} (h:isE xs):isE xs.tail:=fun x hx=>h x (List.mem_of_mem_tail hx)
theorem isE.head {xs:List Int} (h:isE xs):0<=xs.headD 0/\xs.headD 0<18446744073709551616:=by
 cases xs with
 | nil=>exact⟨by decide,by decide⟩
 | cons x xs=>exact h x (by simp)
theorem lvE_head (xs:List Int):lv 18446744073709551616 xs=(xs.headD 0).toNat+18446744073709551616*lv 18446744073709551616 xs.tail:=by
 cases xs<;>rfl
theorem subE_dig:∀ (xs ys:List Int) (c:Int),isE (subE c xs ys)
 | [],_,_=>fun x hx=>by cases hx
 | x::xs,ys,c=>fun z hz=>by
  simp only[subE,List.mem_cons]at hz
  rcases hz with rfl|hz
  ·omega
  ·exact subE_dig xs _ _ z hz
theorem subE_len:∀ (xs ys:List Int) (c:Int),(subE c xs ys).length=xs.length
 | [],_,_=>rfl
 | x::xs,ys,c=>by simp[subE,subE_len xs]
theorem subF_01:∀ (xs ys:List Int) (c:Int),0<=c->c<=1->0<=subF c xs ys/\subF c xs ys<=1
 | [],_,_,h0,h1=>⟨h0,h1⟩
 | x::xs,ys,c,_,_=>by
  refine subF_01 xs _ _ ?_ ?_<;>split<;>omega
theorem subE_val:∀ (xs ys:List Int) (c:Int),0<=c->c<=1->isE xs->isE ys->ys.length<=xs.length->
  (lv 18446744073709551616 (subE c xs ys):Int)=lv 18446744073709551616 xs-lv 18446744073709551616 ys-c+subF c xs ys*((18446744073709551616^xs.length:Nat):Int)
 | [],ys,c,h0,h1,hx,hy,hl=>by
  have:ys=[]:=List.eq_nil_of_length_eq_zero (by simpa using hl)
  subst this
  simp[subE,subF,lv]
  omega
 | x::xs,ys,c,h0,h1,hx,hy,hl=>by
  have ih:=subE_val xs ys.tail (if x<ys.headD 0+c then 1 else 0) (by split<;>omega) (by split<;>omega) hx.tail hy.tail (by simp at hl ⊢;omega)
  have hxx:=hx x (by simp)
  have hyy:=hy.head
  rw[lvE_head ys]
  show((((x-ys.headD 0-c)%18446744073709551616).toNat+18446744073709551616*lv 18446744073709551616 (subE (if x<ys.headD 0+c then 1 else 0) xs ys.tail):Nat):Int)=((x.toNat+18446744073709551616*lv 18446744073709551616 xs:Nat):Int)-_-c+subF (if x<ys.headD 0+c then 1 else 0) xs ys.tail*((18446744073709551616^(xs.length+1):Nat):Int)
  have hp:subF (if x<ys.headD 0+c then 1 else 0) xs ys.tail*((18446744073709551616^(xs.length+1):Nat):Int)=18446744073709551616*(subF (if x<ys.headD 0+c then 1 else 0) xs ys.tail*((18446744073709551616^xs.length:Nat):Int)):=by
   rw[Nat.pow_succ,Int.natCast_mul,Int.mul_comm (((18446744073709551616^xs.length:Nat)):Int),<-Int.mul_assoc,<-Int.mul_assoc,Int.mul_comm (subF _ _ _)]
   rfl
  rw[hp]
  generalize subF (if x<ys.headD 0+c then 1 else 0) xs ys.tail*((18446744073709551616^xs.length:Nat):Int)=T at ih ⊢
  generalize lv 18446744073709551616 (subE (if x<ys.headD 0+c then 1 else 0) xs ys.tail)=R at ih ⊢
  generalize ys.headD 0=y at*
  split at ih<;>omega
theorem subE_ok {xs ys:List Int} (hx:isE xs) (hy:isE ys) (hl:ys.length<=xs.length) (h:lv 18446744073709551616 ys<=lv 18446744073709551616 xs):subE 0 xs ys=pd 18446744073709551616 xs.length (lv 18446744073709551616 xs-lv 18446744073709551616 ys):=by
 have h1:=subE_val xs ys 0 (by omega) (by omega) hx hy hl
 have h2:=subF_01 xs ys 0 (by omega) (by omega)
 have h3:lv 18446744073709551616 (subE 0 xs ys)<18446744073709551616^xs.length:=by
  rw[<-subE_len xs ys 0]
  exact lv_lt fun x hx=>by have:=subE_dig xs ys 0 x hx;omega
 have h4:subF 0 xs ys=0:=by
  rcases(show subF 0 xs ys=0\/subF 0 xs ys=1 by omega)with h|h
  ·exact h
  ·rw[h,Int.one_mul]at h1;omega
 rw[h4,Int.zero_mul]at h1
 exact digE_of (subE_dig _ _ _) (subE_len _ _ _) (by omega)
theorem step140 (pre xs ys post:List Int) (x c:Int) (o l i:Nat) (hp:pre.length=o+i) (hil:i<l) (hl:l<=1073741824) (hx:0<=x/\x<18446744073709551616) (hy:isE ys) (hc:0<=c/\c<=1):
  (qe prog [(213,s149)] [] pol140 f185.ntmps 1 [0,1,5,9,10] b140 (t140 (pre++x::(xs++post)) ys o l c (l:Nat) (i:Nat))).run=
   some (.out .normal (t140 ((pre++[(x-(ys.drop i).headD 0-c)%18446744073709551616])++(xs++post)) ys o l (if x<(ys.drop i).headD 0+c then 1 else 0) (l:Nat) ((i+1:Nat):Int))):=by
 have hlen:(pre++x::(xs++post)).length=o+i+1+(xs++post).length:=by simp[hp];omega
 have e1:((i:Nat):Int)+1=((i+1:Nat):Int):=by omega
 rw[q140,Int.toNat_natCast,<-hp,getD_app,hp]
 by_cases h:i<ys.length
 ·have hd:0<=ys.getD i 0/\ys.getD i 0<18446744073709551616:=getE hy h
  rw[k5 (kF (by omega)),k5 (kF (by omega))]
  repeat rw[k5 (by simp only[kD,kE,kH];omega)]
  rw[k7,drop_head,e1,<-hp,set_app,List.append_assoc]
  rfl
 ·have h0:(ys.drop i).headD 0=0:=by rw[List.drop_eq_nil_of_le (by omega)];rfl
  rw[k5 (kF (by omega)),k6 (kG (by omega))]
  repeat rw[k5 (by simp only[kD,kE,kH];omega)]
  rw[k7,h0,e1,<-hp,set_app,List.append_assoc]
  rfl
include hG in
theorem goes140 (ys post:List Int) (o l:Nat) (hl:l<=1073741824) (hy:isE ys):∀ (xs pre:List Int) (i:Nat) (c:Int),pre.length=o+i->i+xs.length=l->isE xs->0<=c/\c<=1->
  Goes (Rnd prog G f185.ntmps 1 [0,1,5,9,10] b140) (t140 (pre++(xs++post)) ys o l c (l:Nat) (i:Nat)) (.exit 0) (t140 (pre++(subE c xs (ys.drop i)++post)) ys o l (subF c xs (ys.drop i)) (l:Nat) (l:Nat))
 | [],pre,i,c,_,hi,_,_=>by
  refine .last _ _ _ (qb hG (.cons ok149 .nil) mix (L:=[]) (pol:=pol140) (O:=[(213,s149)]) (kA (by kernel_rfl)) (Nat.le_refl _) ?_) (by simp)
  simp only[kJ,Nat.add_zero]at hi
  subst hi
  rw[q140,k6 (kG (by omega)),k7]
  rfl
 | x::xs,pre,i,c,hp,hi,hx,hc=>by
  simp only[kI]at hi
  refine .more _ _ _ _ (qb hG (.cons ok149 .nil) mix (L:=[]) (pol:=pol140) (O:=[(213,s149)]) (kA (by kernel_rfl)) (Nat.le_refl _) (step140 pre xs ys post x c o l i hp (by omega) hl (hx x (by simp)) hy hc)) ?_
  have ih:=goes140 ys post o l hl hy xs (pre++[(x-(ys.drop i).headD 0-c)%18446744073709551616]) (i+1) (if x<(ys.drop i).headD 0+c then 1 else 0) (by simp[hp];omega) (by omega) (fun z hz=>hx z (by simp[hz])) (by split<;>omega)
  have ed:ys.drop (i+1)=(ys.drop i).tail:=by rw[List.tail_drop]
  rw[ed]at ih
  have e2:pre++(subE c (x::xs) (ys.drop i)++post)=(pre++[(x-(ys.drop i).headD 0-c)%18446744073709551616])++(subE (if x<(ys.drop i).headD 0+c then 1 else 0) xs (ys.drop i).tail++post):=by
   simp[subE]
  rw[e2]
  exact ih
def Q140 (L ys R:List Int) (o l:Nat):Prop:=isE L/\isE ys/\o+l<=L.length/\L.length<=1073741824/\ys.length<=l/\lv 18446744073709551616 ys<=qO o l L/\R=stE o l L (qO o l L-lv 18446744073709551616 ys)
def l140 (R:List Int) (f:Int):qA:=fun ls K=>match ls with
 | ⟨[.sl 0 1 o l,.lst 1 (.ints .u64 ys),.i .u64 c,.i .i64 n,.i .i64 i],[some ⟨1,.ints .u64 L⟩]⟩=>
  .br (qg (Q140 L ys R o l/\c=0/\n=l/\i=0/\f=subF 0 ((L.drop o).take l) ys)) (K (.exit 0) (t140 R ys o l f n n)) (.no 1)
 | _=>.no 1
include hG in
theorem loop140 (R:List Int) (f:Int):qz prog G f185.ntmps 1 [0,1,5,9,10] b140 (l140 R f):=by
 intro ls K x hm h
 unfold l140 at h
 split at h
 case h_2=>cases h
 rename_i o l ys c n i L
 obtain⟨hc,hr⟩:=k8 h
 obtain⟨⟨h1,h2,h3,h4,h5,h6,rfl⟩,rfl,rfl,rfl,rfl⟩:=decP_iff.1 hc
 have hl:((L.drop o).take l).length=l:=by rw[List.length_take,List.length_drop];omega
 have g:=goes140 hG ys (L.drop (o+l)) o l (by omega) h2 ((L.drop o).take l) (L.take o) 0 0 (by rw[List.length_take];omega) (by omega) (isE_take (isE_drop h1 o) l) ⟨by omega,by omega⟩
 have e0:L.take o++((L.drop o).take l++L.drop (o+l))=L:=by rw[<-List.drop_drop,List.take_append_drop,List.take_append_drop]
 have e1:subE 0 ((L.drop o).take l) ys=pd 18446744073709551616 l (qO o l L-lv 18446744073709551616 ys):=by
  have:=subE_ok (xs:=(L.drop o).take l) (ys:=ys) (isE_take (isE_drop h1 o) l) h2 (by omega) h6
  rw[hl]at this
  exact this
 rw[e0,List.drop_zero,e1,<-List.append_assoc]at g
 exact⟨_,_,qx g,hr⟩
theorem enter140:Enters prog 185 f185 (qd f185):=⟨func185,by kernel_rfl,rfl⟩
def v148 (N:Nat):Spec:=fun args hs K=>match args,hs with
 | [.sl 0 1 o l],[⟨1,.ints .u64 L⟩]=>.br (qg (Q148 o l L/\N=(dg 18446744073709551616 (qO o l L)).length)) (K (.sl 0 1 o N) [⟨1,.ints .u64 L⟩]) (.no 1)
 | _,_=>.no 1
include hG in
theorem vk148 (N:Nat):qc prog G 212 (v148 N):=by
 intro args hs K x h
 unfold v148 at h
 split at h
 case h_2=>cases h
 rename_i o l L
 obtain⟨hc,hr⟩:=k8 h
 obtain⟨h1,rfl⟩:=decP_iff.1 hc
 refine gk148 hG _ _ K x ?_
 show(Tr.br _ _ _).run=_
 rw[k5 (decP_iff.2 h1)]
 unfold cutN
 rw[qh]
 exact hr
theorem p140 (L ys R:List Int) (f:Int) (o l N:Nat):evF prog [(212,v148 N),(213,s149)] [(3,l140 R f)] pol140 f185 [.sl 0 1 o l,.lst 1 (.ints .u64 ys)] [⟨1,.ints .u64 L⟩] ql=
 Tr.br (qg (Q140 L ys R o l/\(0:Int)=0/\(l:Int)=(l:Int)/\(0:Int)=0/\f=subF (0:Int) (List.take l (List.drop o L)) ys)) (.br (qg (Q148 o l R/\N=(dg (18446744073709551616:Nat) (qO o l R)).length)) (.ok (.ret (.sl 0 1 o N) [Blk.mk 1 (.ints .u64 R)])) (.no 1)) (.no 1):=by kernel_rfl
def g140 (R:List Int) (N:Nat):Spec:=fun args hs K=>match args,hs with
 | [.sl 0 1 o l,.lst 1 (.ints .u64 ys)],[⟨1,.ints .u64 L⟩]=>.br (qg (Q140 L ys R o l/\N=(dg 18446744073709551616 (qO o l L-lv 18446744073709551616 ys)).length)) (K (.sl 0 1 o N) [⟨1,.ints .u64 R⟩]) (.no 1)
 | _,_=>.no 1
include hG in
theorem gk140 (R:List Int) (N:Nat):qc prog G 185 (g140 R N):=by
 intro args hs K x h
 unfold g140 at h
 split at h
 case h_2=>cases h
 rename_i o l ys L
 obtain⟨hc,hr⟩:=k8 h
 obtain⟨h1,rfl⟩:=decP_iff.1 hc
 refine⟨_,_,qj hG (.cons (vk148 hG (dg 18446744073709551616 (qO o l L-lv 18446744073709551616 ys)).length) (.cons ok149 .nil)) mix enter140 (L:=[(3,l140 R (subF 0 ((L.drop o).take l) ys))]) (pol:=pol140) (qN (b:=b140) (live:=[0,1,5,9,10]) (sp:=l140 R (subF 0 ((L.drop o).take l) ys)) (m:=1) (by kernel_rfl) (by kernel_rfl) (by kernel_rfl) (loop140 hG _ _)) ?_,hr⟩
 have h1':=h1
 obtain⟨a1,a2,a3,a4,a5,a6,rfl⟩:=h1'
 have hv:qO o l L-lv 18446744073709551616 ys<18446744073709551616^l:=Nat.lt_of_le_of_lt (Nat.sub_le _ _) (segE_lt a1 o l)
 rw[p140,k5 (decP_iff.2 ⟨h1,rfl,rfl,rfl,rfl⟩),k5 (decP_iff.2 ⟨⟨isE_stE a1,by rw[stE_len a3];exact a4,by rw[stE_len a3];exact a3⟩,by rw[segE_stE a3 hv]⟩),k7]
theorem unshiftE_digit (R s i:Nat) (hs:s<64):R/18446744073709551616^i%18446744073709551616/2^s+R/18446744073709551616^(i+1)%18446744073709551616*2^(64-s)%18446744073709551616=R/2^s/18446744073709551616^i%18446744073709551616/\
  R/18446744073709551616^i%18446744073709551616/2^s<2^(64-s)/\R/18446744073709551616^(i+1)%18446744073709551616*2^(64-s)%18446744073709551616=R/18446744073709551616^(i+1)%2^s*2^(64-s):=by
 have hB:18446744073709551616=2^s*2^(64-s):=by rw[<-Nat.pow_add,show s+(64-s)=64 by omega]
 have h2:0<2^s:=Nat.pow_pos (by omega)
 have h3:0<2^(64-s):=Nat.pow_pos (by omega)
 have e1:R/2^s/18446744073709551616^i=R/18446744073709551616^i/2^s:=by rw[Nat.div_div_eq_div_mul,Nat.mul_comm,<-Nat.div_div_eq_div_mul]
 have e2:R/18446744073709551616^(i+1)=R/18446744073709551616^i/18446744073709551616:=by rw[Nat.div_div_eq_div_mul,<-Nat.pow_succ]
 rw[e1,e2]
 generalize R/18446744073709551616^i=S
 have hlow:S%18446744073709551616/2^s<2^(64-s):=by
  rw[Nat.div_lt_iff_lt_mul h2,Nat.mul_comm,<-hB];exact Nat.mod_lt _ (by omega)
 have hm:S/18446744073709551616%18446744073709551616*2^(64-s)%18446744073709551616=S/18446744073709551616%2^s*2^(64-s):=by
  have:∀ y:Nat,y*2^(64-s)%18446744073709551616=y%2^s*2^(64-s):=by
   intro y
   have:=Nat.mul_mod_mul_right (2^(64-s)) y (2^s)
   rw[<-hB]at this
   exact this
  rw[this,hB,Nat.mod_mul_right_mod]
 refine⟨?_,hlow,hm⟩
 rw[hm]
 have hS:=Nat.div_add_mod S 18446744073709551616
 have e3:S/2^s=S%18446744073709551616/2^s+S/18446744073709551616*2^(64-s):=by
  have:S=S%18446744073709551616+S/18446744073709551616*2^(64-s)*2^s:=by
   rw[Nat.mul_assoc,Nat.mul_comm (2^(64-s)),<-hB];omega
  conv=>lhs;rw[this]
  rw[Nat.add_mul_div_right _ _ h2]
 rw[e3]
 have hmm:(S%18446744073709551616/2^s+S/18446744073709551616*2^(64-s))%(2^(64-s)*2^s)=S%18446744073709551616/2^s+S/18446744073709551616%2^s*2^(64-s):=by
  rw[Nat.mod_mul,Nat.add_mul_mod_self_right,Nat.mod_eq_of_lt hlow,Nat.add_mul_div_right _ _ h3,Nat.div_eq_of_lt hlow,Nat.zero_add,Nat.mul_comm (2^(64-s))]
 have hB':2^(64-s)*2^s=18446744073709551616:=by rw[Nat.mul_comm];exact hB.symm
 rw[hB']at hmm
 exact hmm.symm
def usE (R lu s i:Nat):List Int:=pd 18446744073709551616 i (R/2^s)++(pd 18446744073709551616 lu R).drop i
theorem usE_len {R lu s i:Nat} (h:i<=lu):(usE R lu s i).length=lu:=by
 unfold usE
 rw[List.length_append,List.length_drop,qn,qn];omega
theorem usE_get {R lu s i j:Nat} (h:i<=j) (hj:j<lu):(usE R lu s i).getD j 0=((R/18446744073709551616^j%18446744073709551616:Nat):Int):=by
 unfold usE
 rw[List.getD_eq_getElem?_getD,List.getElem?_append_right (by rw[qn];exact h),qn,List.getElem?_drop,show i+(j-i)=j by omega,<-List.getD_eq_getElem?_getD,pd_getD hj]
theorem usE_set {R lu s i:Nat} (hi:i<lu):(usE R lu s i).set i ((R/2^s/18446744073709551616^i%18446744073709551616:Nat):Int)=usE R lu s (i+1):=by
 unfold usE
 rw[List.set_append_right _ _ (by rw[qn];exact Nat.le_refl _),qn,Nat.sub_self]
 have hd:(pd 18446744073709551616 lu R).drop i=((R/18446744073709551616^i%18446744073709551616:Nat):Int)::(pd 18446744073709551616 lu R).drop (i+1):=by
  rw[List.drop_eq_getElem_cons (by rw[qn];exact hi)]
  congr 1
  simp[pd]
 have hp:pd 18446744073709551616 (i+1) (R/2^s)=pd 18446744073709551616 i (R/2^s)++[((R/2^s/18446744073709551616^i%18446744073709551616:Nat):Int)]:=by
  unfold pd
  rw[List.range_succ,List.map_append]
  rfl
 rw[hd,hp,List.set_cons_zero,List.append_assoc]
 rfl
theorem mid_get {pre mid post:List Int} {i:Nat} (h:i<mid.length):(pre++(mid++post)).getD (pre.length+i) 0=mid.getD i 0:=by
 rw[List.getD_eq_getElem?_getD,List.getElem?_append_right (by omega),Nat.add_sub_cancel_left,List.getElem?_append_left h,<-List.getD_eq_getElem?_getD]
theorem mid_set {pre mid post:List Int} {i:Nat} (h:i<mid.length) (v:Int):(pre++(mid++post)).set (pre.length+i) v=pre++(mid.set i v++post):=by
 rw[List.set_append_right _ _ (by omega),Nat.add_sub_cancel_left,List.set_append_left _ _ h]
include hG in
theorem round138 (pre post:List Int) (V l s i:Nat) (hs:s<64) (hi:i<l) (hl:pre.length+l<=1073741824) (hV:V<18446744073709551616^l):
  Rnd prog G f183.ntmps 1 [0,1,15,16] b138 (t138 (pre++(usE V l s i++post)) pre.length l (s:Nat) (l:Nat) (i:Nat)) .normal (t138 (pre++(usE V l s (i+1)++post)) pre.length l (s:Nat) (l:Nat) ((i+1:Nat):Int)):=by
 refine qb hG OrcOK.nil mix (L:=[]) (pol:=pol138) (O:=[]) (kA (by kernel_rfl)) (Nat.le_refl _) ?_
 obtain⟨d1,d2,d3⟩:=unshiftE_digit V s i hs
 have hlen:=usE_len (R:=V) (lu:=l) (s:=s) (i:=i) (by omega)
 have g1:=usE_get (R:=V) (lu:=l) (s:=s) (i:=i) (j:=i) (Nat.le_refl _) (by omega)
 have hset:=usE_set (R:=V) (lu:=l) (s:=s) (i:=i) (by omega)
 have hL:(pre++(usE V l s i++post)).length=pre.length+l+post.length:=by rw[List.length_append,List.length_append,hlen];omega
 have e1:(((i:Nat):Int)+1).toNat=i+1:=by omega
 have e2:min (Int.toNat ((s:Nat):Int)) IntKind.u64.bits=s:=by rw[Int.toNat_natCast];simp only[IntKind.bits];omega
 have e3:min ((64:Int)-((s:Nat):Int)).toNat IntKind.u64.bits=64-s:=by simp only[IntKind.bits];omega
 have e4:((i:Nat):Int)+1=((i+1:Nat):Int):=by omega
 rw[q138,Int.toNat_natCast (n:=i),mid_get (by omega),g1,e1,e2,fdiv_nat,e3,mid_set (by omega)]
 have g4:∀ v:Int,(pre++((usE V l s i).set i v++post)).getD (pre.length+i) 0=v:=by
  intro v
  rw[mid_get (by rw[List.length_set];omega),List.getD_eq_getElem?_getD,List.getElem?_set_self (by rw[hlen];omega)]
  rfl
 rw[g4,mid_set (by rw[List.length_set];omega),List.set_set]
 have hL2:∀ v:Int,(pre++((usE V l s i).set i v++post)).length=pre.length+l+post.length:=by intro v;rw[List.length_append,List.length_append,List.length_set,hlen];omega
 rw[k5 (kF (by omega)),k5 (by simp only[kD,kE];omega),k5 (by rw[kH];omega),k5 (kF (by omega)),k5 (by simp only[kD,kE];omega),k5 (by rw[kH];omega),k5 (by simp only[kD,kE];omega)]
 by_cases hi1:i+1<l
 ·have g2:=usE_get (R:=V) (lu:=l) (s:=s) (i:=i) (j:=i+1) (by omega) (by omega)
  have g3:∀ v:Int,(pre++((usE V l s i).set i v++post)).getD (pre.length+(i+1)) 0=((V/18446744073709551616^(i+1)%18446744073709551616:Nat):Int):=by
   intro v
   rw[mid_get (by rw[List.length_set];omega),List.getD_eq_getElem?_getD,List.getElem?_set_ne (by omega),<-List.getD_eq_getElem?_getD,g2]
  rw[g3,k5 (kF (by omega))]
  repeat rw[k5 (by simp only[kD,kE,kH,hL2];omega)]
  have hsum:V/2^s/18446744073709551616^i%18446744073709551616<18446744073709551616:=Nat.mod_lt _ (by omega)
  have e5:IntKind.u64.wrap (((V/18446744073709551616^(i+1)%18446744073709551616:Nat):Int)*(2:Int)^(64-s))=((V/18446744073709551616^(i+1)%18446744073709551616*2^(64-s)%18446744073709551616:Nat):Int):=by
   have pc:((2^(64-s):Nat):Int)=(2:Int)^(64-s):=by simp
   rw[IntKind.wrap_u64,<-pc,<-Int.natCast_mul]
   generalize V/18446744073709551616^(i+1)%18446744073709551616*2^(64-s)=z
   omega
  have pc:((2^(64-s):Nat):Int)=(2:Int)^(64-s):=by simp
  have hor:IntKind.u64.wrap ((BitVec.ofInt IntKind.u64.bits ((V/18446744073709551616^i%18446744073709551616/2^s:Nat):Int) ||| BitVec.ofInt IntKind.u64.bits ((V/18446744073709551616^(i+1)%18446744073709551616*2^(64-s)%18446744073709551616:Nat):Int)).toNat:Int)=((V/2^s/18446744073709551616^i%18446744073709551616:Nat):Int):=by
   rw[<-d1]at hsum ⊢
   rw[d3]at hsum ⊢
   have h:=or64c (64-s) ((V/18446744073709551616^(i+1)%2^s:Nat):Int) ((V/18446744073709551616^i%18446744073709551616/2^s:Nat):Int) (Int.natCast_nonneg _) (Int.natCast_nonneg _) (by rw[<-pc];omega) (by rw[<-pc,<-Int.natCast_mul];omega)
   rw[<-pc,<-Int.natCast_mul]at h
   rw[h];omega
  rw[e5,hor,hset,k7,e4]
  rfl
 ·have hz:V/18446744073709551616^(i+1)=0:=by rw[show i+1=l by omega];exact Nat.div_eq_of_lt hV
  rw[hz,Nat.zero_mod,Nat.zero_mul,Nat.zero_mod,Nat.add_zero]at d1
  rw[k6 (kG (by omega)),k5 (by simp only[kD,kE];omega),k7,d1,hset,e4]
  rfl
def Q138 (L R:List Int) (o l:Nat) (s n i:Int):Prop:=∃ k:Nat,s=(k:Int)/\k<64/\isE L/\o+l<=L.length/\L.length<=1073741824/\n=(l:Int)/\i=0/\R=stE o l L (qO o l L/2^k)
def l138 (R:List Int):qA:=fun ls K=>match ls with
 | ⟨[.sl 0 1 o l,.i .i64 s,.i .i64 n,.i .i64 i],[some ⟨1,.ints .u64 L⟩]⟩=>
  .br (qg (Q138 L R o l s n i)) (K (.exit 0) (t138 R o l s n n)) (.no 1)
 | _=>.no 1
include hG in
theorem loop138 (R:List Int):qz prog G f183.ntmps 1 [0,1,15,16] b138 (l138 R):=by
 intro ls K x hm h
 unfold l138 at h
 split at h
 case h_2=>cases h
 rename_i o l s n i L
 obtain⟨hc,hr⟩:=k8 h
 obtain⟨k,rfl,hk,hE,ho,hs,rfl,rfl,rfl⟩:=decP_iff.1 hc
 have lo:(L.take o).length=o:=by rw[List.length_take];omega
 have hlt:=segE_lt hE o l
 have hsp:=split3 hE ho
 have e0:usE (qO o l L) l k 0=pd 18446744073709551616 l (qO o l L):=rfl
 have e1:usE (qO o l L) l k l=pd 18446744073709551616 l (qO o l L/2^k):=by
  unfold usE
  rw[List.drop_eq_nil_of_le (by rw[qn];exact Nat.le_refl _),List.append_nil]
 have g:=Goes.count (R:=Rnd prog G f183.ntmps 1 [0,1,15,16] b138) (fun i=>t138 (L.take o++(usE (qO o l L) l k i++L.drop (o+l))) (L.take o).length l (k:Nat) (l:Nat) ((i:Nat):Int)) (e:=.exit 0) (ls':=t138 (L.take o++(usE (qO o l L) l k l++L.drop (o+l))) (L.take o).length l (k:Nat) (l:Nat) (l:Nat)) (by simp) l 0
  (fun i _ hi=>round138 hG _ _ _ l k i hk (by omega) (by rw[lo];omega) hlt) (by
   refine qb hG OrcOK.nil mix (L:=[]) (pol:=pol138) (O:=[]) (kA (by kernel_rfl)) (Nat.le_refl _) ?_
   rw[Nat.zero_add,q138,k6 (kG (by omega)),k7]
   rfl)
 rw[e0,e1,lo,<-List.append_assoc,<-hsp,<-List.append_assoc]at g
 exact⟨_,_,qx g,hr⟩
theorem enter138:Enters prog 183 f183 (qd f183):=⟨func183,by kernel_rfl,rfl⟩
theorem p138 (L R:List Int) (o l N:Nat) (k:Int):evF prog [(212,v148 N)] [(5,l138 R)] pol138 f183 [.sl 0 1 o l,.i .i64 k] [⟨1,.ints .u64 L⟩] ql=
 Tr.br (!decide ((64:Int)=0)&&(ib (k.tdiv (64:Int)))) (.br (decide (0<=k.tdiv (64:Int))&&decide (k.tdiv (64:Int)<=(l:Int))) (.br (!decide ((64:Int)=0)) (.br (decide (0<k.tmod (64:Int))) (.br (qg (Q138 L R (o+(k.tdiv (64:Int)).toNat) (l-(k.tdiv (64:Int)).toNat) (k.tmod (64:Int)) (↑(l-(k.tdiv (64:Int)).toNat):Int) (0:Int))) (.br (qg (Q148 (o+(k.tdiv (64:Int)).toNat) (l-(k.tdiv (64:Int)).toNat) R/\N=(dg (18446744073709551616:Nat) (qO (o+(k.tdiv (64:Int)).toNat) (l-(k.tdiv (64:Int)).toNat) R)).length)) (.ok (.ret (.sl 0 1 (o+(k.tdiv (64:Int)).toNat) N) [Blk.mk 1 (.ints .u64 R)])) (.no 1)) (.no 1)) (.br (qg (Q148 (o+(k.tdiv (64:Int)).toNat) (l-(k.tdiv (64:Int)).toNat) L/\N=(dg (18446744073709551616:Nat) (qO (o+(k.tdiv (64:Int)).toNat) (l-(k.tdiv (64:Int)).toNat) L)).length)) (.ok (.ret (.sl 0 1 (o+(k.tdiv (64:Int)).toNat) N) [Blk.mk 1 (.ints .u64 L)])) (.no 1))) (.no 3002)) (.no 2002)) (.no 2003):=by kernel_rfl
theorem lv_drop {B:Nat} (hB:0<B) {zs:List Int} (h:∀ x∈zs,x.toNat<B) {j:Nat} (hj:j<=zs.length):lv B (zs.drop j)=lv B zs/B^j:=by
 have h1:=lv_take_drop B zs j hj
 have h2:=lv_lt (B:=B) (xs:=zs.take j) fun x hx=>h x (List.mem_of_mem_take hx)
 rw[List.length_take,Nat.min_eq_left hj]at h2
 rw[h1,Nat.add_mul_div_left _ _ (Nat.pow_pos hB),Nat.div_eq_of_lt h2,Nat.zero_add]
theorem segE_drop {L:List Int} (hE:isE L) {o l j:Nat} (ho:o+l<=L.length) (hj:j<=l):qO (o+j) (l-j) L=qO o l L/18446744073709551616^j:=by
 unfold qO
 rw[<-lv_drop (by omega) (fun x hx=>by have:=isE_take (isE_drop hE o) l x hx;omega) (by rw[List.length_take,List.length_drop];omega),List.drop_take,List.drop_drop]
def P138 (L R:List Int) (o l N o':Nat) (k:Int):Prop:=∃ b:Nat,k=(b:Int)/\b<1000000000/\isE L/\o+l<=L.length/\L.length<=1073741824/\b/64<=l/\o'=o+b/64/\R=stE (o+b/64) (l-b/64) L (qO o l L/2^b)/\N=(dg 18446744073709551616 (qO o l L/2^b)).length
def g138 (R:List Int) (o' N:Nat):Spec:=fun args hs K=>match args,hs with
 | [.sl 0 1 o l,.i .i64 k],[⟨1,.ints .u64 L⟩]=>.br (qg (P138 L R o l N o' k)) (K (.sl 0 1 o' N) [⟨1,.ints .u64 R⟩]) (.no 1)
 | _,_=>.no 1
include hG in
theorem gk138 (R:List Int) (o' N:Nat):qc prog G 183 (g138 R o' N):=by
 intro args hs K x h
 unfold g138 at h
 split at h
 case h_2=>cases h
 rename_i o l k L
 obtain⟨hc,hr⟩:=k8 h
 obtain⟨b,rfl,hb,hE,ho,hs,hbl,rfl,hR,hN⟩:=decP_iff.1 hc
 have hd:((b:Nat):Int).tdiv 64=((b/64:Nat):Int):=tdiv_nat b 64
 have hm:((b:Nat):Int).tmod 64=((b%64:Nat):Int):=tmod_nat b 64
 have hml:b%64<64:=Nat.mod_lt _ (by omega)
 have hseg:=segE_drop hE ho hbl
 have hval:qO (o+b/64) (l-b/64) L/2^(b%64)=qO o l L/2^b:=by
  rw[hseg,Nat.div_div_eq_div_mul]
  congr 1
  have:18446744073709551616^(b/64)=2^(64*(b/64)):=by rw[Nat.pow_mul]
  rw[this,<-Nat.pow_add,Nat.div_add_mod]
 have ho2:o+b/64+(l-b/64)<=L.length:=by omega
 have hlt:qO o l L/2^b<18446744073709551616^(l-b/64):=by
  rw[<-hval];exact Nat.lt_of_le_of_lt (Nat.div_le_self _ _) (segE_lt hE _ _)
 have q8:qg (Q148 (o+b/64) (l-b/64) R/\N=(dg 18446744073709551616 (qO (o+b/64) (l-b/64) R)).length)=true:=by
  rw[hR]
  exact decP_iff.2 ⟨⟨isE_stE hE,by rw[stE_len ho2];exact hs,by rw[stE_len ho2];exact ho2⟩,by rw[segE_stE ho2 hlt];exact hN⟩
 have e1:((l:Int)).toNat-b/64=l-b/64:=by omega
 refine⟨_,_,qj hG (.cons (vk148 hG N) .nil) mix enter138 (O:=[(212,v148 N)]) (L:=[(5,l138 R)]) (pol:=pol138) (qN (b:=b138) (live:=[0,1,15,16]) (sp:=l138 R) (m:=1) (by kernel_rfl) (by kernel_rfl) (by kernel_rfl) (loop138 hG R)) ?_,hr⟩
 rw[p138]
 simp only[hd,hm,Int.toNat_natCast]
 have n64:∀ c:Bool,(!decide ((64:Int)=0)&&c)=c:=fun c=>by rw[kG (by omega)];rfl
 rw[n64,k5 (by simp only[kD,kE];omega),k5 (by simp only[kD,kE];omega),k5 (by decide)]
 by_cases h0:b%64=0
 ·have hRL:R=L:=by
   rw[h0,Nat.pow_zero,Nat.div_one]at hval
   rw[hR,<-hval]
   unfold stE
   exact(split3 hE ho2).symm
  rw[hRL]at q8
  rw[k6 (kG (by omega)),k5 q8,k7,hRL]
 ·rw[k5 (kF (by omega)),k5 (decP_iff.2 ⟨b%64,rfl,hml,hE,ho2,hs,rfl,rfl,by rw[hval];exact hR⟩),k5 q8,k7]
def b129:Code:=(qi (qd f149)).getD 0 .skip
def b129o:Code:=(qi (qd f149)).getD 1 .skip
def b129i:Code:=(qi (qd f149)).getD 2 .skip
def pol129:Pol:={live:=[(4,[5,6,7,8]),(14,[6,7,8,9,72,73,74]),(17,[6,7,8,9,10,11,72,73,74,79])],own:=[15,17,24,27,43,50],wr:=[(183,[0]),(185,[0])]}
theorem enter129:Enters prog 149 f149 (qd f149):=⟨func149,by kernel_rfl,rfl⟩
def t129 (Lx:List Int) (ox lx:Nat) (Ly:List Int) (oy ly:Nat) (n m:Int):LS:=⟨[.sl 0 1 ox lx,.sl 1 1 oy ly,.i .i64 n,.i .i64 m],[some ⟨1,.ints .u64 Lx⟩,some ⟨1,.ints .u64 Ly⟩]⟩
def O129 (c:Bool) (R1:List Int) (N1:Nat) (R2:List Int) (o2 N2:Nat):Orc:=[(182,g137),(183,g138 R2 o2 N2),(184,g139 c),(185,g140 R1 N1)]
theorem q129 (c:Bool) (R1:List Int) (N1:Nat) (R2:List Int) (o2 N2:Nat) (Lx:List Int) (ox lx:Nat) (Ly:List Int) (oy ly:Nat) (n m:Int):qe prog (O129 c R1 N1 R2 o2 N2) [] pol129 f149.ntmps 0 [5,6,7,8] b129 (t129 Lx ox lx Ly oy ly n m)=
 Tr.br (decide (1<(lx:Int))) (.br ((ox+lx).ble Lx.length&&(oy+ly).ble Ly.length) (.br (qg (Q139 (List.take lx (List.drop ox Lx)) (List.take ly (List.drop oy Ly)) c)) (.br c (.br ((ox+lx).ble Lx.length) (.br (qg (Q140 Ly (List.take lx (List.drop ox Lx)) R1 oy ly/\N1=(dg (18446744073709551616:Nat) (qO oy ly Ly-lv (18446744073709551616:Nat) (List.take lx (List.drop ox Lx)))).length)) (.br (decide ((N1:Int)=0)) (.ok (.out (.exit 0) (LS.mk [.sl 0 1 oy N1,.sl 1 1 ox lx,.i .i64 n,.i .i64 m] [some (.mk 1 (.ints .u64 R1)),some (.mk 1 (.ints .u64 Lx))]))) (.br ((oy+N1).ble R1.length) (.br (qg (Q137 (List.take N1 (List.drop oy R1)))) (.br (qg (P138 R1 R2 oy N1 N2 o2 (↑(evN (List.take N1 (List.drop oy R1))):Int))) (.ok (.out .normal (LS.mk [.sl 0 1 o2 N2,.sl 1 1 ox lx,.i .i64 n,.i .i64 m] [some (.mk 1 (.ints .u64 R2)),some (.mk 1 (.ints .u64 Lx))]))) (.no 1)) (.no 1)) (.no 10003))) (.no 1)) (.no 8002)) (.br ((oy+ly).ble Ly.length) (.br (qg (Q140 Lx (List.take ly (List.drop oy Ly)) R1 ox lx/\N1=(dg (18446744073709551616:Nat) (qO ox lx Lx-lv (18446744073709551616:Nat) (List.take ly (List.drop oy Ly)))).length)) (.br (decide ((N1:Int)=0)) (.ok (.out (.exit 0) (LS.mk [.sl 0 1 ox N1,.sl 1 1 oy ly,.i .i64 n,.i .i64 m] [some (.mk 1 (.ints .u64 R1)),some (.mk 1 (.ints .u64 Ly))]))) (.br ((ox+N1).ble R1.length) (.br (qg (Q137 (List.take N1 (List.drop ox R1)))) (.br (qg (P138 R1 R2 ox N1 N2 o2 (↑(evN (List.take N1 (List.drop ox R1))):Int))) (.ok (.out .normal (LS.mk [.sl 0 1 o2 N2,.sl 1 1 oy ly,.i .i64 n,.i .i64 m] [some (.mk 1 (.ints .u64 R2)),some (.mk 1 (.ints .u64 Ly))]))) (.no 1)) (.no 1)) (.no 10003))) (.no 1)) (.no 8002))) (.no 1)) (.no 6001)) (.br (decide (1<(ly:Int))) (.br ((ox+lx).ble Lx.length&&(oy+ly).ble Ly.length) (.br (qg (Q139 (List.take lx (List.drop ox Lx)) (List.take ly (List.drop oy Ly)) c)) (.br c (.br ((ox+lx).ble Lx.length) (.br (qg (Q140 Ly (List.take lx (List.drop ox Lx)) R1 oy ly/\N1=(dg (18446744073709551616:Nat) (qO oy ly Ly-lv (18446744073709551616:Nat) (List.take lx (List.drop ox Lx)))).length)) (.br (decide ((N1:Int)=0)) (.ok (.out (.exit 0) (LS.mk [.sl 0 1 oy N1,.sl 1 1 ox lx,.i .i64 n,.i .i64 m] [some (.mk 1 (.ints .u64 R1)),some (.mk 1 (.ints .u64 Lx))]))) (.br ((oy+N1).ble R1.length) (.br (qg (Q137 (List.take N1 (List.drop oy R1)))) (.br (qg (P138 R1 R2 oy N1 N2 o2 (↑(evN (List.take N1 (List.drop oy R1))):Int))) (.ok (.out .normal (LS.mk [.sl 0 1 o2 N2,.sl 1 1 ox lx,.i .i64 n,.i .i64 m] [some (.mk 1 (.ints .u64 R2)),some (.mk 1 (.ints .u64 Lx))]))) (.no 1)) (.no 1)) (.no 10003))) (.no 1)) (.no 8002)) (.br ((oy+ly).ble Ly.length) (.br (qg (Q140 Lx (List.take ly (List.drop oy Ly)) R1 ox lx/\N1=(dg (18446744073709551616:Nat) (qO ox lx Lx-lv (18446744073709551616:Nat) (List.take ly (List.drop oy Ly)))).length)) (.br (decide ((N1:Int)=0)) (.ok (.out (.exit 0) (LS.mk [.sl 0 1 ox N1,.sl 1 1 oy ly,.i .i64 n,.i .i64 m] [some (.mk 1 (.ints .u64 R1)),some (.mk 1 (.ints .u64 Ly))]))) (.br ((ox+N1).ble R1.length) (.br (qg (Q137 (List.take N1 (List.drop ox R1)))) (.br (qg (P138 R1 R2 ox N1 N2 o2 (↑(evN (List.take N1 (List.drop ox R1))):Int))) (.ok (.out .normal (LS.mk [.sl 0 1 o2 N2,.sl 1 1 oy ly,.i .i64 n,.i .i64 m] [some (.mk 1 (.ints .u64 R2)),some (.mk 1 (.ints .u64 Ly))]))) (.no 1)) (.no 1)) (.no 10003))) (.no 1)) (.no 8002))) (.no 1)) (.no 6001)) (.ok (.out (.exit 0) (LS.mk [.sl 0 1 ox lx,.sl 1 1 oy ly,.i .i64 n,.i .i64 m] [some (.mk 1 (.ints .u64 Lx)),some (.mk 1 (.ints .u64 Ly))])))):=by kernel_rfl
theorem segE_take {L:List Int} (hE:isE L) {o n N:Nat} (ho:o+n<=L.length) (hN:N<=n):qO o N L=qO o n L%18446744073709551616^N:=by
 have h:=seg_pd hE ho
 have h2:(L.drop o).take N=((L.drop o).take n).take N:=by rw[List.take_take,Nat.min_eq_left hN]
 have:qO o N L=lv 18446744073709551616 ((L.drop o).take N):=rfl
 rw[this,h2,h,pd_take hN,lv_pd_mod (by omega)]
theorem segE_dg {L:List Int} (hE:isE L) {o n:Nat} (ho:o+n<=L.length):(dg 18446744073709551616 (qO o n L)).length<=n/\qO o (dg 18446744073709551616 (qO o n L)).length L=qO o n L:=by
 have h1:(dg 18446744073709551616 (qO o n L)).length<=n:=dg_length_le (by omega) (segE_lt hE o n)
 exact⟨h1,by rw[segE_take hE ho h1,Nat.mod_eq_of_lt (dg_lt (by omega) _)]⟩
structure Nm (L:List Int) (o l V:Nat):Prop where
 isE:isE L
 ho:o+l<=L.length
 hs:L.length<=16000
 val:qO o l L=V
 len:l=(dg 18446744073709551616 V).length
theorem Nm.lst {L:List Int} {o l V:Nat} (h:Nm L o l V):(L.drop o).take l=dg 18446744073709551616 V:=by
 rw[seg_pd h.isE h.ho,h.val,h.len,pd_dg (by omega)]
theorem Nm.lt {L:List Int} {o l V:Nat} (h:Nm L o l V):V<18446744073709551616^l:=by rw[h.len];exact dg_lt (by omega) V
theorem Nm.pos {L:List Int} {o l V:Nat} (h:Nm L o l V) (hl:V≠0):1<=l:=by
 have:=h.lt
 rcases Nat.eq_zero_or_pos l with h0|h0
 ·rw[h0,Nat.pow_zero]at this;omega
 ·exact h0
theorem dgE_mono {n m:Nat} (h:n<=m):(dg 18446744073709551616 n).length<=(dg 18446744073709551616 m).length:=
 dg_length_le (by omega) (Nat.lt_of_le_of_lt h (dg_lt (by omega) m))
theorem ev2_lt {X n:Nat} (h0:X≠0) (h:X<18446744073709551616^n):ev2 X/64<n/\2^ev2 X∣X/\X/2^ev2 X%2=1:=by
 obtain⟨m,hm⟩:=ev2_spec h0
 have hp:0<2^ev2 X:=Nat.pow_pos (by omega)
 have h1:2^ev2 X<=X:=by
  conv=>rhs;rw[hm]
  exact Nat.le_mul_of_pos_right _ (by omega)
 have h2:2^ev2 X<2^(64*n):=by
  rw[Nat.pow_mul];exact Nat.lt_of_le_of_lt h1 h
 have h3:=(Nat.pow_lt_pow_iff_right (show 1<2 by omega)).1 h2
 refine⟨by omega,⟨2*m+1,hm⟩,?_⟩
 have hq:X/2^ev2 X=2*m+1:=by
  generalize 2^ev2 X=p at*
  rw[hm,Nat.mul_div_cancel_left _ hp]
 rw[hq]
 omega
theorem round_nums {A B L1:Nat} {La:List Int} {oa la:Nat} (ha:Nm La oa la A) (hAB:B<=A) (hA:A%2=1) (hB:B%2=1) (hl:(dg 18446744073709551616 B).length=L1):
  ∃ R1 N1,Q140 La (dg 18446744073709551616 B) R1 oa la/\N1=(dg 18446744073709551616 (qO oa la La-lv 18446744073709551616 (dg 18446744073709551616 B))).length/\Nm R1 oa N1 (A-B)/\
  (A≠B->∃ R2 o2 N2,N1≠0/\Q137 ((R1.drop oa).take N1)/\P138 R1 R2 oa N1 N2 o2 ((evN ((R1.drop oa).take N1):Nat):Int)/\Nm R2 o2 N2 ((A-B)/2^ev2 (A-B))/\(A-B)/2^ev2 (A-B)%2=1/\(A-B)/2^ev2 (A-B)<=A-B/\2^ev2 (A-B)∣A-B):=by
 have hvB:=lv_dg (B:=18446744073709551616) (by omega) B
 have hlen:=dgE_mono hAB
 have hD:A-B<18446744073709551616^la:=Nat.lt_of_le_of_lt (Nat.sub_le _ _) ha.lt
 have hq:Q140 La (dg 18446744073709551616 B) (stE oa la La (A-B)) oa la:=⟨ha.isE,isE_dg B,ha.ho,by have:=ha.hs;omega,by rw[ha.len];exact hlen,by rw[hvB,ha.val];exact hAB,by rw[hvB,ha.val]⟩
 have e1:qO oa la La-lv 18446744073709551616 (dg 18446744073709551616 B)=A-B:=by rw[ha.val,hvB]
 have hE1:isE (stE oa la La (A-B)):=isE_stE ha.isE
 have hl1:(stE oa la La (A-B)).length=La.length:=stE_len ha.ho
 have hs1:qO oa la (stE oa la La (A-B))=A-B:=segE_stE ha.ho hD
 obtain⟨d1,d2⟩:=segE_dg hE1 (o:=oa) (n:=la) (by rw[hl1];exact ha.ho)
 rw[hs1]at d1 d2
 have hi1:Nm (stE oa la La (A-B)) oa (dg 18446744073709551616 (A-B)).length (A-B):=⟨hE1,by rw[hl1];have:=ha.ho;omega,by rw[hl1];exact ha.hs,d2,rfl⟩
 refine⟨stE oa la La (A-B),(dg 18446744073709551616 (A-B)).length,hq,by rw[e1],hi1,fun hne => ?_⟩
 have h0:A-B≠0:=by omega
 have hls:=hi1.lst
 have hvD:=lv_dg (B:=18446744073709551616) (by omega) (A-B)
 have hp1:=hi1.pos h0
 obtain⟨v1,v2,v3⟩:=ev2_lt h0 hi1.lt
 have hev:evN (((stE oa la La (A-B)).drop oa).take (dg 18446744073709551616 (A-B)).length)=ev2 (A-B):=by
  unfold evN
  rw[qh,hls,hvD]
 have hho:=hi1.ho
 have hhs:=hi1.hs
 have hVlt:(A-B)/2^ev2 (A-B)<18446744073709551616^((dg 18446744073709551616 (A-B)).length-ev2 (A-B)/64):=by
  have hlt:=hi1.lt
  rw[Nat.div_lt_iff_lt_mul (Nat.pow_pos (by omega))]
  have e64:18446744073709551616^(ev2 (A-B)/64)<=2^ev2 (A-B):=by
   have:18446744073709551616^(ev2 (A-B)/64)=2^(64*(ev2 (A-B)/64)):=by rw[Nat.pow_mul]
   rw[this]
   exact Nat.pow_le_pow_right (by omega) (by omega)
  have h3:=Nat.mul_le_mul_left (18446744073709551616^((dg 18446744073709551616 (A-B)).length-ev2 (A-B)/64)) e64
  rw[<-Nat.pow_add,show(dg 18446744073709551616 (A-B)).length-ev2 (A-B)/64+ev2 (A-B)/64=(dg 18446744073709551616 (A-B)).length by omega]at h3
  omega
 have hR2E:isE (stE (oa+ev2 (A-B)/64) ((dg 18446744073709551616 (A-B)).length-ev2 (A-B)/64) (stE oa la La (A-B)) ((A-B)/2^ev2 (A-B))):=isE_stE hE1
 have ho2:oa+ev2 (A-B)/64+((dg 18446744073709551616 (A-B)).length-ev2 (A-B)/64)<=(stE oa la La (A-B)).length:=by omega
 have hR2l:=stE_len (v:=(A-B)/2^ev2 (A-B)) ho2
 have hR2s:=segE_stE (v:=(A-B)/2^ev2 (A-B)) ho2 hVlt
 obtain⟨f1,f2⟩:=segE_dg hR2E (o:=oa+ev2 (A-B)/64) (n:=(dg 18446744073709551616 (A-B)).length-ev2 (A-B)/64) (by rw[hR2l];exact ho2)
 rw[hR2s]at f1 f2
 refine⟨_,oa+ev2 (A-B)/64,(dg 18446744073709551616 ((A-B)/2^ev2 (A-B))).length,by omega,?_,?_,⟨hR2E,by rw[hR2l];omega,by rw[hR2l];exact hhs,f2,rfl⟩,v3,Nat.div_le_self _ _,v2⟩
 ·rw[hls]
  exact⟨isE_dg _,by omega,by rw[hvD];exact h0⟩
 ·rw[hev]
  refine⟨ev2 (A-B),rfl,by omega,hE1,hho,by omega,by omega,rfl,?_,?_⟩
  ·rw[hi1.val]
  ·rw[hi1.val]
include hG in
theorem orc129 (hT:qp G) (c:Bool) (R1:List Int) (N1:Nat) (R2:List Int) (o2 N2:Nat):OrcOK prog G (O129 c R1 N1 R2 o2 N2):=.cons (gk137 hG hT) (.cons (gk138 hG _ _ _) (.cons (gk139 hG c) (.cons (gk140 hG _ _) .nil)))
theorem gcd_odd_part {D B e:Nat} (hB:B%2=1) (hd:2^e∣D):Nat.gcd (D/2^e) B=Nat.gcd D B:=by
 obtain⟨q,hq⟩:=hd
 have hp:0<2^e:=Nat.pow_pos (by omega)
 have hc:Nat.Coprime (2^e) B:=by
  refine Nat.Coprime.pow_left e ?_
  have h1:=Nat.gcd_dvd_left 2 B
  have h2:=Nat.gcd_dvd_right 2 B
  have h3:Nat.gcd 2 B<=2:=Nat.le_of_dvd (by omega) h1
  have h4:Nat.gcd 2 B≠0:=fun h=>by rw[h]at h1;omega
  have h5:Nat.gcd 2 B≠2:=fun h=>by rw[h]at h2;omega
  show Nat.gcd 2 B=1
  omega
 rw[hq,Nat.mul_div_cancel_left _ hp,Nat.Coprime.gcd_mul_left_cancel q hc]
include hG in
theorem goes129 (hT:qp G) (n m:Int):∀ (f X Y:Nat) (Lx:List Int) (ox lx:Nat) (Ly:List Int) (oy ly:Nat),X+Y<=f->Nm Lx ox lx X->Nm Ly oy ly Y->X%2=1->Y%2=1->
  ∃ X' Y' Lx' ox' lx' Ly' oy' ly',Goes (Rnd prog G f149.ntmps 0 [5,6,7,8] b129) (t129 Lx ox lx Ly oy ly n m) (.exit 0) (t129 Lx' ox' lx' Ly' oy' ly' n m)/\Nm Lx' ox' lx' X'/\Nm Ly' oy' ly' Y'/\Nat.gcd X Y=Nat.gcd X' Y'/\Y'≠0/\Y'<=X+Y/\(X'=0\/(lx'=1/\ly'=1))
 | 0,X,Y,_,_,_,_,_,_,hf,_,_,hX,_=>by omega
 | f+1,X,Y,Lx,ox,lx,Ly,oy,ly,hf,hx,hy,hX,hY=>by
  have px:=hx.pos (by omega)
  have py:=hy.pos (by omega)
  have xl:=hx.lst
  have yl:=hy.lst
  have xo:=hx.ho
  have yo:=hy.ho
  have xs:=hx.hs
  have ys:=hy.hs
  have vX:=lv_dg (B:=18446744073709551616) (by omega) X
  have vY:=lv_dg (B:=18446744073709551616) (by omega) Y
  by_cases hl:lx=1/\ly=1
  ·refine⟨X,Y,Lx,ox,lx,Ly,oy,ly,.last _ _ _ (qb hG (orc129 hG hT true [] 0 [] 0 0) mix (L:=[]) (pol:=pol129) (O:=O129 true [] 0 [] 0 0) (kA (by kernel_rfl)) (Nat.zero_le _) ?_) (by simp),hx,hy,rfl,by omega,by omega,.inr hl⟩
   rw[q129,k6 (kG (by omega)),k6 (kG (by omega)),k7]
   rfl
  ·have both:∀ t:Tr,∀ u:Tr,(Tr.br (decide ((1:Int)<(lx:Int))) t (Tr.br (decide ((1:Int)<(ly:Int))) t u)).run=t.run:=by
    intro t u
    by_cases h1:1<lx
    ·rw[k5 (kF (by omega))]
    ·rw[k6 (kG (by omega)),k5 (kF (by omega))]
   have q39:qg (Q139 ((Lx.drop ox).take lx) ((Ly.drop oy).take ly) (decide (X<Y)))=true:=by
    rw[xl,yl]
    refine decP_iff.2 ⟨⟨X,Y,rfl,rfl⟩,?_,?_,by rw[vX,vY]⟩
    ·rw[<-hx.len];omega
    ·rw[<-hy.len];omega
   have hgc:=Nat.gcd_comm X Y
   by_cases hlt:X<Y
   ·obtain⟨R1,N1,a1,a2,a3,a4⟩:=round_nums hy (Nat.le_of_lt hlt) hY hX rfl
    obtain⟨R2,o2,N2,c1,c2,c3,c4,c5,c6,c7⟩:=a4 (by omega)
    have g:=goes129 hT n m f ((Y-X)/2^ev2 (Y-X)) X R2 o2 N2 Lx ox lx (by omega) c4 hx c5 hX
    obtain⟨X',Y',Lx',ox',lx',Ly',oy',ly',g1,g2,g3,g4,g5,g6,g7⟩:=g
    refine⟨X',Y',Lx',ox',lx',Ly',oy',ly',.more _ _ _ _ (qb hG (orc129 hG hT (decide (X<Y)) R1 N1 R2 o2 N2) mix (L:=[]) (pol:=pol129) (O:=O129 (decide (X<Y)) R1 N1 R2 o2 N2) (kA (by kernel_rfl)) (Nat.zero_le _) ?_) g1,g2,g3,?_,g5,by omega,g7⟩
    ·rw[q129,both,k5 (by simp only[kD,kH];omega),k5 q39,k5 (kF hlt),k5 (by rw[kH];omega),xl,k5 (decP_iff.2 ⟨a1,a2⟩),k6 (kG (by omega)),k5 (by rw[kH];exact a3.ho),k5 (decP_iff.2 c2),k5 (decP_iff.2 c3),k7]
     rfl
    ·rw[<-g4,gcd_odd_part hX c7,hgc,Nat.gcd_sub_self_left (Nat.le_of_lt hlt)]
   ·obtain⟨R1,N1,a1,a2,a3,a4⟩:=round_nums hx (Nat.le_of_not_lt hlt) hX hY rfl
    by_cases hne:X=Y
    ·refine⟨0,Y,R1,ox,N1,Ly,oy,ly,.last _ _ _ (qb hG (orc129 hG hT (decide (X<Y)) R1 N1 [] 0 0) mix (L:=[]) (pol:=pol129) (O:=O129 (decide (X<Y)) R1 N1 [] 0 0) (kA (by kernel_rfl)) (Nat.zero_le _) ?_) (by simp),by rw[hne,Nat.sub_self]at a3;exact a3,hy,by rw[hne,Nat.gcd_self,Nat.gcd_zero_left],by omega,by omega,.inl rfl⟩
     have hN:N1=0:=by rw[a2,hx.val,vY,hne,Nat.sub_self,dg_zero];rfl
     rw[q129,both,k5 (by simp only[kD,kH];omega),k5 q39,k6 (kG hlt),k5 (by rw[kH];omega),yl,k5 (decP_iff.2 ⟨a1,a2⟩),k5 (kF (by omega)),k7]
     rfl
    ·obtain⟨R2,o2,N2,c1,c2,c3,c4,c5,c6,c7⟩:=a4 hne
     have g:=goes129 hT n m f ((X-Y)/2^ev2 (X-Y)) Y R2 o2 N2 Ly oy ly (by omega) c4 hy c5 hY
     obtain⟨X',Y',Lx',ox',lx',Ly',oy',ly',g1,g2,g3,g4,g5,g6,g7⟩:=g
     refine⟨X',Y',Lx',ox',lx',Ly',oy',ly',.more _ _ _ _ (qb hG (orc129 hG hT (decide (X<Y)) R1 N1 R2 o2 N2) mix (L:=[]) (pol:=pol129) (O:=O129 (decide (X<Y)) R1 N1 R2 o2 N2) (kA (by kernel_rfl)) (Nat.zero_le _) ?_) g1,g2,g3,?_,g5,by omega,g7⟩
     ·rw[q129,both,k5 (by simp only[kD,kH];omega),k5 q39,k6 (kG hlt),k5 (by rw[kH];omega),yl,k5 (decP_iff.2 ⟨a1,a2⟩),k6 (kG (by omega)),k5 (by rw[kH];exact a3.ho),k5 (decP_iff.2 c2),k5 (decP_iff.2 c3),k7]
      rfl
     ·rw[<-g4,gcd_odd_part hY c7,Nat.gcd_sub_self_left (Nat.le_of_not_lt hlt)]
def i129 (Ly bs:List Int) (oy ly lb:Nat) (n m i w q k:Int):LS:=⟨[.sl 0 1 oy ly,.i .i64 n,.i .i64 m,.sl 1 1 0 lb,.i .i64 i,.i .u64 w,.sl 0 1 oy ly,.i .i64 q,.i .i64 i,.i .i64 k],[some ⟨1,.ints .u64 Ly⟩,some ⟨1,.ints .u8 bs⟩]⟩
theorem q129i (Ly bs:List Int) (oy ly lb:Nat) (n m i w q k:Int):qe prog [] [] pol129 f149.ntmps 0 [6,7,8,9,10,11,72,73,74,79] b129i (i129 Ly bs oy ly lb n m i w q k)=
 Tr.br (decide (k<8)) (.br (ib ((ly:Int)-1)) (.br (ib ((ly:Int)-1-i)) (.br (ib ((8:Int)*((ly:Int)-1-i))) (.br (ib ((8:Int)*((ly:Int)-1-i)+k)) (.br (ib ((8:Int)*k)) (.br (ib ((56:Int)-8*k)) (.br (decide ((0:Int)<=56-8*k)) (.br (ix ((8:Int)*((ly:Int)-1-i)+k) ((lb:Int))) (.br (((0:Nat)+((8:Int)*((ly:Int)-1-i)+k).toNat+1).ble bs.length) (.br (ib (k+1)) (.ok (.out .normal (LS.mk [.sl 0 1 oy ly,.i .i64 n,.i .i64 m,.sl 1 1 0 lb,.i .i64 i,.i .u64 w,.sl 0 1 oy ly,.i .i64 q,.i .i64 i,.i .i64 (k+1)] [some (.mk 1 (.ints .u64 Ly)),some (.mk 1 (.ints .u8 (bs.set ((0:Nat)+((8:Int)*((ly:Int)-1-i)+k).toNat) (IntKind.u8.wrap (w.fdiv ((2:Int)^min ((56:Int)-8*k).toNat IntKind.u64.bits))))))]))) (.no 21002)) (.no 20001)) (.no 20002)) (.no 20004)) (.no 20005)) (.no 20006)) (.no 20009)) (.no 20011)) (.no 20012)) (.no 20014)) (.ok (.out (.exit 4) (LS.mk [.sl 0 1 oy ly,.i .i64 n,.i .i64 m,.sl 1 1 0 lb,.i .i64 i,.i .u64 w,.sl 0 1 oy ly,.i .i64 q,.i .i64 i,.i .i64 k] [some (.mk 1 (.ints .u64 Ly)),some (.mk 1 (.ints .u8 bs))]))):=by kernel_rfl
def o129 (Ly bs:List Int) (oy ly lb:Nat) (n m q i:Int):LS:=⟨[.sl 0 1 oy ly,.i .i64 n,.i .i64 m,.sl 1 1 0 lb,.sl 0 1 oy ly,.i .i64 q,.i .i64 i],[some ⟨1,.ints .u64 Ly⟩,some ⟨1,.ints .u8 bs⟩]⟩
def byS (ly Y i w k:Nat):List Int:=(pd 256 (8*ly) (Y%18446744073709551616^i+w/256^(8-k)*256^(8-k)*18446744073709551616^i)).reverse
def Q129i (Ly bs R:List Int) (oy ly lb:Nat) (i w q k:Int):Prop:=∃ Y j v:Nat,i=(j:Int)/\w=(v:Int)/\v<18446744073709551616/\j<ly/\ly<=65536/\lb=8*ly/\k=0/\bs=byS ly Y j v 0/\R=byS ly Y j v 8
def l129i (R:List Int):qA:=fun ls K=>match ls with
 | ⟨[.sl 0 1 oy ly,.i .i64 n,.i .i64 m,.sl 1 1 0 lb,.i .i64 i,.i .u64 w,.sl 0 1 oy' ly',.i .i64 q,.i .i64 i',.i .i64 k],[some ⟨1,.ints .u64 Ly⟩,some ⟨1,.ints .u8 bs⟩]⟩=>
  .br (qg (Q129i Ly bs R oy ly lb i w q k/\oy'=oy/\ly'=ly/\i'=i)) (K (.exit 4) (i129 Ly R oy ly lb n m i w q 8)) (.no 1)
 | _=>.no 1
theorem q129o (Ly bs R:List Int) (oy ly lb:Nat) (n m q i:Int):qe prog [] [(17,l129i R)] pol129 f149.ntmps 0 [6,7,8,9,72,73,74] b129o (o129 Ly bs oy ly lb n m q i)=
 Tr.br (decide (i<q)) (.br (ix (i) ((ly:Int))) (.br ((oy+i.toNat+1).ble Ly.length) (.br (qg (Q129i Ly bs R oy ly lb i (Ly.getD (oy+i.toNat) (0:Int)) q (0:Int)/\oy=oy/\ly=ly/\i=i)) (.br (ib (i+1)) (.ok (.out .normal (LS.mk [.sl 0 1 oy ly,.i .i64 n,.i .i64 m,.sl 1 1 0 lb,.sl 0 1 oy ly,.i .i64 q,.i .i64 (i+1)] [some (.mk 1 (.ints .u64 Ly)),some (.mk 1 (.ints .u8 R))]))) (.no 22002)) (.no 1)) (.no 16003)) (.no 16004)) (.ok (.out (.exit 2) (LS.mk [.sl 0 1 oy ly,.i .i64 n,.i .i64 m,.sl 1 1 0 lb,.sl 0 1 oy ly,.i .i64 q,.i .i64 i] [some (.mk 1 (.ints .u64 Ly)),some (.mk 1 (.ints .u8 bs))]))):=by kernel_rfl
theorem pd256_set {L N j b:Nat} (hj:j<L) (hb:b<256) (hN:N<256^L) (h0:N/256^j%256=0):(pd 256 L N).set j ((b:Nat):Int)=pd 256 L (N+b*256^j):=by
 have hD:∀ x∈(pd 256 L N).set j ((b:Nat):Int),0<=x/\x<((256:Nat):Int):=by
  intro x hx
  rcases List.mem_or_eq_of_mem_set hx with h|h
  ·exact pd_mem (by omega) x h
  ·rw[h];omega
 have h1:=pd_lv (B:=256) (by omega) hD
 rw[List.length_set,qn]at h1
 rw[<-h1]
 congr 1
 have:=lv_set 256 (pd 256 L N) j ((b:Nat):Int) (by rw[qn];exact hj)
 rw[pd_getD hj,h0,lv_pd (by omega) _ _ hN]at this
 simpa using this
theorem byS_step {ly Y i w k:Nat} (hi:i<ly) (hk:k<8) (hw:w<18446744073709551616):(byS ly Y i w k).set (8*(ly-1-i)+k) ((w/256^(7-k)%256:Nat):Int)=byS ly Y i w (k+1):=by
 have hE:(18446744073709551616:Nat)^i=256^(8*i):=by rw[Nat.pow_mul]
 have hP:0<256^(8*i):=Nat.pow_pos (by omega)
 have hA:Y%256^(8*i)<256^(8*i):=Nat.mod_lt _ hP
 unfold byS
 rw[hE,rev_set _ _ _ (by rw[qn];omega),qn,show 8*ly-1-(8*(ly-1-i)+k)=8*i+(7-k) by omega]
 have e1:w/256^(8-k)=w/256^(7-k)/256:=by rw[Nat.div_div_eq_div_mul,<-Nat.pow_succ,show(7-k).succ=8-k by omega]
 have hp7:256^(8-k)=256*256^(7-k):=by rw[<-Nat.pow_succ',show(7-k).succ=8-k by omega]
 have hT:w/256^(8-k)*256^(8-k)<=w:=Nat.div_mul_le_self _ _
 have hN:Y%256^(8*i)+w/256^(8-k)*256^(8-k)*256^(8*i)<256^(8*ly):=by
  have h1:256^(8*(i+1))<=256^(8*ly):=Nat.pow_le_pow_right (by omega) (by omega)
  have h2:256^(8*(i+1))=18446744073709551616*256^(8*i):=by rw[show 8*(i+1)=8+8*i by omega,Nat.pow_add]
  have h3:=Nat.mul_le_mul_right (256^(8*i)) (show w/256^(8-k)*256^(8-k)+1<=18446744073709551616 by omega)
  rw[Nat.add_mul,Nat.one_mul]at h3
  omega
 have h0:(Y%256^(8*i)+w/256^(8-k)*256^(8-k)*256^(8*i))/256^(8*i+(7-k))%256=0:=by
  rw[Nat.pow_add,<-Nat.div_div_eq_div_mul,Nat.add_mul_div_right _ _ hP,Nat.div_eq_of_lt hA,Nat.zero_add,hp7,<-Nat.mul_assoc,Nat.mul_div_cancel _ (Nat.pow_pos (by omega)),Nat.mul_mod_left]
 rw[pd256_set (by omega) (Nat.mod_lt _ (by omega)) hN h0]
 congr 2
 have e2:w/256^(8-(k+1))=w/256^(7-k):=by rw[show 8-(k+1)=7-k by omega]
 rw[e2,show 8-(k+1)=7-k by omega,e1,hp7,Nat.pow_add]
 have dm:=Nat.div_add_mod (w/256^(7-k)) 256
 generalize w/256^(7-k)=W at*
 generalize 256^(7-k)=p at*
 generalize 256^(8*i)=P at*
 have:W*p*P=W/256*(256*p)*P+W%256*(P*p):=by
  rw[show W/256*(256*p)*P=256*(W/256)*(P*p) by rw[Nat.mul_left_comm (W/256),Nat.mul_assoc 256,Nat.mul_assoc 256,Nat.mul_assoc (W/256),Nat.mul_comm p P],<-Nat.add_mul,dm,Nat.mul_assoc,Nat.mul_comm p P]
 omega
theorem byS_len {ly Y i w k:Nat}:(byS ly Y i w k).length=8*ly:=by unfold byS;rw[List.length_reverse,qn]
include hG in
theorem loop129i (R:List Int):qz prog G f149.ntmps 0 [6,7,8,9,10,11,72,73,74,79] b129i (l129i R):=by
 intro ls K x hm h
 unfold l129i at h
 split at h
 case h_2=>cases h
 rename_i oy ly n m lb i w oy' ly' q i' k Ly bs
 obtain⟨hc,hr⟩:=k8 h
 obtain⟨⟨Y,j,v,rfl,rfl,hv,hj,hl,rfl,rfl,rfl,rfl⟩,rfl,rfl,rfl⟩:=decP_iff.1 hc
 have g:=Goes.count (R:=Rnd prog G f149.ntmps 0 [6,7,8,9,10,11,72,73,74,79] b129i) (fun k=>i129 Ly (byS ly' Y j v k) oy' ly' (8*ly') n m (j:Nat) (v:Nat) q ((k:Nat):Int)) (e:=.exit 4) (ls':=i129 Ly (byS ly' Y j v 8) oy' ly' (8*ly') n m (j:Nat) (v:Nat) q 8) (by simp) 8 0
  (fun k _ hk=>by
   refine qb hG OrcOK.nil mix (L:=[]) (pol:=pol129) (O:=[]) (kA (by kernel_rfl)) (Nat.zero_le _) ?_
   have e1:0+((8:Int)*((ly':Int)-1-(j:Int))+(k:Int)).toNat=8*(ly'-1-j)+k:=by omega
   have e2:min ((56:Int)-8*(k:Int)).toNat IntKind.u64.bits=8*(7-k):=by simp only[IntKind.bits];omega
   have e3:IntKind.u8.wrap (((v:Nat):Int).fdiv ((2:Int)^(8*(7-k))))=((v/256^(7-k)%256:Nat):Int):=by
    rw[fdiv_nat,IntKind.wrap_u8',Nat.pow_mul];simp
   rw[q129i,e1,e2,e3,byS_step hj (by omega) hv]
   repeat rw[k5 (by simp only[kD,kE,kH,byS_len];omega)]
   rw[k7]
   rfl)
  (by
   refine qb hG OrcOK.nil mix (L:=[]) (pol:=pol129) (O:=[]) (kA (by kernel_rfl)) (Nat.zero_le _) ?_
   rw[q129i,k6 (by decide),k7]
   rfl)
 exact⟨_,_,qx g,hr⟩
include hG in
theorem lps129 {m:Nat} (hm:m=0) (R:List Int):LpsOK prog G pol129 f149.ntmps m [(17,l129i R)] b129o:=by
 subst hm
 exact qN (b:=b129i) (live:=[6,7,8,9,10,11,72,73,74,79]) (sp:=l129i R) (by kernel_rfl) (by kernel_rfl) (by kernel_rfl) (loop129i hG R)
def byV (ly V:Nat):List Int:=(pd 256 (8*ly) V).reverse
def Q129o (Ly bs R:List Int) (oy ly lb:Nat) (q i:Int):Prop:=∃ Y,Nm Ly oy ly Y/\lb=8*ly/\q=(ly:Int)/\i=0/\bs=List.replicate (8*ly) 0/\R=byV ly Y
def l129o (R:List Int):qA:=fun ls K=>match ls with
 | ⟨[.sl 0 1 oy ly,.i .i64 n,.i .i64 m,.sl 1 1 0 lb,.sl 0 1 oy' ly',.i .i64 q,.i .i64 i],[some ⟨1,.ints .u64 Ly⟩,some ⟨1,.ints .u8 bs⟩]⟩=>
  .br (qg (Q129o Ly bs R oy ly lb q i/\oy'=oy/\ly'=ly)) (K (.exit 2) (o129 Ly R oy ly lb n m q q)) (.no 1)
 | _=>.no 1
include hG in
theorem loop129o (R:List Int):qz prog G f149.ntmps 0 [6,7,8,9,72,73,74] b129o (l129o R):=by
 intro ls K x hm h
 unfold l129o at h
 split at h
 case h_2=>cases h
 rename_i oy ly n m lb oy' ly' q i Ly bs
 obtain⟨hc,hr⟩:=k8 h
 obtain⟨⟨Y,hy,rfl,rfl,rfl,rfl,rfl⟩,rfl,rfl⟩:=decP_iff.1 hc
 have yo:=hy.ho
 have ys:=hy.hs
 have ylt:=hy.lt
 have g:=Goes.count (R:=Rnd prog G f149.ntmps 0 [6,7,8,9,72,73,74] b129o) (fun i=>o129 Ly (byV ly' (Y%18446744073709551616^i)) oy' ly' (8*ly') n m (ly':Nat) ((i:Nat):Int)) (e:=.exit 2) (ls':=o129 Ly (byV ly' Y) oy' ly' (8*ly') n m (ly':Nat) (ly':Nat)) (by simp) ly' 0
  (fun i _ hi=>by
   refine qb hG OrcOK.nil mix (L:=[(17,l129i (byV ly' (Y%18446744073709551616^(i+1))))]) (pol:=pol129) (O:=[]) (lps129 hG rfl _) (Nat.zero_le _) ?_
   have hd:Ly.getD (oy'+i) 0=((Y/18446744073709551616^i%18446744073709551616:Nat):Int):=by
    have e1:=hy.lst
    have e2:=pd_dg (B:=18446744073709551616) (n:=Y) (by omega)
    rw[<-hy.len]at e2
    rw[<-e2]at e1
    have e3:=pd_getD (B:=18446744073709551616) (L:=ly') (n:=Y) (j:=i) (by omega)
    rw[<-e1,List.getD_eq_getElem?_getD,List.getElem?_take_of_lt (by omega),List.getElem?_drop,<-List.getD_eq_getElem?_getD]at e3
    exact e3
   have hw:Y/18446744073709551616^i%18446744073709551616<18446744073709551616:=Nat.mod_lt _ (by omega)
   have b0:byV ly' (Y%18446744073709551616^i)=byS ly' Y i (Y/18446744073709551616^i%18446744073709551616) 0:=by
    unfold byV byS
    rw[show Y/18446744073709551616^i%18446744073709551616/256^(8-0)=0 from Nat.div_eq_of_lt (by omega)]
    simp
   have b8:byV ly' (Y%18446744073709551616^(i+1))=byS ly' Y i (Y/18446744073709551616^i%18446744073709551616) 8:=by
    unfold byV byS
    rw[Nat.sub_self,Nat.pow_zero,Nat.div_one,Nat.mul_one,Nat.mod_pow_succ,Nat.mul_comm (18446744073709551616^i)]
   rw[q129o,Int.toNat_natCast,hd]
   rw[k5 (kF (by omega)),k5 (by simp only[kD,kE];omega),k5 (by rw[kH];omega),k5 (decP_iff.2 ⟨⟨Y,i,_,rfl,rfl,hw,by omega,by omega,rfl,rfl,b0,b8⟩,rfl,rfl,rfl⟩),k5 (by simp only[kD,kE];omega),k7]
   rfl)
  (by
   refine qb hG OrcOK.nil mix (L:=[(17,l129i [])]) (pol:=pol129) (O:=[]) (lps129 hG rfl _) (Nat.zero_le _) ?_
   rw[Nat.zero_add,Nat.mod_eq_of_lt ylt,q129o,k6 (kG (by omega)),k7]
   rfl)
 have e0:byV ly' (Y%18446744073709551616^0)=List.replicate (8*ly') 0:=by
  unfold byV
  rw[Nat.pow_zero,Nat.mod_one,pd_zero,List.reverse_replicate]
 rw[e0]at g
 exact⟨_,_,qx g,hr⟩
def v77 (r:ByteArray):Spec:=fun args hs K=>match args,hs with
 | [.s a,.s b],[]=>.br (qg (bz a=true/\bz b=true/\r=nb (bv a.data.toList*bv b.data.toList))) (K (.s r) []) (.no 1)
 | _,_=>.no 1
include hG in
theorem vk77 (r:ByteArray):qc prog G 60 (v77 r):=by
 intro args hs K x h
 unfold v77 at h
 split at h
 case h_2=>cases h
 obtain⟨hc,hr⟩:=k8 h
 obtain⟨h1,h2,rfl⟩:=decP_iff.1 hc
 refine gk77 hG _ _ K x ?_
 show(Tr.br _ _ _).run=_
 rw[k5 (by rw[h1,h2];rfl)]
 exact hr
def rR (L:List Int) (o l:Nat) (k:Int):List Int:=hide (stE (o+k.toNat/64) (l-k.toNat/64) L (qO o l L/2^k.toNat))
def rO (o:Nat) (k:Int):Nat:=hide (o+k.toNat/64)
def rN (L:List Int) (o l:Nat) (k:Int):Nat:=hide (dg 18446744073709551616 (qO o l L/2^k.toNat)).length
def D138 (L:List Int) (o l:Nat) (k:Int):Prop:=0<=k/\k<1000000000/\isE L/\o+l<=L.length/\L.length<=1073741824/\k.toNat/64<=l
def h138:Spec:=fun args hs K=>match args,hs with
 | [.sl 0 1 o l,.i .i64 k],[⟨1,.ints .u64 L⟩]=>.br (qg (D138 L o l k)) (K (.sl 0 1 (rO o k) (rN L o l k)) [⟨1,.ints .u64 (rR L o l k)⟩]) (.no 1)
 | _,_=>.no 1
include hG in
theorem hk138:qc prog G 183 h138:=by
 intro args hs K x h
 unfold h138 at h
 split at h
 case h_2=>cases h
 rename_i o l k L
 obtain⟨hc,hr⟩:=k8 h
 obtain⟨h1,h2,h3,h4,h5,h6⟩:=decP_iff.1 hc
 refine gk138 hG (rR L o l k) (rO o k) (rN L o l k) _ _ K x ?_
 show(Tr.br _ _ _).run=_
 rw[k5 (decP_iff.2 ?_)]
 ·exact hr
 ·refine⟨k.toNat,by omega,by omega,h3,h4,h5,h6,?_,?_,?_⟩
  ·unfold rO;rw[qh]
  ·unfold rR;rw[qh]
  ·unfold rN;rw[qh]
def P129 (r:ByteArray):Orc:=[(60,v77 r),(148,s128),(181,g136),(182,g137),(183,h138),(184,g139 true),(185,g140 [] 0)]
theorem p129 (a b r:ByteArray) (Sx:List Int) (ox lx:Nat) (Sy:List Int) (oy ly:Nat) (n m:Int) (Fx:List Int) (px nx:Nat) (Fy:List Int) (py ny:Nat) (R:List Int):evF prog (P129 r) [(4,qy (t129 Sx ox lx Sy oy ly n m) (.exit 0) (t129 Fx px nx Fy py ny n m)),(14,l129o R),(17,lnoE)] pol129 f149 [.s a,.s b] [] ql=
 Tr.br (bz a) (.br (bz b) (.br ((0+(lb a).length).ble (lb a).length) (.br (qg (Q137 (List.take (lb a).length (List.drop 0 (lb a))))) (.br ((0+(lb b).length).ble (lb b).length) (.br (qg (Q137 (List.take (lb b).length (List.drop 0 (lb b))))) (.br (qg (D138 (lb a) (0:Nat) (lb a).length (↑(evN (List.take (lb a).length (List.drop 0 (lb a)))):Int))) (.br (qg (D138 (lb b) (0:Nat) (lb b).length (↑(evN (List.take (lb b).length (List.drop 0 (lb b)))):Int))) (.br (qg (isLS (LS.mk [.sl 0 1 ox lx,.sl 1 1 oy ly,.i .i64 n,.i .i64 m] [some (.mk 1 (.ints .u64 Sx)),some (.mk 1 (.ints .u64 Sy))]) (LS.mk [.sl 0 1 (rO (0:Nat) (↑(evN (List.take (lb a).length (List.drop 0 (lb a)))):Int)) (rN (lb a) (0:Nat) (lb a).length (↑(evN (List.take (lb a).length (List.drop 0 (lb a)))):Int)),.sl 1 1 (rO (0:Nat) (↑(evN (List.take (lb b).length (List.drop 0 (lb b)))):Int)) (rN (lb b) (0:Nat) (lb b).length (↑(evN (List.take (lb b).length (List.drop 0 (lb b)))):Int)),.i .i64 (↑(evN (List.take (lb a).length (List.drop 0 (lb a)))):Int),.i .i64 (↑(evN (List.take (lb b).length (List.drop 0 (lb b)))):Int)] [some (.mk 1 (.ints .u64 (rR (lb a) (0:Nat) (lb a).length (↑(evN (List.take (lb a).length (List.drop 0 (lb a)))):Int)))),some (.mk 1 (.ints .u64 (rR (lb b) (0:Nat) (lb b).length (↑(evN (List.take (lb b).length (List.drop 0 (lb b)))):Int))))]))) (.br (decide ((nx:Int)=1)) (.br (decide ((ny:Int)=1)) (.br (ix ((0:Int)) ((nx:Int))) (.br ((px+Int.toNat 0+1).ble Fx.length) (.br (ix ((0:Int)) ((ny:Int))) (.br ((py+Int.toNat 0+1).ble Fy.length) (.br (decide (0<=Fx.getD (px+Int.toNat 0) (0:Int))&&decide (0<=Fy.getD (py+Int.toNat 0) (0:Int))) (.br (ix ((0:Int)) ((ny:Int))) (.br ((py+Int.toNat 0+1).ble Fy.length) (.br (ib ((8:Int)*(ny:Int))) (.br (decide ((8:Int)*(ny:Int)=8*(ny:Int))&&decide ((0:Int)<=8*(ny:Int))&&decide ((8:Int)*(ny:Int)<=4294967296)&&prog.types[(5:Nat)].bytes.ble 1024) (.br (qg (Q129o (Fy.set (py+Int.toNat 0) (↑((Fx.getD (px+Int.toNat 0) (0:Int)).toNat.gcd (Fy.getD (py+Int.toNat 0) (0:Int)).toNat):Int)) (List.replicate ((8:Int)*(ny:Int)).toNat (0:Int)) R py ny ((8:Int)*(ny:Int)).toNat (ny:Int) (0:Int)/\py=py/\ny=ny)) (.br (!decide ((8:Int)=0)&&(ib ((if m<n then m else n).tdiv (8:Int)))) (.br (ib ((if m<n then m else n).tdiv (8:Int)+1)) (.br (decide ((if m<n then m else n).tdiv (8:Int)+1=(if m<n then m else n).tdiv (8:Int)+1)&&decide (0<=(if m<n then m else n).tdiv (8:Int)+1)&&decide ((if m<n then m else n).tdiv (8:Int)+1<=4294967296)&&prog.types[(5:Nat)].bytes.ble 1024) (.br (!decide ((8:Int)=0)) (.br (decide (0<=(if m<n then m else n).tmod (8:Int))) (.br (ix ((0:Int)) ((↑((if m<n then m else n).tdiv (8:Int)+1).toNat:Int))) (.br ((0+Int.toNat 0+1).ble (List.replicate ((if m<n then m else n).tdiv (8:Int)+1).toNat (0:Int)).length) (.br (((0:Nat)+((8:Int)*(ny:Int)).toNat).ble R.length) (.br ((0+((if m<n then m else n).tdiv (8:Int)+1).toNat).ble ((List.replicate ((if m<n then m else n).tdiv (8:Int)+1).toNat (0:Int)).set (0+Int.toNat 0) (IntKind.u8.wrap ((1:Int)*2^min ((if m<n then m else n).tmod (8:Int)).toNat IntKind.u8.bits))).length) (.br (qg (bz (ByteArray.mk (List.map (fun(n:Int)=>UInt8.ofNat n.toNat) (List.take ((8:Int)*(ny:Int)).toNat (List.drop 0 R))).toArray)=true/\bz (ByteArray.mk (List.map (fun(n:Int)=>UInt8.ofNat n.toNat) (List.take ((if m<n then m else n).tdiv (8:Int)+1).toNat (List.drop 0 ((List.replicate ((if m<n then m else n).tdiv (8:Int)+1).toNat (0:Int)).set (0+Int.toNat 0) (IntKind.u8.wrap ((1:Int)*2^min ((if m<n then m else n).tmod (8:Int)).toNat IntKind.u8.bits)))))).toArray)=true/\r=nb (bv (List.map (fun(n:Int)=>UInt8.ofNat n.toNat) (List.take ((8:Int)*(ny:Int)).toNat (List.drop 0 R))).toArray.toList*bv (List.map (fun(n:Int)=>UInt8.ofNat n.toNat) (List.take ((if m<n then m else n).tdiv (8:Int)+1).toNat (List.drop 0 ((List.replicate ((if m<n then m else n).tdiv (8:Int)+1).toNat (0:Int)).set (0+Int.toNat 0) (IntKind.u8.wrap ((1:Int)*2^min ((if m<n then m else n).tmod (8:Int)).toNat IntKind.u8.bits)))))).toArray.toList))) (.ok (.ret (.s r) [])) (.no 1)) (.no 26003)) (.no 26005)) (.no 25001)) (.no 25002)) (.no 25003)) (.no 25004)) (.no 24002)) (.no 24003)) (.no 24004)) (.no 1)) (.no 13002)) (.no 13003)) (.no 12001)) (.no 12002)) (.no 1)) (.no 12004)) (.no 12005)) (.no 12007)) (.no 12008)) (.br (ib ((8:Int)*(ny:Int))) (.br (decide ((8:Int)*(ny:Int)=8*(ny:Int))&&decide ((0:Int)<=8*(ny:Int))&&decide ((8:Int)*(ny:Int)<=4294967296)&&prog.types[(5:Nat)].bytes.ble 1024) (.br (qg (Q129o Fy (List.replicate ((8:Int)*(ny:Int)).toNat (0:Int)) R py ny ((8:Int)*(ny:Int)).toNat (ny:Int) (0:Int)/\py=py/\ny=ny)) (.br (!decide ((8:Int)=0)&&(ib ((if m<n then m else n).tdiv (8:Int)))) (.br (ib ((if m<n then m else n).tdiv (8:Int)+1)) (.br (decide ((if m<n then m else n).tdiv (8:Int)+1=(if m<n then m else n).tdiv (8:Int)+1)&&decide (0<=(if m<n then m else n).tdiv (8:Int)+1)&&decide ((if m<n then m else n).tdiv (8:Int)+1<=4294967296)&&prog.types[(5:Nat)].bytes.ble 1024) (.br (!decide ((8:Int)=0)) (.br (decide (0<=(if m<n then m else n).tmod (8:Int))) (.br (ix ((0:Int)) ((↑((if m<n then m else n).tdiv (8:Int)+1).toNat:Int))) (.br ((0+Int.toNat 0+1).ble (List.replicate ((if m<n then m else n).tdiv (8:Int)+1).toNat (0:Int)).length) (.br (((0:Nat)+((8:Int)*(ny:Int)).toNat).ble R.length) (.br ((0+((if m<n then m else n).tdiv (8:Int)+1).toNat).ble ((List.replicate ((if m<n then m else n).tdiv (8:Int)+1).toNat (0:Int)).set (0+Int.toNat 0) (IntKind.u8.wrap ((1:Int)*2^min ((if m<n then m else n).tmod (8:Int)).toNat IntKind.u8.bits))).length) (.br (qg (bz (ByteArray.mk (List.map (fun(n:Int)=>UInt8.ofNat n.toNat) (List.take ((8:Int)*(ny:Int)).toNat (List.drop 0 R))).toArray)=true/\bz (ByteArray.mk (List.map (fun(n:Int)=>UInt8.ofNat n.toNat) (List.take ((if m<n then m else n).tdiv (8:Int)+1).toNat (List.drop 0 ((List.replicate ((if m<n then m else n).tdiv (8:Int)+1).toNat (0:Int)).set (0+Int.toNat 0) (IntKind.u8.wrap ((1:Int)*2^min ((if m<n then m else n).tmod (8:Int)).toNat IntKind.u8.bits)))))).toArray)=true/\r=nb (bv (List.map (fun(n:Int)=>UInt8.ofNat n.toNat) (List.take ((8:Int)*(ny:Int)).toNat (List.drop 0 R))).toArray.toList*bv (List.map (fun(n:Int)=>UInt8.ofNat n.toNat) (List.take ((if m<n then m else n).tdiv (8:Int)+1).toNat (List.drop 0 ((List.replicate ((if m<n then m else n).tdiv (8:Int)+1).toNat (0:Int)).set (0+Int.toNat 0) (IntKind.u8.wrap ((1:Int)*2^min ((if m<n then m else n).tmod (8:Int)).toNat IntKind.u8.bits)))))).toArray.toList))) (.ok (.ret (.s r) [])) (.no 1)) (.no 26003)) (.no 26005)) (.no 25001)) (.no 25002)) (.no 25003)) (.no 25004)) (.no 24002)) (.no 24003)) (.no 24004)) (.no 1)) (.no 13002)) (.no 13003))) (.br (ib ((8:Int)*(ny:Int))) (.br (decide ((8:Int)*(ny:Int)=8*(ny:Int))&&decide ((0:Int)<=8*(ny:Int))&&decide ((8:Int)*(ny:Int)<=4294967296)&&prog.types[(5:Nat)].bytes.ble 1024) (.br (qg (Q129o Fy (List.replicate ((8:Int)*(ny:Int)).toNat (0:Int)) R py ny ((8:Int)*(ny:Int)).toNat (ny:Int) (0:Int)/\py=py/\ny=ny)) (.br (!decide ((8:Int)=0)&&(ib ((if m<n then m else n).tdiv (8:Int)))) (.br (ib ((if m<n then m else n).tdiv (8:Int)+1)) (.br (decide ((if m<n then m else n).tdiv (8:Int)+1=(if m<n then m else n).tdiv (8:Int)+1)&&decide (0<=(if m<n then m else n).tdiv (8:Int)+1)&&decide ((if m<n then m else n).tdiv (8:Int)+1<=4294967296)&&prog.types[(5:Nat)].bytes.ble 1024) (.br (!decide ((8:Int)=0)) (.br (decide (0<=(if m<n then m else n).tmod (8:Int))) (.br (ix ((0:Int)) ((↑((if m<n then m else n).tdiv (8:Int)+1).toNat:Int))) (.br ((0+Int.toNat 0+1).ble (List.replicate ((if m<n then m else n).tdiv (8:Int)+1).toNat (0:Int)).length) (.br (((0:Nat)+((8:Int)*(ny:Int)).toNat).ble R.length) (.br ((0+((if m<n then m else n).tdiv (8:Int)+1).toNat).ble ((List.replicate ((if m<n then m else n).tdiv (8:Int)+1).toNat (0:Int)).set (0+Int.toNat 0) (IntKind.u8.wrap ((1:Int)*2^min ((if m<n then m else n).tmod (8:Int)).toNat IntKind.u8.bits))).length) (.br (qg (bz (ByteArray.mk (List.map (fun(n:Int)=>UInt8.ofNat n.toNat) (List.take ((8:Int)*(ny:Int)).toNat (List.drop 0 R))).toArray)=true/\bz (ByteArray.mk (List.map (fun(n:Int)=>UInt8.ofNat n.toNat) (List.take ((if m<n then m else n).tdiv (8:Int)+1).toNat (List.drop 0 ((List.replicate ((if m<n then m else n).tdiv (8:Int)+1).toNat (0:Int)).set (0+Int.toNat 0) (IntKind.u8.wrap ((1:Int)*2^min ((if m<n then m else n).tmod (8:Int)).toNat IntKind.u8.bits)))))).toArray)=true/\r=nb (bv (List.map (fun(n:Int)=>UInt8.ofNat n.toNat) (List.take ((8:Int)*(ny:Int)).toNat (List.drop 0 R))).toArray.toList*bv (List.map (fun(n:Int)=>UInt8.ofNat n.toNat) (List.take ((if m<n then m else n).tdiv (8:Int)+1).toNat (List.drop 0 ((List.replicate ((if m<n then m else n).tdiv (8:Int)+1).toNat (0:Int)).set (0+Int.toNat 0) (IntKind.u8.wrap ((1:Int)*2^min ((if m<n then m else n).tmod (8:Int)).toNat IntKind.u8.bits)))))).toArray.toList))) (.ok (.ret (.s r) [])) (.no 1)) (.no 26003)) (.no 26005)) (.no 25001)) (.no 25002)) (.no 25003)) (.no 25004)) (.no 24002)) (.no 24003)) (.no 24004)) (.no 1)) (.no 13002)) (.no 13003))) (.no 1)) (.no 1)) (.no 1)) (.no 1)) (.no 3003)) (.no 1)) (.no 3005)) (.no 1)) (.no 1):=by kernel_rfl
theorem right_ok {L:List Int} {o l A:Nat} (hE:isE L) (ho:o+l<=L.length) (hs:L.length<=16000) (hv:qO o l L=A) (h0:A≠0):
  D138 L o l ((ev2 A:Nat):Int)/\Nm (rR L o l ((ev2 A:Nat):Int)) (rO o ((ev2 A:Nat):Int)) (rN L o l ((ev2 A:Nat):Int)) (A/2^ev2 A)/\A/2^ev2 A%2=1:=by
 have hlt:A<18446744073709551616^l:=by rw[<-hv];exact segE_lt hE o l
 obtain⟨v1,v2,v3⟩:=ev2_lt h0 hlt
 have hVlt:A/2^ev2 A<18446744073709551616^(l-ev2 A/64):=by
  rw[Nat.div_lt_iff_lt_mul (Nat.pow_pos (by omega))]
  have e64:18446744073709551616^(ev2 A/64)<=2^ev2 A:=by
   have:18446744073709551616^(ev2 A/64)=2^(64*(ev2 A/64)):=by rw[Nat.pow_mul]
   rw[this]
   exact Nat.pow_le_pow_right (by omega) (by omega)
  have h3:=Nat.mul_le_mul_left (18446744073709551616^(l-ev2 A/64)) e64
  rw[<-Nat.pow_add,show l-ev2 A/64+ev2 A/64=l by omega]at h3
  omega
 have ho2:o+ev2 A/64+(l-ev2 A/64)<=L.length:=by omega
 have hR2E:isE (stE (o+ev2 A/64) (l-ev2 A/64) L (A/2^ev2 A)):=isE_stE hE
 have hR2l:=stE_len (v:=A/2^ev2 A) ho2
 have hR2s:=segE_stE (v:=A/2^ev2 A) ho2 hVlt
 obtain⟨f1,f2⟩:=segE_dg hR2E (o:=o+ev2 A/64) (n:=l-ev2 A/64) (by rw[hR2l];exact ho2)
 rw[hR2s]at f1 f2
 refine⟨⟨by omega,by omega,hE,ho,by omega,by omega⟩,?_,v3⟩
 unfold rR rO rN
 rw[qh,qh,qh,Int.toNat_natCast,hv]
 exact⟨hR2E,by rw[hR2l];omega,by rw[hR2l];exact hs,f2,rfl⟩
theorem gcd_halves {A B:Nat} (hA:A≠0) (hB:B≠0):Nat.gcd (A/2^ev2 A) (B/2^ev2 B)*2^(min (ev2 A) (ev2 B))=Nat.gcd A B:=by
 obtain⟨m,hm⟩:=ev2_spec hA
 obtain⟨k,hk⟩:=ev2_spec hB
 have pa:0<2^ev2 A:=Nat.pow_pos (by omega)
 have pb:0<2^ev2 B:=Nat.pow_pos (by omega)
 have ea:A/2^ev2 A=2*m+1:=by
  generalize 2^ev2 A=p at*
  rw[hm,Nat.mul_div_cancel_left _ pa]
 have eb:B/2^ev2 B=2*k+1:=by
  generalize 2^ev2 B=p at*
  rw[hk,Nat.mul_div_cancel_left _ pb]
 rw[ea,eb]
 generalize ev2 A=x at*
 generalize ev2 B=y at*
 have odd:∀ (e q r:Nat),r%2=1->Nat.gcd (2^e*q) r=Nat.gcd q r:=by
  intro e q r hr
  have:=gcd_odd_part (D:=2^e*q) (B:=r) (e:=e) hr ⟨q,rfl⟩
  rw[Nat.mul_div_cancel_left _ (Nat.pow_pos (by omega))]at this
  exact this.symm
 rw[hm,hk]
 rcases Nat.le_total x y with h|h
 ·obtain⟨d,rfl⟩:∃ d,y=x+d:=⟨y-x,by omega⟩
  rw[Nat.min_eq_left h,Nat.pow_add,Nat.mul_assoc (2^x),Nat.gcd_mul_left,Nat.gcd_comm (2*m+1) (2^d*_),odd d (2*k+1) (2*m+1) (by omega),Nat.gcd_comm,Nat.mul_comm]
 ·obtain⟨d,rfl⟩:∃ d,x=y+d:=⟨x-y,by omega⟩
  rw[Nat.min_eq_right h,Nat.pow_add,Nat.mul_assoc (2^y),Nat.gcd_mul_left,odd d (2*m+1) (2*k+1) (by omega),Nat.mul_comm]
def hz (a:ByteArray):Bool:=decide (a.size<=100000)
theorem hz_iff {a:ByteArray}:hz a=true↔a.size<=100000:=by simp[hz]
theorem lb_eq (a:ByteArray):lb a=pd 18446744073709551616 ((a.size+7)/8) (bv a.data.toList):=qh _
theorem lb_len (a:ByteArray):(lb a).length=(a.size+7)/8:=by rw[lb_eq,qn]
theorem lb_val (a:ByteArray):lv 18446744073709551616 (lb a)=bv a.data.toList:=by
 rw[lb_eq,lv_pd (by omega)]
 have h:=bv_lt a.data.toList
 rw[ba_len]at h
 have:(18446744073709551616:Nat)^((a.size+7)/8)=256^(8*((a.size+7)/8)):=by rw[Nat.pow_mul]
 rw[this]
 exact Nat.lt_of_lt_of_le h (Nat.pow_le_pow_right (by omega) (by omega))
theorem isE_lb (a:ByteArray):isE (lb a):=by rw[lb_eq];exact isE_pd _ _
theorem bv_power (e:Nat):bv ((((List.replicate (e/8+1) (0:Int)).set 0 ((2^(e%8):Nat):Int))).map fun n=>UInt8.ofNat n.toNat)=2^e:=by
 have hp:2^(e%8)<=128:=by
  have:2^(e%8)<=2^7:=Nat.pow_le_pow_right (by omega) (by omega)
  omega
 rw[List.replicate_succ,List.set_cons_zero,List.map_cons,bv_cons,List.map_replicate]
 have hz:bv (List.replicate (e/8) (UInt8.ofNat (Int.toNat 0)))=0:=bv_eq_zero.2 fun b hb=>by
  rw[(List.mem_replicate.1 hb).2];rfl
 rw[hz,Int.toNat_natCast,ofNat_toNat _ (by omega),List.length_replicate,Nat.add_zero]
 have:256^(e/8)=2^(8*(e/8)):=by rw[Nat.pow_mul]
 rw[this,<-Nat.pow_add,show e%8+8*(e/8)=e by omega]
theorem u8_ty:prog.types[(5:Nat)].bytes.ble (1024:Nat)=true:=by kernel_rfl
def g129:Spec:=fun args hs K=>match args,hs with
 | [.s a,.s b],[]=>.br (hz a&&hz b&&decide (bv a.data.toList≠0)&&decide (bv b.data.toList≠0)) (K (.s (nb (Nat.gcd (bv a.data.toList) (bv b.data.toList)))) []) (.no 1)
 | _,_=>.no 1
theorem loops129:qi (qd f149)=[b129,b129o,b129i]:=by kernel_rfl
include hG in
theorem orcP129 (hT:qp G) (r:ByteArray):OrcOK prog G (P129 r):=.cons (vk77 hG r) (.cons (ok128 hG) (.cons (gk136 hG) (.cons (gk137 hG hT) (.cons (hk138 hG) (.cons (gk139 hG true) (.cons (gk140 hG [] 0) .nil))))))
theorem Nm.one {L:List Int} {o V:Nat} (h:Nm L o 1 V):L.getD o 0=(V:Int):=by
 have ho:=h.ho
 have h2:=h.val
 unfold qO at h2
 have h3:(L.drop o).take 1=[L.getD o 0]:=by
  rw[List.drop_eq_getElem_cons (by omega),List.take_succ_cons,List.take_zero,List.getD_eq_getElem?_getD,List.getElem?_eq_getElem (by omega)]
  rfl
 rw[h3]at h2
 have h4:=h.isE (L.getD o 0) (by rw[List.getD_eq_getElem?_getD,List.getElem?_eq_getElem (by omega)];exact List.getElem_mem _)
 simp only[lv]at h2
 omega
theorem Nm.set1 {L:List Int} {o V V':Nat} (h:Nm L o 1 V) (h0:V'≠0) (h1:V'<18446744073709551616):Nm (L.set o (V':Int)) o 1 V':=by
 have ho:=h.ho
 refine⟨fun x hx => ?_,by rw[List.length_set];exact ho,by rw[List.length_set];exact h.hs,?_,?_⟩
 ·rcases List.mem_or_eq_of_mem_set hx with h2|h2
  ·exact h.isE x h2
  ·subst h2;omega
 ·unfold qO
  have h3:((L.set o (V':Int)).drop o).take 1=[(V':Int)]:=by
   rw[List.drop_eq_getElem_cons (by rw[List.length_set];omega),List.take_succ_cons,List.take_zero,List.getElem_set_self]
  rw[h3]
  simp only[lv]
  omega
 ·have a1:=dg_length_le (B:=18446744073709551616) (k:=1) (n:=V') (by omega) (by rw[Nat.pow_one];exact h1)
  rcases Nat.eq_zero_or_pos (dg 18446744073709551616 V').length with h2|h2
  ·have:=dg_lt (B:=18446744073709551616) (by omega) V'
   rw[h2,Nat.pow_zero]at this;omega
  ·omega
include hG in
theorem lps129f (R:List Int) {st fin:LS} (g1:Goes (Rnd prog G f149.ntmps 0 [5,6,7,8] b129) st (.exit 0) fin):LpsOK prog G pol129 f149.ntmps 0 [(4,qy st (.exit 0) fin),(14,l129o R),(17,lnoE)] (qd f149):=by
 refine LpsOK.of loops129 fun a ha live sp h1 h2 => ?_
 simp only[List.mem_cons,List.not_mem_nil,or_false]at ha
 rcases ha with rfl|rfl|rfl
 ·have e1:assoc (qr b129) pol129.live=some [5,6,7,8]:=by kernel_rfl
  rw[e1]at h1;cases h1
  have e2:Lps.look (qr b129) [(4,qy st (.exit 0) fin),(14,l129o R),(17,lnoE)]=some (qy st (.exit 0) fin):=by kernel_rfl
  rw[e2]at h2;cases h2
  exact qv g1
 ·have e1:assoc (qr b129o) pol129.live=some [6,7,8,9,72,73,74]:=by kernel_rfl
  rw[e1]at h1;cases h1
  have e2:Lps.look (qr b129o) [(4,qy st (.exit 0) fin),(14,l129o R),(17,lnoE)]=some (l129o R):=by kernel_rfl
  rw[e2]at h2;cases h2
  exact loop129o hG R
 ·have e2:Lps.look (qr b129i) [(4,qy st (.exit 0) fin),(14,l129o R),(17,lnoE)]=some lnoE:=by kernel_rfl
  rw[e2]at h2;cases h2
  exact lnoE_ok
include hG in
theorem gk129 (hT:qp G):qc prog G 149 g129:=by
 intro args hs K x h
 unfold g129 at h
 split at h
 case h_2=>cases h
 rename_i a b
 obtain⟨hc,hr⟩:=k8 h
 simp only[kD,hz_iff,kE]at hc
 obtain⟨⟨⟨ha,hb⟩,hA⟩,hB⟩:=hc
 have la:=lb_len a
 have lbb:=lb_len b
 have va:=lb_val a
 have vb:=lb_val b
 have ea:=isE_lb a
 have eb:=isE_lb b
 have ta:List.take (lb a).length (List.drop 0 (lb a))=lb a:=by rw[List.drop_zero,List.take_length]
 have tb:List.take (lb b).length (List.drop 0 (lb b))=lb b:=by rw[List.drop_zero,List.take_length]
 have sa:qO 0 (lb a).length (lb a)=bv a.data.toList:=by unfold qO;rw[ta,va]
 have sb:qO 0 (lb b).length (lb b)=bv b.data.toList:=by unfold qO;rw[tb,vb]
 have na:evN (lb a)=ev2 (bv a.data.toList):=by unfold evN;rw[qh,va]
 have nbb:evN (lb b)=ev2 (bv b.data.toList):=by unfold evN;rw[qh,vb]
 obtain⟨r1,r2,r3⟩:=right_ok ea (o:=0) (l:=(lb a).length) (by omega) (by omega) sa hA
 obtain⟨w1,w2,w3⟩:=right_ok eb (o:=0) (l:=(lb b).length) (by omega) (by omega) sb hB
 have hev1:=(ev2_lt hA (n:=(lb a).length) (by rw[<-sa];exact segE_lt ea _ _)).1
 have hg:=gcd_halves hA hB
 have q1:Q137 (lb a):=⟨ea,by omega,by rw[va];exact hA⟩
 have q2:Q137 (lb b):=⟨eb,by omega,by rw[vb];exact hB⟩
 generalize bv a.data.toList=A at*
 generalize bv b.data.toList=B at*
 obtain⟨X',Y',Fx,px,nx,Fy,py,ny,g1,g2,g3,g4,g5,g6,g7⟩:=goes129 hG hT ((ev2 A:Nat):Int) ((ev2 B:Nat):Int) _ _ _ _ _ _ _ _ _ (Nat.le_refl _) r2 w2 r3 w3
 -- the last value, and its bytes
 have hmin:(if ((ev2 B:Nat):Int)<((ev2 A:Nat):Int)then ((ev2 B:Nat):Int)else ((ev2 A:Nat):Int))=((min (ev2 A) (ev2 B):Nat):Int):=by split<;>omega
 have hmlt:min (ev2 A) (ev2 B)<64*(lb a).length:=by omega
 generalize hmE:min (ev2 A) (ev2 B)=e at*
 have hgg:∀ V,V=Nat.gcd X' Y'->V*2^e=Nat.gcd A B:=by
  intro V hV
  rw[hV,<-g4];exact hg
 have tdv:((e:Nat):Int).tdiv 8=((e/8:Nat):Int):=tdiv_nat e 8
 have tmv:((e:Nat):Int).tmod 8=((e%8:Nat):Int):=tmod_nat e 8
 have c1:((((e/8:Nat):Int))+1).toNat=e/8+1:=by omega
 have c2:min (((e%8:Nat):Int)).toNat IntKind.u8.bits=e%8:=by simp only[IntKind.bits];omega
 have c3:IntKind.u8.wrap ((1:Int)*(2:Int)^(e%8))=((2^(e%8):Nat):Int):=by
  have hp:2^(e%8)<=128:=by
   have:2^(e%8)<=2^7:=Nat.pow_le_pow_right (by omega) (by omega)
   omega
  rw[IntKind.wrap_u8',Int.one_mul]
  have:((2:Int)^(e%8))=((2^(e%8):Nat):Int):=by simp
  have hpp:0<2^(e%8):=Nat.pow_pos (by omega)
  rw[this]
  generalize 2^(e%8)=z at*
  omega
 have c4:((8:Int)*(ny:Nat)).toNat=8*ny:=by omega
 have hny:=g3.ho
 have hnys:=g3.hs
 have hlv:∀ V,V<18446744073709551616^ny->V<256^(8*ny):=by
  intro V h
  have:(18446744073709551616:Nat)^ny=256^(8*ny):=by rw[Nat.pow_mul]
  omega
 have bl:∀ V,(byV ny V).length=8*ny:=by intro V;unfold byV;rw[List.length_reverse,qn]
 have sl:((List.replicate (e/8+1) (0:Int)).set 0 ((2^(e%8):Nat):Int)).length=e/8+1:=by rw[List.length_set,List.length_replicate]
 have bsz:∀ (l:List Int),l.length<=131072->bz (ByteArray.mk (l.map fun n=>UInt8.ofNat n.toNat).toArray)=true:=by
  intro l h
  rw[bz_iff]
  show(l.map fun n=>UInt8.ofNat n.toNat).length<=131072
  rw[List.length_map];exact h
 have last:∀ V,V<18446744073709551616^ny->V=Nat.gcd X' Y'->∀ (c:Bool),True:=fun _ _ _ _=>trivial
 refine⟨_,_,qj hG (orcP129 hG hT (nb (Nat.gcd A B))) mix enter129 (hs:=[]) (pol:=pol129) (L:=[(4,qy (t129 (rR (lb a) 0 (lb a).length ((ev2 A:Nat):Int)) (rO 0 ((ev2 A:Nat):Int)) (rN (lb a) 0 (lb a).length ((ev2 A:Nat):Int)) (rR (lb b) 0 (lb b).length ((ev2 B:Nat):Int)) (rO 0 ((ev2 B:Nat):Int)) (rN (lb b) 0 (lb b).length ((ev2 B:Nat):Int)) ((ev2 A:Nat):Int) ((ev2 B:Nat):Int)) (.exit 0) (t129 Fx px nx Fy py ny ((ev2 A:Nat):Int) ((ev2 B:Nat):Int))),(14,l129o (byV ny (Nat.gcd X' Y'))),(17,lnoE)])
  (lps129f hG _ g1) ?_,hr⟩
 rw[p129]
 simp only[List.take_length,na,nbb,hmin,tdv,tmv,c1,c2,c3,c4,u8_ty,Bool.and_true,List.drop_zero,Int.toNat_zero,Nat.zero_add,Nat.add_zero]
 rw[k5 (bz_iff.2 (by omega)),k5 (bz_iff.2 (by omega)),k5 (by rw[kH];omega),k5 (decP_iff.2 q1),k5 (by rw[kH];omega),k5 (decP_iff.2 q2),k5 (decP_iff.2 r1),k5 (decP_iff.2 w1),k5 qK]
 have tby:∀ V,List.take (8*ny) (byV ny V)=byV ny V:=fun V=>List.take_of_length_le (by rw[bl];exact Nat.le_refl _)
 have tpw:List.take (e/8+1) ((List.replicate (e/8+1) (0:Int)).set 0 ((2^(e%8):Nat):Int))=(List.replicate (e/8+1) (0:Int)).set 0 ((2^(e%8):Nat):Int):=List.take_of_length_le (by rw[sl];exact Nat.le_refl _)
 have lastC:Nat.gcd X' Y'<18446744073709551616^ny->nb (Nat.gcd A B)=nb (bv (List.map (fun n=>UInt8.ofNat n.toNat) (byV ny (Nat.gcd X' Y')))*bv ((((List.replicate (e/8+1) (0:Int)).set 0 ((2^(e%8):Nat):Int))).map fun n=>UInt8.ofNat n.toNat)):=by
  intro h
  rw[bv_power,byV,bv_pd _ _ (hlv _ h),hgg _ rfl]
 have tl1:∀ (F:List Int),Nm F py ny (Nat.gcd X' Y')->Q129o F (List.replicate (8*ny) 0) (byV ny (Nat.gcd X' Y')) py ny (8*ny) (ny:Nat) 0:=fun F h=>⟨_,h,rfl,rfl,rfl,rfl,rfl⟩
 rcases Nat.eq_zero_or_pos X' with hX|hX
 ·subst hX
  rw[Nat.gcd_zero_left]at*
  have hnx:nx=0:=by rw[g2.len,dg_zero];rfl
  subst hnx
  rw[k6 (by decide),k5 (by simp only[kD,kE];omega),k5 (by simp only[decide_true,Bool.true_and,kD,kE];omega),k5 (decP_iff.2 ⟨tl1 _ g3,trivial,trivial⟩),
   k5 (by simp only[kD,kE,kK,kM];omega),k5 (by simp only[kD,kE];omega),k5 (by simp only[decide_true,Bool.true_and,kD,kE];omega),
   k5 (by decide),k5 (by rw[kE];omega),k5 (by simp only[kD,kE];omega),k5 (by rw[kH,List.length_replicate];omega),k5 (by rw[kH,bl];omega),k5 (by rw[kH,sl];omega),
   tby,tpw,k5 (decP_iff.2 ⟨bsz _ (by rw[bl];omega),bsz _ (by rw[sl];omega),lastC g3.lt⟩),k7]
 ·have h1:=g7.resolve_left (by omega)
  obtain⟨rfl,rfl⟩:=h1
  have hY:0<Y':=by omega
  have hgp:0<Nat.gcd X' Y':=Nat.gcd_pos_of_pos_left _ hX
  have hgl:Nat.gcd X' Y'<18446744073709551616:=by
   have:=Nat.le_of_dvd hX (Nat.gcd_dvd_left X' Y')
   have:=g2.lt
   rw[Nat.pow_one]at this
   omega
  have hxo:=g2.ho
  have n3:=g3.set1 (V':=Nat.gcd X' Y') (by omega) hgl
  simp only[g2.one,g3.one,Int.toNat_natCast]
  rw[k5 (by decide),k5 (by decide),k5 (by decide),k5 (by rw[kH];omega),k5 (by decide),k5 (by rw[kH];omega),k5 (by simp only[kD,kE];omega),k5 (by decide),k5 (by rw[kH];omega),
   k5 (by simp only[kD,kE];omega),k5 (by simp only[decide_true,Bool.true_and,kD,kE];omega),k5 (decP_iff.2 ⟨tl1 _ n3,trivial,trivial⟩),
   k5 (by simp only[kD,kE,kK,kM];omega),k5 (by simp only[kD,kE];omega),k5 (by simp only[decide_true,Bool.true_and,kD,kE];omega),
   k5 (by decide),k5 (by rw[kE];omega),k5 (by simp only[kD,kE];omega),k5 (by rw[kH,List.length_replicate];omega),k5 (by rw[kH,bl];omega),k5 (by rw[kH,sl];omega),
   tby,tpw,k5 (decP_iff.2 ⟨bsz _ (by rw[bl];omega),bsz _ (by rw[sl];omega),lastC (by rw[Nat.pow_one];exact hgl)⟩),k7]
def quB (a b:ByteArray):ByteArray:=hide (nb (bv a.data.toList/bv b.data.toList))
def rmB (a b:ByteArray):ByteArray:=hide (nb (bv a.data.toList%bv b.data.toList))
def gdB (a b:ByteArray):ByteArray:=hide (nb (Nat.gcd (bv a.data.toList) (bv b.data.toList)))
def h113:Spec:=fun args hs K=>match args,hs with
 | [.s a,.s b],[]=>.br (bz a&&bz b&&decide (0<val b)) (K (.tup [.s (quB a b),.s (rmB a b),.i .i64 0]) []) (.no 1)
 | _,_=>.no 1
def h129:Spec:=fun args hs K=>match args,hs with
 | [.s a,.s b],[]=>.br (hz a&&hz b&&decide (val a≠0)&&decide (val b≠0)) (K (.s (gdB a b)) []) (.no 1)
 | _,_=>.no 1
include hG in
theorem hk113:qc prog G 114 h113:=by
 intro args hs K x h
 unfold h113 at h
 split at h
 case h_2=>cases h
 rw[val_eq,quB,rmB,qh,qh]at h
 exact gk113 hG _ _ K x h
include hG in
theorem hk129 (hT:qp G):qc prog G 149 h129:=by
 intro args hs K x h
 unfold h129 at h
 split at h
 case h_2=>cases h
 rw[val_eq,val_eq,gdB,qh]at h
 exact gk129 hG hT _ _ K x h
def b112':Code:=(qi (qd f113)).getD 0 .skip
def G112:Orc:=[(114,h113),(106,h114),(108,s115),(109,h116),(148,s128),(149,h129)]
def t112 (a b r:ByteArray):LS:=⟨[.s a,.s b,.s r],[]⟩
theorem q112 (a b:ByteArray):qe prog G112 [] pol112 f113.ntmps 0 [0,1,4] b112' (t112 a b ⟨#[]⟩)=
 Tr.br (!decide (a=ByteArray.mk #[])) (.br (!decide (b=ByteArray.mk #[])) (.br (decide ((a.size:Int)<(b.size:Int))) (.br (decide ((b.size:Int)<=8)) (.br (b.size.ble 8) (.br (a.size.ble 8) (.br (decide (0<=(↑(val b):Int))&&decide (0<=(↑(val a):Int))) (.br (ix ((↑((↑(val b):Int).toNat.gcd (↑(val a):Int).toNat):Int)) ((18446744073709551616:Int))) (.ok (.out .ret (LS.mk [.s b,.s a,.s (nb (↑((↑(val b):Int).toNat.gcd (↑(val a):Int).toNat):Int).toNat)] []))) (.no 1)) (.no 1)) (.no 1)) (.no 1)) (.br (ib ((a.size:Int)+8)) (.br (decide ((b.size:Int)<=(a.size:Int)+8)) (.br (hz b&&hz a&&decide (val b≠(0:Nat))&&decide (val a≠(0:Nat))) (.ok (.out .ret (LS.mk [.s b,.s a,.s (gdB b a)] []))) (.no 1)) (.br (bz b&&bz a&&decide ((0:Nat)<val a)) (.ok (.out .normal (LS.mk [.s a,.s (rmB b a),.s (ByteArray.mk #[])] []))) (.no 1))) (.no 8003))) (.br (decide ((a.size:Int)<=8)) (.br (a.size.ble 8) (.br (b.size.ble 8) (.br (decide (0<=(↑(val a):Int))&&decide (0<=(↑(val b):Int))) (.br (ix ((↑((↑(val a):Int).toNat.gcd (↑(val b):Int).toNat):Int)) ((18446744073709551616:Int))) (.ok (.out .ret (LS.mk [.s a,.s b,.s (nb (↑((↑(val a):Int).toNat.gcd (↑(val b):Int).toNat):Int).toNat)] []))) (.no 1)) (.no 1)) (.no 1)) (.no 1)) (.br (ib ((b.size:Int)+8)) (.br (decide ((a.size:Int)<=(b.size:Int)+8)) (.br (hz a&&hz b&&decide (val a≠(0:Nat))&&decide (val b≠(0:Nat))) (.ok (.out .ret (LS.mk [.s a,.s b,.s (gdB a b)] []))) (.no 1)) (.br (bz a&&bz b&&decide ((0:Nat)<val b)) (.ok (.out .normal (LS.mk [.s b,.s (rmB a b),.s (ByteArray.mk #[])] []))) (.no 1))) (.no 8003)))) (.ok (.out (.exit 0) (LS.mk [.s a,.s b,.s (ByteArray.mk #[])] [])))) (.ok (.out (.exit 0) (LS.mk [.s a,.s b,.s (ByteArray.mk #[])] []))):=by kernel_rfl
theorem p112 (a b a2 b2:ByteArray):evF prog G112 [(2,qy (t112 (tr a) (tr b) ⟨#[]⟩) (.exit 0) (t112 a2 b2 ⟨#[]⟩))] pol112 f113 [.s a,.s b] [] ql=
 Tr.br (qg (isLS (LS.mk [.s (tr a),.s (tr b),.s (ByteArray.mk #[])] []) (LS.mk [.s (tr a),.s (tr b),.s (ByteArray.mk #[])] []))) (.br ((a2.size+b2.size).ble 1099511627776) (.ok (.ret (.s (a2++b2)) [])) (.no 12002)) (.no 1):=by kernel_rfl
theorem p112r (a b a2 b2 r:ByteArray):evF prog G112 [(2,qy (t112 (tr a) (tr b) ⟨#[]⟩) .ret (t112 a2 b2 r))] pol112 f113 [.s a,.s b] [] ql=
 Tr.br (qg (isLS (LS.mk [.s (tr a),.s (tr b),.s (ByteArray.mk #[])] []) (LS.mk [.s (tr a),.s (tr b),.s (ByteArray.mk #[])] []))) (.ok (.ret (.s r) [])) (.no 1):=by kernel_rfl
include hG in
theorem orcG112 (hT:qp G):OrcOK prog G G112:=.cons (hk113 hG) (.cons (hk114 hG) (.cons (ok115 hG) (.cons (hk116 hG) (.cons (ok128 hG) (.cons (hk129 hG hT) .nil)))))
theorem val_nb (n:Nat):val (nb n)=n:=by rw[val_eq,qE]
theorem rmB_nb (n m:Nat):rmB (nb n) (nb m)=nb (n%m):=by rw[rmB,qh,qE,qE]
theorem gdB_nb (n m:Nat):gdB (nb n) (nb m)=nb (Nat.gcd n m):=by rw[gdB,qh,qE,qE]
theorem nb_size_mono {n m:Nat} (h:n<=m):(nb n).size<=(nb m).size:=by
 have h1:m<256^(nb m).size:=by
  have:=nbl_lt m
  rwa[<-nb_size]at this
 exact nb_size_le (Nat.lt_of_le_of_lt h h1)
theorem nb_size_lt {n m:Nat} (h:(nb n).size<(nb m).size):n<m:=by
 rcases Nat.lt_or_ge n m with h1|h1
 ·exact h1
 ·have:=nb_size_mono h1
  omega
include hG in
theorem goes112 (hT:qp G):∀ (f X Y:Nat),X+Y<=f->(nb X).size<=100000->(nb Y).size<=100000->
  (∃ X' Y',Goes (Rnd prog G f113.ntmps 0 [0,1,4] b112') (t112 (nb X) (nb Y) ⟨#[]⟩) (.exit 0) (t112 (nb X') (nb Y') ⟨#[]⟩)/\Nat.gcd X Y=Nat.gcd X' Y'/\(X'=0\/Y'=0)/\(nb X').size<=100000/\(nb Y').size<=100000)\/
  ∃ X' Y',Goes (Rnd prog G f113.ntmps 0 [0,1,4] b112') (t112 (nb X) (nb Y) ⟨#[]⟩) .ret (t112 (nb X') (nb Y') (nb (Nat.gcd X Y))):=by
 intro f
 induction f with
 | zero=>
  intro X Y h hx hy
  obtain rfl:X=0:=by omega
  obtain rfl:Y=0:=by omega
  refine .inl ⟨0,0,.last _ _ _ (qb hG (orcG112 hG hT) mix (L:=[]) (pol:=pol112) (O:=G112) (kA (by kernel_rfl)) (Nat.zero_le _) ?_) (by simp),rfl,.inl rfl,hx,hy⟩
  rw[q112,k6 (by rw[nb_zero];decide),k7]
  rfl
 | succ f ih=>
  intro X Y h hx hy
  by_cases hX:X=0
  ·refine .inl ⟨X,Y,.last _ _ _ (qb hG (orcG112 hG hT) mix (L:=[]) (pol:=pol112) (O:=G112) (kA (by kernel_rfl)) (Nat.zero_le _) ?_) (by simp),rfl,.inl hX,hx,hy⟩
   rw[q112,k6 (by rw[hX,nb_zero];simp),k7]
   rfl
  have tX:(!decide (nb X=ByteArray.mk #[]))=true:=by rw[kK,kM,nb_eq_empty];exact hX
  by_cases hY:Y=0
  ·refine .inl ⟨X,Y,.last _ _ _ (qb hG (orcG112 hG hT) mix (L:=[]) (pol:=pol112) (O:=G112) (kA (by kernel_rfl)) (Nat.zero_le _) ?_) (by simp),rfl,.inr hY,hx,hy⟩
   rw[q112,k5 tX,k6 (by rw[hY,nb_zero];simp),k7]
   rfl
  have tY:(!decide (nb Y=ByteArray.mk #[]))=true:=by rw[kK,kM,nb_eq_empty];exact hY
  have hgx:Nat.gcd X Y<=X:=Nat.le_of_dvd (by omega) (Nat.gcd_dvd_left X Y)
  have e8:∀ n,(nb n).size<=8->n<18446744073709551616:=fun n h=>nb_lt (k:=8) h
  have hgc:=Nat.gcd_comm Y X
  by_cases hs:(nb X).size<(nb Y).size
  ·have hlt:=nb_size_lt hs
   by_cases h8:(nb Y).size<=8
   ·refine .inr ⟨Y,X,.last _ _ _ (qb hG (orcG112 hG hT) mix (L:=[]) (pol:=pol112) (O:=G112) (kA (by kernel_rfl)) (Nat.zero_le _) ?_) (by simp)⟩
    have:=e8 X (by omega)
    rw[q112,k5 tX,k5 tY]
    simp only[val_nb,Int.toNat_natCast,hgc]
    rw[k5 (kF (by omega)),k5 (kF (by omega)),k5 (by rw[kH];omega),k5 (by rw[kH];omega),k5 (by simp only[kD,kE];omega),k5 (by simp only[kD,kE];omega),k7]
    rfl
   by_cases hh:(nb Y).size<=(nb X).size+8
   ·refine .inr ⟨Y,X,.last _ _ _ (qb hG (orcG112 hG hT) mix (L:=[]) (pol:=pol112) (O:=G112) (kA (by kernel_rfl)) (Nat.zero_le _) ?_) (by simp)⟩
    rw[q112,k5 tX,k5 tY,k5 (kF (by omega)),k6 (kG (by omega)),k5 (by simp only[kD,kE];omega),k5 (kF (by omega)),
     k5 (by simp only[val_nb,kD,kE,hz_iff];omega),k7,gdB_nb,hgc]
    rfl
   have hm:Y%X<X:=Nat.mod_lt _ (by omega)
   have hg2:Nat.gcd X Y=Nat.gcd X (Y%X):=by rw[Nat.gcd_comm X (Y%X),<-Nat.gcd_rec]
   have hr:Rnd prog G f113.ntmps 0 [0,1,4] b112' (t112 (nb X) (nb Y) ⟨#[]⟩) .normal (t112 (nb X) (nb (Y%X)) ⟨#[]⟩):=by
    refine qb hG (orcG112 hG hT) mix (L:=[]) (pol:=pol112) (O:=G112) (kA (by kernel_rfl)) (Nat.zero_le _) ?_
    rw[q112,k5 tX,k5 tY,k5 (kF (by omega)),k6 (kG (by omega)),k5 (by simp only[kD,kE];omega),k6 (kG (by omega)),
     k5 (by simp only[val_nb,kD,kE,bz_iff];omega),k7,rmB_nb]
    rfl
   rw[hg2]
   rcases ih X (Y%X) (by omega) hx (Nat.le_trans (nb_size_mono (Nat.le_of_lt hm)) hx)with ⟨X',Y',g,q⟩|⟨X',Y',g⟩
   ·exact .inl ⟨X',Y',.more _ _ _ _ hr g,q⟩
   ·exact .inr ⟨X',Y',.more _ _ _ _ hr g⟩
  ·by_cases h8:(nb X).size<=8
   ·refine .inr ⟨X,Y,.last _ _ _ (qb hG (orcG112 hG hT) mix (L:=[]) (pol:=pol112) (O:=G112) (kA (by kernel_rfl)) (Nat.zero_le _) ?_) (by simp)⟩
    have:=e8 X (by omega)
    rw[q112,k5 tX,k5 tY]
    simp only[val_nb,Int.toNat_natCast]
    rw[k6 (kG (by omega)),k5 (kF (by omega)),k5 (by rw[kH];omega),k5 (by rw[kH];omega),k5 (by simp only[kD,kE];omega),k5 (by simp only[kD,kE];omega),k7]
    rfl
   by_cases hh:(nb X).size<=(nb Y).size+8
   ·refine .inr ⟨X,Y,.last _ _ _ (qb hG (orcG112 hG hT) mix (L:=[]) (pol:=pol112) (O:=G112) (kA (by kernel_rfl)) (Nat.zero_le _) ?_) (by simp)⟩
    rw[q112,k5 tX,k5 tY,k6 (kG (by omega)),k6 (kG (by omega)),k5 (by simp only[kD,kE];omega),k5 (kF (by omega)),
     k5 (by simp only[val_nb,kD,kE,hz_iff];omega),k7,gdB_nb]
    rfl
   have hlt:=nb_size_lt (n:=Y) (m:=X) (by omega)
   have hm:X%Y<Y:=Nat.mod_lt _ (by omega)
   have hg2:Nat.gcd X Y=Nat.gcd Y (X%Y):=by rw[Nat.gcd_comm Y (X%Y),<-Nat.gcd_rec,Nat.gcd_comm]
   have hr:Rnd prog G f113.ntmps 0 [0,1,4] b112' (t112 (nb X) (nb Y) ⟨#[]⟩) .normal (t112 (nb Y) (nb (X%Y)) ⟨#[]⟩):=by
    refine qb hG (orcG112 hG hT) mix (L:=[]) (pol:=pol112) (O:=G112) (kA (by kernel_rfl)) (Nat.zero_le _) ?_
    rw[q112,k5 tX,k5 tY,k6 (kG (by omega)),k6 (kG (by omega)),k5 (by simp only[kD,kE];omega),k6 (kG (by omega)),
     k5 (by simp only[val_nb,kD,kE,bz_iff];omega),k7,rmB_nb]
    rfl
   rw[hg2]
   rcases ih Y (X%Y) (by omega) hy (Nat.le_trans (nb_size_mono (Nat.le_of_lt hm)) hy)with ⟨X',Y',g,q⟩|⟨X',Y',g⟩
   ·exact .inl ⟨X',Y',.more _ _ _ _ hr g,q⟩
   ·exact .inr ⟨X',Y',.more _ _ _ _ hr g⟩
def h112:Spec:=fun args hs K=>match args,hs with
 | [.s a,.s b],[]=>.br (hz a&&hz b) (K (.s (gdB a b)) []) (.no 1)
 | _,_=>.no 1
include hG in
theorem hk112 (hT:qp G):qc prog G 113 h112:=by
 intro args hs K x h
 unfold h112 at h
 split at h
 case h_2=>cases h
 rename_i a b
 obtain⟨hc,hr⟩:=k8 h
 simp only[kD,hz_iff]at hc
 have sa:=tr_size a
 have sb:=tr_size b
 rw[tr_eq]at sa sb
 rcases goes112 hG hT _ _ _ (Nat.le_refl _) (show(nb (bv a.data.toList)).size<=100000 by omega) (show(nb (bv b.data.toList)).size<=100000 by omega)with ⟨X,Y,g,q1,q2,q3,q4⟩|⟨X,Y,g⟩
 ·rw[<-tr_eq,<-tr_eq]at g
  refine⟨_,_,qj hG (orcG112 hG hT) mix enter112 (hs:=[]) (pol:=pol112) (L:=[(2,qy (t112 (tr a) (tr b) ⟨#[]⟩) (.exit 0) (t112 (nb X) (nb Y) ⟨#[]⟩))]) (qN (b:=b112') (live:=[0,1,4]) (m:=0) (by kernel_rfl) (by kernel_rfl) (by kernel_rfl) (qv g)) ?_,hr⟩
  rw[p112,k5 qK,k5 (by rw[kH];omega),k7,gdB,qh,q1]
  rcases q2 with rfl|rfl
  ·rw[Nat.gcd_zero_left,nb_zero,ba_empty_left]
  ·rw[Nat.gcd_zero_right,nb_zero,ba_empty_right]
 ·rw[<-tr_eq,<-tr_eq]at g
  refine⟨_,_,qj hG (orcG112 hG hT) mix enter112 (hs:=[]) (pol:=pol112) (L:=[(2,qy (t112 (tr a) (tr b) ⟨#[]⟩) .ret (t112 (nb X) (nb Y) (nb (Nat.gcd (bv a.data.toList) (bv b.data.toList)))))]) (qN (b:=b112') (live:=[0,1,4]) (m:=0) (by kernel_rfl) (by kernel_rfl) (by kernel_rfl) (qv g)) ?_,hr⟩
  rw[p112r,k5 qK,k7,gdB,qh]
theorem enter110:Enters prog 105 f105 (qd f105):=⟨func105,by kernel_rfl,rfl⟩
def s110:Spec:=evF prog [] [] {} f105
include hG in
theorem ok110:qc prog G 105 s110:=spec_ev hG .nil mix enter110 (fun _=>kA (by kernel_rfl))
theorem enter109:Enters prog 104 f104 (qd f104):=⟨func104,by kernel_rfl,rfl⟩
abbrev ze1091 (x:Rat):Tr:=Tr.br (decide (qu x=ByteArray.mk #[(1:UInt8)])) (.ok (.ret (.bl true) [])) (.br (decide (bv (qa x.num.natAbs x.num.natAbs []).toArray.toList<(18446744073709551616:Nat))&&decide (bv (qa x.den x.den []).toArray.toList<(18446744073709551616:Nat))) (.ok (.ret (.b (decide (nb ((bv (qa x.num.natAbs x.num.natAbs []).toArray.toList).gcd (bv (qa x.den x.den []).toArray.toList))=ByteArray.mk #[(1:UInt8)]))) [])) (.no 1))
abbrev ze1092 (x:Rat):Tr:=Tr.br (!decide (qt x=ByteArray.mk #[])) (.br (ix ((0:Int)) ((↑(qt x).size:Int))) (.br (decide ((↑((qa x.num.natAbs x.num.natAbs []).toArray.toList.getD (Int.toNat 0) (0:UInt8)).toNat:Int)=(0:Int))) (.ok (.ret (.bl false) [])) (ze1091 x)) (.no 2004)) (ze1091 x)
theorem e109 (x:Rat) (n:Nat):evF prog [(113,s112)] [] {} f104 [.q x n] [] ql=
 Tr.br (decide (qu x=ByteArray.mk #[])) (.ok (.ret (.bl false) [])) (.br (ix ((0:Int)) ((↑(qu x).size:Int))) (.br (decide ((↑((qa x.den x.den []).toArray.toList.getD (Int.toNat 0) (0:UInt8)).toNat:Int)=0)) (.ok (.ret (.bl false) [])) (.br (decide (qt x=ByteArray.mk #[])) (.br (qo x) (.ok (.ret (.bl false) [])) (.br (!decide (qu x=ByteArray.mk #[(1:UInt8)])) (.ok (.ret (.bl false) [])) (ze1092 x))) (ze1092 x))) (.no 2028)):=by kernel_rfl
theorem vle_b (x:Bool):VLe (.b x) (.bl x):=by
 refine⟨rfl,fun w S μ=>⟨fun cs h=>by cases h;exact .bl _ _,fun v h => ?_⟩⟩
 cases h with
 | cell _ _ _ hv h=>exact .cell _ _ _ rfl (by cases h;exact .bl _ _)
 | agg _ _ cs hv h=>simp[isAgg]at hv
theorem rle_b {x y:Bool} (h:x=y):RLe (.b x) (.bl y):=by
 subst h;exact⟨fun _=>vle_b x,fun _=>.refl _⟩
def s109:Spec:=fun args hs K=>match args,hs with
 | [.q x _],[]=>.br (decide (x.num.natAbs<18446744073709551616)&&decide (x.den<18446744073709551616)) (K (.bl true) []) (.no 1)
 | _,_=>.no 1
theorem nb_head' {n:Nat} (h:n≠0):¬ (((qa n n []).toArray.toList.getD (Int.toNat (0:Int)) (0:UInt8)).toNat:Int)=0:=nb_head h
theorem rat_zero_den {x:Rat} (h:x.num.natAbs=0):x.den=1:=by
 have:=x.reduced
 rw[h]at this
 simpa using this
theorem qI (x:Rat):qt x=⟨#[]⟩↔x.num.natAbs=0:=nb_eq_empty
theorem rden_one (x:Rat):qu x=⟨#[1]⟩↔x.den=1:=nb_eq_one
theorem rden_empty (x:Rat):¬ qu x=⟨#[]⟩:=fun h=>x.den_nz (nb_eq_empty.1 h)
theorem rneg_zero {x:Rat} (h:x.num.natAbs=0):qo x=false:=kG (by omega)
include hG in
theorem ok109:qc prog G 104 s109:=by
 refine qq hG (.cons (ok112 hG) .nil) mix enter109 (L:=[]) (pol:={}) fun args hs K x h => ?_
 unfold s109 at h
 split at h
 case h_2=>cases h
 rename_i x n
 obtain⟨hc,hr⟩:=k8 h
 refine⟨kA (by kernel_rfl),?_⟩
 have hd:=x.den_nz
 have hg:=x.reduced
 unfold Nat.Coprime at hg
 have hcc:=hc
 simp only[kD,kE]at hcc
 have p1:=nb_size_pos hd
 rw[e109];try unfold ze1092;try unfold ze1091
 rw[k6 (kG (rden_empty x)),k5 (by rw[rden_eq];simp only[kD,kE];omega),k6 (kG (nb_head' hd))]
 simp only[bv_nb',bv_nb2]
 by_cases h0:x.num.natAbs=0
 ·rw[k5 (kF ((qI x).2 h0)),k6 (rneg_zero h0),k6 (by rw[kF ((rden_one x).2 (rat_zero_den h0))];rfl),
   k6 (by rw[kF ((qI x).2 h0)];rfl),k5 (kF ((rden_one x).2 (rat_zero_den h0)))]
  exact⟨_,_,_,rfl,.refl _,hr⟩
 ·have p2:=nb_size_pos h0
  rw[k6 (kG (fun h=>h0 ((qI x).1 h))),k5 (by rw[kG (fun h=>h0 ((qI x).1 h))];rfl),k5 (by rw[rnum_eq];simp only[kD,kE];omega),k6 (kG (nb_head' h0))]
  by_cases h1:x.den=1
  ·rw[k5 (kF ((rden_one x).2 h1))]
   exact⟨_,_,_,rfl,.refl _,hr⟩
  ·rw[k6 (kG (fun h=>h1 ((rden_one x).1 h))),k5 hc,k7,hg]
   exact⟨_,_,_,rfl,rle_b (kF nb_onev),hr⟩
theorem enter74:Enters prog 58 f58 (qd f58):=⟨func58,by kernel_rfl,rfl⟩
theorem e74 (x:Rat) (n:Nat):evF prog [(104,s109),(105,s110)] [] {} f58 [.q x n] [] ql=
 Tr.br (decide (x.num.natAbs<18446744073709551616)&&decide (x.den<18446744073709551616)) (.ok (.ret (.q x n) [])) (.no 1):=by kernel_rfl
def s74:Spec:=fun args hs K=>match args,hs with
 | [.q x n],[]=>.br (decide (x.num.natAbs<18446744073709551616)&&decide (x.den<18446744073709551616)) (K (.q x n) []) (.no 1)
 | _,_=>.no 1
include hG in
theorem ok74:qc prog G 58 s74:=by
 refine qq hG (.cons (ok109 hG) (.cons (ok110 hG) .nil)) mix enter74 (L:=[]) (pol:={}) fun args hs K x h => ?_
 unfold s74 at h
 split at h
 case h_2=>cases h
 rename_i x n
 obtain⟨hc,hr⟩:=k8 h
 refine⟨kA (by kernel_rfl),_,_,_,?_,.refl _,hr⟩
 rw[e74,k5 hc]
 rfl
theorem enter76:Enters prog 62 f62 (qd f62):=⟨func62,by kernel_rfl,rfl⟩
theorem e76 (neg:Bool) (a d:ByteArray):evF prog [(105,s110),(113,s112),(114,s113)] [] {} f62 [.b neg,.s a,.s d] [] ql=
 Tr.br (decide (a=ByteArray.mk #[])) (.ok (.ret (.agg [.bl false,.s (ByteArray.mk #[]),.s (ByteArray.mk #[(1:UInt8)])]) [])) (.br (!decide (d=ByteArray.mk #[(1:UInt8)])) (.br (decide (bv a.1.toList<18446744073709551616)&&decide (bv d.1.toList<18446744073709551616)) (.br (!decide (nb ((bv a.1.toList).gcd (bv d.1.toList))=ByteArray.mk #[(1:UInt8)])) (.br (decide (bv a.1.toList<18446744073709551616)&&decide (bv (qa ((bv a.1.toList).gcd (bv d.1.toList)) ((bv a.1.toList).gcd (bv d.1.toList)) []).toArray.toList<18446744073709551616)&&decide ((0:Nat)<bv (qa ((bv a.1.toList).gcd (bv d.1.toList)) ((bv a.1.toList).gcd (bv d.1.toList)) []).toArray.toList)) (.br (decide (bv d.1.toList<18446744073709551616)&&decide (bv (qa ((bv a.1.toList).gcd (bv d.1.toList)) ((bv a.1.toList).gcd (bv d.1.toList)) []).toArray.toList<18446744073709551616)&&decide ((0:Nat)<bv (qa ((bv a.1.toList).gcd (bv d.1.toList)) ((bv a.1.toList).gcd (bv d.1.toList)) []).toArray.toList)) (.ok (.ret (.agg [.b neg,.s (nb (bv a.1.toList/bv (qa ((bv a.1.toList).gcd (bv d.1.toList)) ((bv a.1.toList).gcd (bv d.1.toList)) []).toArray.toList)),.s (nb (bv d.1.toList/bv (qa ((bv a.1.toList).gcd (bv d.1.toList)) ((bv a.1.toList).gcd (bv d.1.toList)) []).toArray.toList))]) [])) (.no 1)) (.no 1)) (.ok (.ret (.agg [.b neg,.s a,.s d]) []))) (.no 1)) (.ok (.ret (.agg [.b neg,.s a,.s d]) []))):=by kernel_rfl
theorem e76l (neg:Bool) (a d:ByteArray):evF prog [(105,s110),(113,s112),(114,s113)] [] {} f62 [.bl neg,.s a,.s d] [] ql=
 Tr.br (decide (a=ByteArray.mk #[])) (.ok (.ret (.agg [.bl false,.s (ByteArray.mk #[]),.s (ByteArray.mk #[(1:UInt8)])]) [])) (.br (!decide (d=ByteArray.mk #[(1:UInt8)])) (.br (decide (bv a.1.toList<18446744073709551616)&&decide (bv d.1.toList<18446744073709551616)) (.br (!decide (nb ((bv a.1.toList).gcd (bv d.1.toList))=ByteArray.mk #[(1:UInt8)])) (.br (decide (bv a.1.toList<18446744073709551616)&&decide (bv (qa ((bv a.1.toList).gcd (bv d.1.toList)) ((bv a.1.toList).gcd (bv d.1.toList)) []).toArray.toList<18446744073709551616)&&decide ((0:Nat)<bv (qa ((bv a.1.toList).gcd (bv d.1.toList)) ((bv a.1.toList).gcd (bv d.1.toList)) []).toArray.toList)) (.br (decide (bv d.1.toList<18446744073709551616)&&decide (bv (qa ((bv a.1.toList).gcd (bv d.1.toList)) ((bv a.1.toList).gcd (bv d.1.toList)) []).toArray.toList<18446744073709551616)&&decide ((0:Nat)<bv (qa ((bv a.1.toList).gcd (bv d.1.toList)) ((bv a.1.toList).gcd (bv d.1.toList)) []).toArray.toList)) (.ok (.ret (.agg [.bl neg,.s (nb (bv a.1.toList/bv (qa ((bv a.1.toList).gcd (bv d.1.toList)) ((bv a.1.toList).gcd (bv d.1.toList)) []).toArray.toList)),.s (nb (bv d.1.toList/bv (qa ((bv a.1.toList).gcd (bv d.1.toList)) ((bv a.1.toList).gcd (bv d.1.toList)) []).toArray.toList))]) [])) (.no 1)) (.no 1)) (.ok (.ret (.agg [.bl neg,.s a,.s d]) []))) (.no 1)) (.ok (.ret (.agg [.bl neg,.s a,.s d]) []))):=by kernel_rfl
def s76:Spec:=fun args hs K=>match args,hs with
 | [nv,.s a,.s d],[]=>match bof nv with
  | some neg=>.br (decide (a=nb (bv a.data.toList))&&decide (d=nb (bv d.data.toList))&&decide (bv a.data.toList<18446744073709551616)&&decide (bv d.data.toList<18446744073709551616)&&decide (0<bv d.data.toList))
   (K (.q (mkz neg (bv a.data.toList) (bv d.data.toList)) 64) []) (.no 1)
  | none=>.no 1
 | _,_=>.no 1
theorem bof_cases {nv:PV} {neg:Bool} (h:bof nv=some neg):nv=.b neg\/nv=.bl neg:=by
 cases nv<;>simp[bof]at h<;>subst h<;>simp
theorem mkz_sz {neg:Bool} {n d:Nat} (hd:d≠0) (h1:n<18446744073709551616) (h2:d<18446744073709551616):sz (mkz neg n d)<=64:=by
 refine sz_le ?_ ?_ (by omega)
 ·rw[mkz_natAbs hd];exact Nat.lt_of_le_of_lt (Nat.div_le_self _ _) h1
 ·rw[mkz_den hd];exact Nat.lt_of_le_of_lt (Nat.div_le_self _ _) h2
theorem made_zero {nv:PV} {neg:Bool} (h:bof nv=some false) (d:Nat):RLe (.agg [nv,.s ⟨#[]⟩,.s ⟨#[1]⟩]) (.q (mkz neg 0 d) 64):=by
 rw[mkz_zero]
 exact rle_q (x:=0) h (by decide)
theorem made_some {nv:PV} {neg:Bool} (h:bof nv=some neg) {n d:Nat} (hn:n≠0) (hd:d≠0) (h1:n<18446744073709551616) (h2:d<18446744073709551616) {a b:ByteArray} (ha:a=nb (n/n.gcd d)) (hb:b=nb (d/n.gcd d)):
  RLe (.agg [nv,.s a,.s b]) (.q (mkz neg n d) 64):=by
 have e1:a=qt (mkz neg n d):=by rw[ha,rnum_eq,mkz_natAbs hd]
 have e2:b=qu (mkz neg n d):=by rw[hb,rden_eq,mkz_den hd]
 rw[e1,e2]
 exact rle_q (by rw[mkz_rneg hd hn];exact h) (mkz_sz hd h1 h2)
include hG in
theorem orc76:OrcOK prog G [(105,s110),(113,s112),(114,s113)]:=.cons (ok110 hG) (.cons (ok112 hG) (.cons (ok113 hG) .nil))
include hG in
theorem ok76:qc prog G 62 s76:=by
 refine qq hG (orc76 hG) mix enter76 (L:=[]) (pol:={}) fun args hs K x h => ?_
 unfold s76 at h
 split at h
 case h_2=>cases h
 rename_i nv a d
 split at h
 case h_2=>cases h
 rename_i neg hnv
 obtain⟨hc,hr⟩:=k8 h
 refine⟨kA (by kernel_rfl),?_⟩
 simp only[kD,kE]at hc
 obtain⟨⟨⟨⟨ha,hd⟩,h1⟩,h2⟩,h3⟩:=hc
 generalize bv a.data.toList=n at*
 generalize bv d.data.toList=m at*
 subst ha;subst hd
 have key:∃ r,(evF prog [(105,s110),(113,s112),(114,s113)] [] {} f62 [nv,.s (nb n),.s (nb m)] [] ql).run=some (.ret r [])/\RLe r (.q (mkz neg n m) 64):=by
  have hgp:0<n.gcd m:=Nat.gcd_pos_of_pos_right _ h3
  have hgl:n.gcd m<=m:=Nat.le_of_dvd h3 (Nat.gcd_dvd_right _ _)
  rcases bof_cases hnv with rfl|rfl
  ·rw[e76]
   simp only[qE,bv_nb',bv_nb2]
   by_cases h0:n=0
   ·subst h0
    rw[k5 (by rfl)]
    exact⟨_,rfl,made_zero rfl _⟩
   ·rw[k6 (kG (fun h=>h0 (nb_eq_empty.1 h)))]
    by_cases hm:m=1
    ·subst hm
     rw[k6 (by rw[kF nb_onev];rfl)]
     exact⟨_,rfl,made_some rfl h0 (by omega) h1 h2 (by simp) (by simp)⟩
    ·rw[k5 (by rw[kG (fun h=>hm (nb_eq_one.1 h))];rfl),k5 (by simp only[kD,kE];omega)]
     by_cases hg:n.gcd m=1
     ·rw[k6 (by rw[hg,kF nb_onev];rfl)]
      exact⟨_,rfl,made_some rfl h0 (by omega) h1 h2 (by rw[hg,Nat.div_one]) (by rw[hg,Nat.div_one])⟩
     ·rw[k5 (by rw[kG (fun h=>hg (nb_eq_one.1 h))];rfl)]
      repeat rw[k5 (by simp only[kD,kE];omega)]
      exact⟨_,rfl,made_some rfl h0 (by omega) h1 h2 rfl rfl⟩
  ·rw[e76l]
   simp only[qE,bv_nb',bv_nb2]
   by_cases h0:n=0
   ·subst h0
    rw[k5 (by rfl)]
    exact⟨_,rfl,made_zero rfl _⟩
   ·rw[k6 (kG (fun h=>h0 (nb_eq_empty.1 h)))]
    by_cases hm:m=1
    ·subst hm
     rw[k6 (by rw[kF nb_onev];rfl)]
     exact⟨_,rfl,made_some rfl h0 (by omega) h1 h2 (by simp) (by simp)⟩
    ·rw[k5 (by rw[kG (fun h=>hm (nb_eq_one.1 h))];rfl),k5 (by simp only[kD,kE];omega)]
     by_cases hg:n.gcd m=1
     ·rw[k6 (by rw[hg,kF nb_onev];rfl)]
      exact⟨_,rfl,made_some rfl h0 (by omega) h1 h2 (by rw[hg,Nat.div_one]) (by rw[hg,Nat.div_one])⟩
     ·rw[k5 (by rw[kG (fun h=>hg (nb_eq_one.1 h))];rfl)]
      repeat rw[k5 (by simp only[kD,kE];omega)]
      exact⟨_,rfl,made_some rfl h0 (by omega) h1 h2 rfl rfl⟩
 obtain⟨r,k1,k2⟩:=key
 exact⟨_,_,_,k1,k2,hr⟩
theorem enter75:Enters prog 61 f61 (qd f61):=⟨func61,by kernel_rfl,rfl⟩
abbrev ze751 (minus:Bool) (a b:ByteArray):Tr:=Tr.br (decide (b.size<=(1048576:Nat))&&decide (a.size<=(1048576:Nat))) (.br (decide (bv a.1.toList<=bv b.1.toList)) (.ok (.ret (.tup [.b minus,.s (nb (bv b.1.toList-bv a.1.toList))]) [])) (.ok (.ret (.tup [.b minus,.s (nb (0:Nat))]) []))) (.no 1)
theorem e75 (neg minus:Bool) (a b:ByteArray):evF prog [(101,s108),(112,s111)] [] {} f61 [.b neg,.s a,.b minus,.s b] [] ql=
 Tr.br (neg==minus) (.br (decide (bv a.1.toList<72057594037927936)&&decide (bv b.1.toList<72057594037927936)) (.ok (.ret (.tup [.b neg,.s (nb (bv a.1.toList+bv b.1.toList))]) [])) (.no 1)) (.br (decide (a.size<=1048576)&&decide (b.size<=1048576)) (.br (decide (bv b.1.toList<=bv a.1.toList)) (.br (decide ((0:Int)=0)) (.ok (.ret (.tup [.b neg,.s (nb (bv a.1.toList-bv b.1.toList))]) [])) (ze751 minus a b)) (.br (decide ((1:Int)=0)) (.ok (.ret (.tup [.b neg,.s (nb (0:Nat))]) [])) (ze751 minus a b))) (.no 1)):=by kernel_rfl
def s75:Spec:=fun args hs K=>match args,hs with
 | [.b neg,.s a,.b minus,.s b],[]=>.br (decide (a.size<=8)&&decide (b.size<=8)&&(!(neg==minus)||(decide (bv a.data.toList<72057594037927936)&&decide (bv b.data.toList<72057594037927936))))
   (K (.tup [.b (sgn2 neg (bv a.data.toList) minus (bv b.data.toList)).1,.s (nb (sgn2 neg (bv a.data.toList) minus (bv b.data.toList)).2)]) []) (.no 1)
 | _,_=>.no 1
include hG in
theorem ok75:qc prog G 61 s75:=by
 refine qq hG (.cons (ok108 hG) (.cons (ok111 hG) .nil)) mix enter75 (L:=[]) (pol:={}) fun args hs K x h => ?_
 unfold s75 at h
 split at h
 case h_2=>cases h
 rename_i neg a minus b
 obtain⟨hc,hr⟩:=k8 h
 refine⟨kA (by kernel_rfl),_,_,_,?_,.refl _,hr⟩
 rw[e75];try unfold ze751
 simp only[kD,kE,Bool.or_eq_true]at hc
 unfold sgn2
 cases hn:neg==minus
 ·rw[k6 rfl,k5 (by simp only[kD,kE];omega)]
  by_cases hle:bv b.data.toList<=bv a.data.toList
  ·rw[k5 (kF hle),k5 (by rfl),k7,if_pos hle]
  ·rw[k6 (kG hle),k6 (by rfl),k5 (by simp only[kD,kE];omega),k5 (kF (by omega)),k7,if_neg hle]
 ·rw[hn]at hc
  have h2:=hc.2.resolve_left (by simp)
  rw[k5 rfl,k5 (by simp only[kD,kE];omega),k7]
def s32 (x:Rat):Bool:=decide (x.num.natAbs<4294967296)&&decide (x.den<4294967296)
theorem s32_iff {x:Rat}:s32 x=true↔x.num.natAbs<4294967296/\x.den<4294967296:=by simp[s32]
theorem s32_64 {x:Rat} (h:s32 x=true):(decide (x.num.natAbs<18446744073709551616)&&decide (x.den<18446744073709551616))=true:=by
 have:=s32_iff.1 h
 simp only[kD,kE];omega
theorem sz4 {n:Nat} (h:n<4294967296):(nb n).size<=4:=nb_size_le (k:=4) (by omega)
theorem mul32 {n m:Nat} (h:n<4294967296) (h':m<4294967296):n*m<18446744073709551616:=by
 have:=Nat.mul_le_mul (show n<=4294967295 by omega) (show m<=4294967295 by omega)
 omega
theorem sgn2_le (neg:Bool) (a:Nat) (minus:Bool) (b:Nat):(sgn2 neg a minus b).2<=a+b:=by
 unfold sgn2
 split
 ·exact Nat.le_refl _
 ·split
  ·show a-b<=_;omega
  ·show b-a<=_;omega
theorem enter21:Enters prog 25 f25 (qd f25):=⟨func25,by kernel_rfl,rfl⟩
theorem e21 (x y:Rat) (n m:Nat):evF prog [(58,s74),(61,s75),(62,s76),(60,s77)] [] {} f25 [.q x n,.q y m] [] ql=
 Tr.br (decide (x.num.natAbs<18446744073709551616)&&decide (x.den<18446744073709551616)) (.br (decide (y.num.natAbs<18446744073709551616)&&decide (y.den<18446744073709551616)) (.br (decide (qu x=qu y)) (.br (decide ((qt x).size<=8)&&decide ((qt y).size<=8)&&(!qo x==qo y||decide (bv (qa x.num.natAbs x.num.natAbs []).toArray.toList<72057594037927936)&&decide (bv (qa y.num.natAbs y.num.natAbs []).toArray.toList<72057594037927936))) (.br (decide (nb (sgn2 (qo x) (bv (qa x.num.natAbs x.num.natAbs []).toArray.toList) (qo y) (bv (qa y.num.natAbs y.num.natAbs []).toArray.toList)).2=nb (bv (qa (sgn2 (qo x) (bv (qa x.num.natAbs x.num.natAbs []).toArray.toList) (qo y) (bv (qa y.num.natAbs y.num.natAbs []).toArray.toList)).2 (sgn2 (qo x) (bv (qa x.num.natAbs x.num.natAbs []).toArray.toList) (qo y) (bv (qa y.num.natAbs y.num.natAbs []).toArray.toList)).2 []).toArray.toList))&&decide (qu x=nb (bv (qa x.den x.den []).toArray.toList))&&decide (bv (qa (sgn2 (qo x) (bv (qa x.num.natAbs x.num.natAbs []).toArray.toList) (qo y) (bv (qa y.num.natAbs y.num.natAbs []).toArray.toList)).2 (sgn2 (qo x) (bv (qa x.num.natAbs x.num.natAbs []).toArray.toList) (qo y) (bv (qa y.num.natAbs y.num.natAbs []).toArray.toList)).2 []).toArray.toList<18446744073709551616)&&decide (bv (qa x.den x.den []).toArray.toList<18446744073709551616)&&decide ((0:Nat)<bv (qa x.den x.den []).toArray.toList)) (.ok (.ret (.q (mkz (sgn2 (qo x) (bv (qa x.num.natAbs x.num.natAbs []).toArray.toList) (qo y) (bv (qa y.num.natAbs y.num.natAbs []).toArray.toList)).1 (bv (qa (sgn2 (qo x) (bv (qa x.num.natAbs x.num.natAbs []).toArray.toList) (qo y) (bv (qa y.num.natAbs y.num.natAbs []).toArray.toList)).2 (sgn2 (qo x) (bv (qa x.num.natAbs x.num.natAbs []).toArray.toList) (qo y) (bv (qa y.num.natAbs y.num.natAbs []).toArray.toList)).2 []).toArray.toList) (bv (qa x.den x.den []).toArray.toList)) 64) [])) (.no 1)) (.no 1)) (.br (decide ((nb (bv (qa x.num.natAbs x.num.natAbs []).toArray.toList)).size+(nb (bv (qa y.den y.den []).toArray.toList)).size<=8)) (.br (decide ((nb (bv (qa y.num.natAbs y.num.natAbs []).toArray.toList)).size+(nb (bv (qa x.den x.den []).toArray.toList)).size<=8)) (.br (decide ((nb (bv (qa x.num.natAbs x.num.natAbs []).toArray.toList*bv (qa y.den y.den []).toArray.toList)).size<=8)&&decide ((nb (bv (qa y.num.natAbs y.num.natAbs []).toArray.toList*bv (qa x.den x.den []).toArray.toList)).size<=8)&&(!qo x==qo y||decide (bv (qa (bv (qa x.num.natAbs x.num.natAbs []).toArray.toList*bv (qa y.den y.den []).toArray.toList) (bv (qa x.num.natAbs x.num.natAbs []).toArray.toList*bv (qa y.den y.den []).toArray.toList) []).toArray.toList<72057594037927936)&&decide (bv (qa (bv (qa y.num.natAbs y.num.natAbs []).toArray.toList*bv (qa x.den x.den []).toArray.toList) (bv (qa y.num.natAbs y.num.natAbs []).toArray.toList*bv (qa x.den x.den []).toArray.toList) []).toArray.toList<72057594037927936))) (.br (decide ((nb (bv (qa x.den x.den []).toArray.toList)).size+(nb (bv (qa y.den y.den []).toArray.toList)).size<=8)) (.br (decide (nb (sgn2 (qo x) (bv (qa (bv (qa x.num.natAbs x.num.natAbs []).toArray.toList*bv (qa y.den y.den []).toArray.toList) (bv (qa x.num.natAbs x.num.natAbs []).toArray.toList*bv (qa y.den y.den []).toArray.toList) []).toArray.toList) (qo y) (bv (qa (bv (qa y.num.natAbs y.num.natAbs []).toArray.toList*bv (qa x.den x.den []).toArray.toList) (bv (qa y.num.natAbs y.num.natAbs []).toArray.toList*bv (qa x.den x.den []).toArray.toList) []).toArray.toList)).2=nb (bv (qa (sgn2 (qo x) (bv (qa (bv (qa x.num.natAbs x.num.natAbs []).toArray.toList*bv (qa y.den y.den []).toArray.toList) (bv (qa x.num.natAbs x.num.natAbs []).toArray.toList*bv (qa y.den y.den []).toArray.toList) []).toArray.toList) (qo y) (bv (qa (bv (qa y.num.natAbs y.num.natAbs []).toArray.toList*bv (qa x.den x.den []).toArray.toList) (bv (qa y.num.natAbs y.num.natAbs []).toArray.toList*bv (qa x.den x.den []).toArray.toList) []).toArray.toList)).2 (sgn2 (qo x) (bv (qa (bv (qa x.num.natAbs x.num.natAbs []).toArray.toList*bv (qa y.den y.den []).toArray.toList) (bv (qa x.num.natAbs x.num.natAbs []).toArray.toList*bv (qa y.den y.den []).toArray.toList) []).toArray.toList) (qo y) (bv (qa (bv (qa y.num.natAbs y.num.natAbs []).toArray.toList*bv (qa x.den x.den []).toArray.toList) (bv (qa y.num.natAbs y.num.natAbs []).toArray.toList*bv (qa x.den x.den []).toArray.toList) []).toArray.toList)).2 []).toArray.toList))&&decide (nb (bv (qa x.den x.den []).toArray.toList*bv (qa y.den y.den []).toArray.toList)=nb (bv (qa (bv (qa x.den x.den []).toArray.toList*bv (qa y.den y.den []).toArray.toList) (bv (qa x.den x.den []).toArray.toList*bv (qa y.den y.den []).toArray.toList) []).toArray.toList))&&decide (bv (qa (sgn2 (qo x) (bv (qa (bv (qa x.num.natAbs x.num.natAbs []).toArray.toList*bv (qa y.den y.den []).toArray.toList) (bv (qa x.num.natAbs x.num.natAbs []).toArray.toList*bv (qa y.den y.den []).toArray.toList) []).toArray.toList) (qo y) (bv (qa (bv (qa y.num.natAbs y.num.natAbs []).toArray.toList*bv (qa x.den x.den []).toArray.toList) (bv (qa y.num.natAbs y.num.natAbs []).toArray.toList*bv (qa x.den x.den []).toArray.toList) []).toArray.toList)).2 (sgn2 (qo x) (bv (qa (bv (qa x.num.natAbs x.num.natAbs []).toArray.toList*bv (qa y.den y.den []).toArray.toList) (bv (qa x.num.natAbs x.num.natAbs []).toArray.toList*bv (qa y.den y.den []).toArray.toList) []).toArray.toList) (qo y) (bv (qa (bv (qa y.num.natAbs y.num.natAbs []).toArray.toList*bv (qa x.den x.den []).toArray.toList) (bv (qa y.num.natAbs y.num.natAbs []).toArray.toList*bv (qa x.den x.den []).toArray.toList) []).toArray.toList)).2 []).toArray.toList<18446744073709551616)&&decide (bv (qa (bv (qa x.den x.den []).toArray.toList*bv (qa y.den y.den []).toArray.toList) (bv (qa x.den x.den []).toArray.toList*bv (qa y.den y.den []).toArray.toList) []).toArray.toList<18446744073709551616)&&decide ((0:Nat)<bv (qa (bv (qa x.den x.den []).toArray.toList*bv (qa y.den y.den []).toArray.toList) (bv (qa x.den x.den []).toArray.toList*bv (qa y.den y.den []).toArray.toList) []).toArray.toList)) (.ok (.ret (.q (mkz (sgn2 (qo x) (bv (qa (bv (qa x.num.natAbs x.num.natAbs []).toArray.toList*bv (qa y.den y.den []).toArray.toList) (bv (qa x.num.natAbs x.num.natAbs []).toArray.toList*bv (qa y.den y.den []).toArray.toList) []).toArray.toList) (qo y) (bv (qa (bv (qa y.num.natAbs y.num.natAbs []).toArray.toList*bv (qa x.den x.den []).toArray.toList) (bv (qa y.num.natAbs y.num.natAbs []).toArray.toList*bv (qa x.den x.den []).toArray.toList) []).toArray.toList)).1 (bv (qa (sgn2 (qo x) (bv (qa (bv (qa x.num.natAbs x.num.natAbs []).toArray.toList*bv (qa y.den y.den []).toArray.toList) (bv (qa x.num.natAbs x.num.natAbs []).toArray.toList*bv (qa y.den y.den []).toArray.toList) []).toArray.toList) (qo y) (bv (qa (bv (qa y.num.natAbs y.num.natAbs []).toArray.toList*bv (qa x.den x.den []).toArray.toList) (bv (qa y.num.natAbs y.num.natAbs []).toArray.toList*bv (qa x.den x.den []).toArray.toList) []).toArray.toList)).2 (sgn2 (qo x) (bv (qa (bv (qa x.num.natAbs x.num.natAbs []).toArray.toList*bv (qa y.den y.den []).toArray.toList) (bv (qa x.num.natAbs x.num.natAbs []).toArray.toList*bv (qa y.den y.den []).toArray.toList) []).toArray.toList) (qo y) (bv (qa (bv (qa y.num.natAbs y.num.natAbs []).toArray.toList*bv (qa x.den x.den []).toArray.toList) (bv (qa y.num.natAbs y.num.natAbs []).toArray.toList*bv (qa x.den x.den []).toArray.toList) []).toArray.toList)).2 []).toArray.toList) (bv (qa (bv (qa x.den x.den []).toArray.toList*bv (qa y.den y.den []).toArray.toList) (bv (qa x.den x.den []).toArray.toList*bv (qa y.den y.den []).toArray.toList) []).toArray.toList)) 64) [])) (.no 1)) (.no 1)) (.no 1)) (.no 1)) (.no 1))) (.no 1)) (.no 1):=by kernel_rfl
def s21:Spec:=fun args hs K=>match args,hs with
 | [.q x _,.q y _],[]=>.br (s32 x&&s32 y&&decide (x.num.natAbs*y.den<72057594037927936)&&decide (y.num.natAbs*x.den<72057594037927936)) (K (.q (x+y) 64) []) (.no 1)
 | _,_=>.no 1
include hG in
theorem orc21:OrcOK prog G [(58,s74),(61,s75),(62,s76),(60,s77)]:=.cons (ok74 hG) (.cons (ok75 hG) (.cons (ok76 hG) (.cons (ok77 hG) .nil)))
include hG in
theorem ok21:qc prog G 25 s21:=by
 refine qq hG (orc21 hG) mix enter21 (L:=[]) (pol:={}) fun args hs K x h => ?_
 unfold s21 at h
 split at h
 case h_2=>cases h
 rename_i x n y m
 obtain⟨hc,hr⟩:=k8 h
 refine⟨kA (by kernel_rfl),_,_,_,?_,.refl _,hr⟩
 simp only[kD,kE]at hc
 obtain⟨⟨⟨hx,hy⟩,hp⟩,hq⟩:=hc
 obtain⟨x1,x2⟩:=s32_iff.1 hx
 obtain⟨y1,y2⟩:=s32_iff.1 hy
 have dx:=x.den_pos
 have dy:=y.den_pos
 have a1:=sz4 x1
 have a2:=sz4 x2
 have a3:=sz4 y1
 have a4:=sz4 y2
 rw[e21,k5 (s32_64 hx),k5 (s32_64 hy)]
 simp only[bv_nb',bv_nb2,decide_true,Bool.true_and]
 by_cases hd:x.den=y.den
 ·have hb:=sgn2_le (qo x) x.num.natAbs (qo y) y.num.natAbs
  have r1:(qt x).size<=4:=a1
  have r2:(qt y).size<=4:=a3
  rw[k5 (kF (show qu x=qu y by rw[rden_eq,rden_eq,hd])),k5 (by
    simp only[kD,Bool.or_eq_true,kE];exact⟨⟨by omega,by omega⟩,Or.inr ⟨by omega,by omega⟩⟩),
   k5 (by simp only[kD,kE];exact⟨⟨⟨rfl,by omega⟩,by omega⟩,by omega⟩),k7,<-rat_add_same x y hd]
 ·have b1:=nb_size_le (k:=7) (show x.num.natAbs*y.den<256^7 by omega)
  have b2:=nb_size_le (k:=7) (show y.num.natAbs*x.den<256^7 by omega)
  have b3:=sgn2_le (qo x) (x.num.natAbs*y.den) (qo y) (y.num.natAbs*x.den)
  have b4:=mul32 x2 y2
  have b5:=Nat.mul_pos dx dy
  rw[k6 (kG (show ¬ qu x=qu y from fun h=>hd (nb_inj h))),k5 (kF (by omega)),k5 (kF (by omega)),k5 (by
    simp only[kD,Bool.or_eq_true,kE];exact⟨⟨by omega,by omega⟩,Or.inr ⟨by omega,by omega⟩⟩),
   k5 (kF (by omega)),k5 (by simp only[kD,kE];exact⟨⟨by omega,by omega⟩,by omega⟩),k7,<-rat_add_mkz x y]
theorem enter43:Enters prog 75 f75 (qd f75):=⟨func75,by kernel_rfl,rfl⟩
theorem e43 (x y:Rat) (n m:Nat):evF prog [(58,s74),(62,s76),(60,s77)] [] {} f75 [.q x n,.q y m] [] ql=
 Tr.br (decide (x.num.natAbs<18446744073709551616)&&decide (x.den<18446744073709551616)) (.br (decide (y.num.natAbs<18446744073709551616)&&decide (y.den<18446744073709551616)) (.br (decide ((nb (bv (qa x.num.natAbs x.num.natAbs []).toArray.toList)).size+(nb (bv (qa y.num.natAbs y.num.natAbs []).toArray.toList)).size<=8)) (.br (decide ((nb (bv (qa x.den x.den []).toArray.toList)).size+(nb (bv (qa y.den y.den []).toArray.toList)).size<=8)) (.br (decide (nb (bv (qa x.num.natAbs x.num.natAbs []).toArray.toList*bv (qa y.num.natAbs y.num.natAbs []).toArray.toList)=nb (bv (qa (bv (qa x.num.natAbs x.num.natAbs []).toArray.toList*bv (qa y.num.natAbs y.num.natAbs []).toArray.toList) (bv (qa x.num.natAbs x.num.natAbs []).toArray.toList*bv (qa y.num.natAbs y.num.natAbs []).toArray.toList) []).toArray.toList))&&decide (nb (bv (qa x.den x.den []).toArray.toList*bv (qa y.den y.den []).toArray.toList)=nb (bv (qa (bv (qa x.den x.den []).toArray.toList*bv (qa y.den y.den []).toArray.toList) (bv (qa x.den x.den []).toArray.toList*bv (qa y.den y.den []).toArray.toList) []).toArray.toList))&&decide (bv (qa (bv (qa x.num.natAbs x.num.natAbs []).toArray.toList*bv (qa y.num.natAbs y.num.natAbs []).toArray.toList) (bv (qa x.num.natAbs x.num.natAbs []).toArray.toList*bv (qa y.num.natAbs y.num.natAbs []).toArray.toList) []).toArray.toList<18446744073709551616)&&decide (bv (qa (bv (qa x.den x.den []).toArray.toList*bv (qa y.den y.den []).toArray.toList) (bv (qa x.den x.den []).toArray.toList*bv (qa y.den y.den []).toArray.toList) []).toArray.toList<18446744073709551616)&&decide ((0:Nat)<bv (qa (bv (qa x.den x.den []).toArray.toList*bv (qa y.den y.den []).toArray.toList) (bv (qa x.den x.den []).toArray.toList*bv (qa y.den y.den []).toArray.toList) []).toArray.toList)) (.ok (.ret (.q (mkz (!qo x==qo y) (bv (qa (bv (qa x.num.natAbs x.num.natAbs []).toArray.toList*bv (qa y.num.natAbs y.num.natAbs []).toArray.toList) (bv (qa x.num.natAbs x.num.natAbs []).toArray.toList*bv (qa y.num.natAbs y.num.natAbs []).toArray.toList) []).toArray.toList) (bv (qa (bv (qa x.den x.den []).toArray.toList*bv (qa y.den y.den []).toArray.toList) (bv (qa x.den x.den []).toArray.toList*bv (qa y.den y.den []).toArray.toList) []).toArray.toList)) 64) [])) (.no 1)) (.no 1)) (.no 1)) (.no 1)) (.no 1):=by kernel_rfl
def s43:Spec:=fun args hs K=>match args,hs with
 | [.q x _,.q y _],[]=>.br (s32 x&&s32 y) (K (.q (x*y) 64) []) (.no 1)
 | _,_=>.no 1
include hG in
theorem orc43:OrcOK prog G [(58,s74),(62,s76),(60,s77)]:=.cons (ok74 hG) (.cons (ok76 hG) (.cons (ok77 hG) .nil))
include hG in
theorem ok43:qc prog G 75 s43:=by
 refine qq hG (orc43 hG) mix enter43 (L:=[]) (pol:={}) fun args hs K x h => ?_
 unfold s43 at h
 split at h
 case h_2=>cases h
 rename_i x n y m
 obtain⟨hc,hr⟩:=k8 h
 refine⟨kA (by kernel_rfl),_,_,_,?_,.refl _,hr⟩
 simp only[kD]at hc
 obtain⟨hx,hy⟩:=hc
 obtain⟨x1,x2⟩:=s32_iff.1 hx
 obtain⟨y1,y2⟩:=s32_iff.1 hy
 have dx:=x.den_pos
 have dy:=y.den_pos
 have a1:=sz4 x1
 have a2:=sz4 x2
 have a3:=sz4 y1
 have a4:=sz4 y2
 have b1:=mul32 x1 y1
 have b4:=mul32 x2 y2
 have b5:=Nat.mul_pos dx dy
 rw[e43,k5 (s32_64 hx),k5 (s32_64 hy)]
 simp only[bv_nb',bv_nb2,decide_true,Bool.true_and]
 rw[k5 (kF (by omega)),k5 (kF (by omega)),k5 (by simp only[kD,kE];exact⟨⟨by omega,by omega⟩,by omega⟩),k7,rat_mul_mkz x y]
 rfl
theorem enter72:Enters prog 86 f86 (qd f86):=⟨func86,by kernel_rfl,rfl⟩
theorem rneg_inv (y:Rat):qo y⁻¹=qo y:=by
 unfold qo
 rw[Rat.num_inv]
 have hd:=y.den_pos
 by_cases h:y.num<0
 ·rw[kF h,Int.sign_eq_neg_one_of_neg h];exact kF (by omega)
 ·rw[kG h]
  apply kG
  rcases(show y.num=0\/0<y.num by omega)with h0|h0
  ·rw[h0];simp
  ·rw[Int.sign_eq_one_of_pos h0];omega
theorem rat_div_mkz (x y:Rat) (hy:y.num.natAbs≠0):x/y=mkz (qo x != qo y) (x.num.natAbs*y.den) (x.den*y.num.natAbs):=by
 rw[Rat.div_def,rat_mul_mkz,rneg_inv,Rat.num_inv,Rat.den_inv,if_neg (by omega),Int.natAbs_mul,Int.natAbs_natCast]
 have:y.num.sign.natAbs=1:=by rw[Int.natAbs_sign_of_ne_zero (by omega)]
 rw[this,Nat.one_mul]
theorem enter83:Enters prog 102 f102 (qd f102):=⟨func102,by kernel_rfl,rfl⟩
theorem e83 (x:Rat) (n:Nat):evF prog [(58,s74)] [] {} f102 [.q x n] [] ql=
 Tr.br (decide (x.num.natAbs<18446744073709551616)&&decide (x.den<18446744073709551616)) (.br (!qo x) (.ok (.ret (.agg [.b !decide (qt x=ByteArray.mk #[]),.s (qt x),.s (qu x)]) [])) (.ok (.ret (.agg [.bl false,.s (qt x),.s (qu x)]) []))) (.no 1):=by kernel_rfl
def s64 (x:Rat):Bool:=decide (x.num.natAbs<18446744073709551616)&&decide (x.den<18446744073709551616)
theorem s64_sz {x:Rat} (h:s64 x=true):sz x<=64:=by
 simp only[s64,kD,kE]at h
 exact sz_le (by omega) (by omega) (by omega)
theorem neg_natAbs (x:Rat):(-x).num.natAbs=x.num.natAbs:=by rw[Rat.neg_num,Int.natAbs_neg]
theorem neg_den (x:Rat):(-x).den=x.den:=rfl
theorem s64_neg (x:Rat):s64 (-x)=s64 x:=by unfold s64;rw[neg_natAbs,neg_den]
theorem s32_neg (x:Rat):s32 (-x)=s32 x:=by unfold s32;rw[neg_natAbs,neg_den]
def s83:Spec:=fun args hs K=>match args,hs with
 | [.q x _],[]=>.br (s64 x) (K (.q (-x) 64) []) (.no 1)
 | _,_=>.no 1
theorem rnum_neg (x:Rat):qt (-x)=qt x:=by rw[rnum_eq,rnum_eq,neg_natAbs]
theorem rden_neg (x:Rat):qu (-x)=qu x:=rfl
include hG in
theorem orc74:OrcOK prog G [(58,s74)]:=.cons (ok74 hG) .nil
include hG in
theorem ok83:qc prog G 102 s83:=by
 refine qq hG (orc74 hG) mix enter83 (L:=[]) (pol:={}) fun args hs K x h => ?_
 unfold s83 at h
 split at h
 case h_2=>cases h
 rename_i x n
 obtain⟨hc,hr⟩:=k8 h
 refine⟨kA (by kernel_rfl),?_⟩
 have hz:sz (-x)<=64:=s64_sz (by rw[s64_neg];exact hc)
 rw[e83,k5 (show(decide (x.num.natAbs<18446744073709551616)&&decide (x.den<18446744073709551616))=true from hc),<-rnum_neg,<-rden_neg]
 by_cases h:qo x=true
 ·rw[k6 (by rw[h];rfl)]
  refine⟨_,_,_,rfl,rle_q ?_ hz,hr⟩
  have:x.num<0:=of_decide_eq_true h
  show some false=some (decide (-x.num<0))
  rw[kG (by omega)]
 ·rw[k5 (by rw[Bool.not_eq_true]at h;rw[h];rfl)]
  refine⟨_,_,_,rfl,rle_q ?_ hz,hr⟩
  have h0:¬ x.num<0:=fun h'=>h (kF h')
  show some (!decide (qt (-x)=⟨#[]⟩))=some (decide (-x.num<0))
  congr 1
  by_cases h1:x.num=0
  ·rw[kF ((qI _).2 (by rw[neg_natAbs];omega)),kG (by omega)];rfl
  ·rw[kG (fun h=>by have:=(qI _).1 h;rw[neg_natAbs]at this;omega),kF (by omega)];rfl
theorem enter28:Enters prog 24 f24 (qd f24):=⟨func24,by kernel_rfl,rfl⟩
def rabs (x:Rat):Rat:=if x<0 then -x else x
theorem rabs_natAbs (x:Rat):(rabs x).num.natAbs=x.num.natAbs:=by
 unfold rabs;split
 ·exact neg_natAbs x
 ·rfl
theorem rabs_den (x:Rat):(rabs x).den=x.den:=by unfold rabs;split<;>rfl
theorem rneg_iff {x:Rat}:qo x=true↔x<0:=by
 unfold qo
 rw[kE,<-Rat.not_le,<-Rat.num_nonneg];omega
theorem rabs_nonneg (x:Rat):qo (rabs x)=false:=by
 rw[Bool.eq_false_iff,Ne,rneg_iff]
 unfold rabs
 split<;>grind
theorem enter26:Enters prog 97 f97 (qd f97):=⟨func97,by kernel_rfl,rfl⟩
theorem e26 (x:Rat) (n:Nat):evF prog [(58,s74)] [] {} f97 [.q x n] [] ql=
 Tr.br (decide (x.num.natAbs<18446744073709551616)&&decide (x.den<18446744073709551616)) (.br (decide (qt x=ByteArray.mk #[])) (.ok (.ret (.i .i64 0) [])) (.br (qo x) (.ok (.ret (.i .i64 (-1)) [])) (.ok (.ret (.i .i64 1) [])))) (.no 1):=by kernel_rfl
def s26:Spec:=fun args hs K=>match args,hs with
 | [.q x _],[]=>.br (s64 x) (K (.i .i64 (rcmp x 0)) []) (.no 1)
 | _,_=>.no 1
include hG in
theorem ok26:qc prog G 97 s26:=by
 refine qq hG (orc74 hG) mix enter26 (L:=[]) (pol:={}) fun args hs K x h => ?_
 unfold s26 at h
 split at h
 case h_2=>cases h
 rename_i x n
 obtain⟨hc,hr⟩:=k8 h
 refine⟨kA (by kernel_rfl),_,_,_,?_,.refl _,hr⟩
 rw[e26,k5 (show(decide (x.num.natAbs<18446744073709551616)&&decide (x.den<18446744073709551616))=true from hc)]
 unfold rcmp
 by_cases h0:x.num.natAbs=0
 ·have:x=0:=Rat.num_eq_zero.1 (by omega)
  rw[k5 (kF ((qI x).2 h0)),k7]
  subst this
  rfl
 ·rw[k6 (kG (fun h=>h0 ((qI x).1 h)))]
  by_cases h1:x<0
  ·rw[k5 (rneg_iff.2 h1),if_pos h1];rfl
  ·have h2:0<x:=by
    have hne:x≠0:=fun h=>h0 (by rw[h];rfl)
    grind
   rw[k6 (by rw[Bool.eq_false_iff,Ne,rneg_iff];exact h1),if_neg h1,if_pos h2];rfl
theorem enter27:Enters prog 23 f23 (qd f23):=⟨func23,by kernel_rfl,rfl⟩
theorem e27 (x y:Rat) (n m:Nat):evF prog [(58,s74),(60,s77),(59,s82)] [] {} f23 [.q x n,.q y m] [] ql=
 Tr.br (decide (x.num.natAbs<18446744073709551616)&&decide (x.den<18446744073709551616)) (.br (decide (y.num.natAbs<18446744073709551616)&&decide (y.den<18446744073709551616)) (.br (!qo x==qo y) (.br (qo x) (.ok (.ret (.i .i64 (-1)) [])) (.ok (.ret (.i .i64 1) []))) (.br (decide ((nb (bv (qa x.num.natAbs x.num.natAbs []).toArray.toList)).size+(nb (bv (qa y.den y.den []).toArray.toList)).size<=8)) (.br (decide ((nb (bv (qa y.num.natAbs y.num.natAbs []).toArray.toList)).size+(nb (bv (qa x.den x.den []).toArray.toList)).size<=8)) (.br (qo x) (.br (ib (0-ncmp (bv (qa (bv (qa x.num.natAbs x.num.natAbs []).toArray.toList*bv (qa y.den y.den []).toArray.toList) (bv (qa x.num.natAbs x.num.natAbs []).toArray.toList*bv (qa y.den y.den []).toArray.toList) []).toArray.toList) (bv (qa (bv (qa y.num.natAbs y.num.natAbs []).toArray.toList*bv (qa x.den x.den []).toArray.toList) (bv (qa y.num.natAbs y.num.natAbs []).toArray.toList*bv (qa x.den x.den []).toArray.toList) []).toArray.toList))) (.ok (.ret (.i .i64 (0-ncmp (bv (qa (bv (qa x.num.natAbs x.num.natAbs []).toArray.toList*bv (qa y.den y.den []).toArray.toList) (bv (qa x.num.natAbs x.num.natAbs []).toArray.toList*bv (qa y.den y.den []).toArray.toList) []).toArray.toList) (bv (qa (bv (qa y.num.natAbs y.num.natAbs []).toArray.toList*bv (qa x.den x.den []).toArray.toList) (bv (qa y.num.natAbs y.num.natAbs []).toArray.toList*bv (qa x.den x.den []).toArray.toList) []).toArray.toList))) [])) (.no 9002)) (.ok (.ret (.i .i64 (ncmp (bv (qa (bv (qa x.num.natAbs x.num.natAbs []).toArray.toList*bv (qa y.den y.den []).toArray.toList) (bv (qa x.num.natAbs x.num.natAbs []).toArray.toList*bv (qa y.den y.den []).toArray.toList) []).toArray.toList) (bv (qa (bv (qa y.num.natAbs y.num.natAbs []).toArray.toList*bv (qa x.den x.den []).toArray.toList) (bv (qa y.num.natAbs y.num.natAbs []).toArray.toList*bv (qa x.den x.den []).toArray.toList) []).toArray.toList))) []))) (.no 1)) (.no 1))) (.no 1)) (.no 1):=by kernel_rfl
theorem sg_mul (b:Bool) (n m:Nat):sg b n*(m:Int)=sg b (n*m):=by cases b<;>simp[sg,Int.neg_mul]
theorem rcmp_sg (x y:Rat):rcmp x y=if sg (qo x) (x.num.natAbs*y.den)<sg (qo y) (y.num.natAbs*x.den)then -1 else if sg (qo y) (y.num.natAbs*x.den)<sg (qo x) (x.num.natAbs*y.den)then 1 else 0:=by
 rw[rcmp_cross,<-sg_mul,<-sg_mul,sg_num,sg_num]
def s27:Spec:=fun args hs K=>match args,hs with
 | [.q x _,.q y _],[]=>.br (s32 x&&s32 y) (K (.i .i64 (rcmp x y)) []) (.no 1)
 | _,_=>.no 1
theorem neg_ncmp (P Q:Nat):0-ncmp P Q=if -(P:Int) < -(Q:Int)then -1 else if -(Q:Int) < -(P:Int)then 1 else 0:=by
 unfold ncmp
 rcases Nat.lt_trichotomy P Q with h|h|h
 ·rw[if_pos h,if_neg (by omega),if_pos (by omega)];rfl
 ·rw[if_neg (by omega),if_neg (by omega),if_neg (by omega),if_neg (by omega)];rfl
 ·rw[if_neg (by omega),if_pos h,if_pos (by omega)];rfl
theorem ncmp_range (n m:Nat) : -1<=ncmp n m/\ncmp n m<=1:=by
 unfold ncmp;split
 ·omega
 ·split<;>omega
include hG in
theorem orc27:OrcOK prog G [(58,s74),(60,s77),(59,s82)]:=.cons (ok74 hG) (.cons (ok77 hG) (.cons (ok82 hG) .nil))
include hG in
theorem ok27:qc prog G 23 s27:=by
 refine qq hG (orc27 hG) mix enter27 (L:=[]) (pol:={}) fun args hs K x h => ?_
 unfold s27 at h
 split at h
 case h_2=>cases h
 rename_i x n y m
 obtain⟨hc,hr⟩:=k8 h
 refine⟨kA (by kernel_rfl),_,_,_,?_,.refl _,hr⟩
 simp only[kD]at hc
 obtain⟨hx,hy⟩:=hc
 obtain⟨x1,x2⟩:=s32_iff.1 hx
 obtain⟨y1,y2⟩:=s32_iff.1 hy
 have a1:=sz4 x1
 have a2:=sz4 x2
 have a3:=sz4 y1
 have a4:=sz4 y2
 have p1:=x.den_pos
 have p2:=y.den_pos
 rw[e27,k5 (s32_64 hx),k5 (s32_64 hy),rcmp_sg]
 simp only[bv_nb',bv_nb2]
 have nz:∀ z:Rat,qo z=true->0<z.num.natAbs:=by
  intro z hz
  have:z.num<0:=of_decide_eq_true hz
  omega
 cases hnx:qo x<;>cases hny:qo y
 ·rw[k6 (by rfl),k5 (kF (by omega)),k5 (kF (by omega)),k6 rfl,k7]
  unfold ncmp
  simp only[sg]
  simp only[Int.ofNat_lt]
 ·have h1:=Nat.mul_pos (nz y hny) p1
  rw[k5 (by rfl),k6 rfl,k7,if_neg (by simp only[sg];omega),if_pos (by simp only[sg];omega)]
 ·have h1:=Nat.mul_pos (nz x hnx) p2
  rw[k5 (by rfl),k5 rfl,k7,if_pos (by simp only[sg];omega)]
 ·have hn:=ncmp_range (x.num.natAbs*y.den) (y.num.natAbs*x.den)
  rw[k6 (by rfl),k5 (kF (by omega)),k5 (kF (by omega)),k5 rfl,k5 (by simp only[kD,kE];omega),k7]
  rw[neg_ncmp]
  rfl
theorem enter71:Enters prog 53 f53 (qd f53):=⟨func53,by kernel_rfl,rfl⟩
theorem e71 (n:Int):evF prog [(62,s76),(100,s107),(101,s108)] [] {} f53 [.i .i64 n] [] ql=
 Tr.br (decide (0<=n)) (.br (decide (n<=9223372036854775807)) (.br (decide (nb n.toNat=nb (bv (qa n.toNat n.toNat []).toArray.toList))&&decide (ByteArray.mk #[(1:UInt8)]=nb (bv #[(1:UInt8)].toList))&&decide (bv (qa n.toNat n.toNat []).toArray.toList<18446744073709551616)&&decide (bv #[(1:UInt8)].toList<18446744073709551616)&&decide ((0:Nat)<bv #[(1:UInt8)].toList)) (.ok (.ret (.q (mkz false (bv (qa n.toNat n.toNat []).toArray.toList) (bv #[(1:UInt8)].toList)) 64) [])) (.no 1)) (.no 1)) (.br (ib (n+1)) (.br (ib (0-(n+1))) (.br (decide (0-(n+1)<=9223372036854775807)) (.br (decide (bv (qa (0-(n+1)).toNat (0-(n+1)).toNat []).toArray.toList<72057594037927936)&&decide (bv #[(1:UInt8)].toList<72057594037927936)) (.br (decide (nb (bv (qa (0-(n+1)).toNat (0-(n+1)).toNat []).toArray.toList+bv #[(1:UInt8)].toList)=nb (bv (qa (bv (qa (0-(n+1)).toNat (0-(n+1)).toNat []).toArray.toList+bv #[(1:UInt8)].toList) (bv (qa (0-(n+1)).toNat (0-(n+1)).toNat []).toArray.toList+bv #[(1:UInt8)].toList) []).toArray.toList))&&decide (ByteArray.mk #[(1:UInt8)]=nb (bv #[(1:UInt8)].toList))&&decide (bv (qa (bv (qa (0-(n+1)).toNat (0-(n+1)).toNat []).toArray.toList+bv #[(1:UInt8)].toList) (bv (qa (0-(n+1)).toNat (0-(n+1)).toNat []).toArray.toList+bv #[(1:UInt8)].toList) []).toArray.toList<18446744073709551616)&&decide (bv #[(1:UInt8)].toList<18446744073709551616)&&decide ((0:Nat)<bv #[(1:UInt8)].toList)) (.ok (.ret (.q (mkz true (bv (qa (bv (qa (0-(n+1)).toNat (0-(n+1)).toNat []).toArray.toList+bv #[(1:UInt8)].toList) (bv (qa (0-(n+1)).toNat (0-(n+1)).toNat []).toArray.toList+bv #[(1:UInt8)].toList) []).toArray.toList) (bv #[(1:UInt8)].toList)) 64) [])) (.no 1)) (.no 1)) (.no 1)) (.no 4005)) (.no 4006)):=by kernel_rfl
def s71:Spec:=fun args hs K=>match args,hs with
 | [.i .i64 n],[]=>.br (decide (-72057594037927936<n)&&decide (n<=9223372036854775807)) (K (.q (n:Rat) 64) []) (.no 1)
 | _,_=>.no 1
theorem mkz_int (neg:Bool) (n:Nat):mkz neg n 1=((sg neg n:Int):Rat):=by
 unfold mkz
 rw[Rat.mkRat_eq_div]
 show((sg neg n:Int):Rat)/((1:Nat):Rat)=_
 have:((1:Nat):Rat)=1:=rfl
 rw[this]
 grind
theorem one_bv2:bv [(1:UInt8)]=1:=(bv_one 1).trans (by decide)
theorem one_bv:bv #[(1:UInt8)].toList=1:=(bv_one 1).trans (by decide)
include hG in
theorem ok71:qc prog G 53 s71:=by
 refine qq hG (.cons (ok76 hG) (.cons (ok107 hG) (.cons (ok108 hG) .nil))) mix enter71 (L:=[]) (pol:={}) fun args hs K x h => ?_
 unfold s71 at h
 split at h
 case h_2=>cases h
 rename_i n
 obtain⟨hc,hr⟩:=k8 h
 refine⟨kA (by kernel_rfl),_,_,_,?_,.refl _,hr⟩
 simp only[kD,kE]at hc
 have hone:({data := #[(1:UInt8)]}:ByteArray)=nb 1:=nb_onev.symm
 rw[e71]
 simp only[bv_nb',bv_nb2,one_bv,one_bv2,hone,decide_true,Bool.true_and]
 by_cases h0:0<=n
 ·rw[k5 (kF h0)]
  repeat rw[k5 (by simp only[kD,kE];omega)]
  rw[k7,mkz_int]
  show some (Res.ret (.q (((n.toNat:Nat):Int):Rat) 64) [])=_
  rw[Int.toNat_of_nonneg h0]
 ·rw[k6 (kG h0)]
  repeat rw[k5 (by simp only[kD,kE];omega)]
  rw[k7,mkz_int]
  show some (Res.ret (.q ((-(((0-(n+1)).toNat+1:Nat):Int):Int):Rat) 64) [])=_
  rw[show -(((0-(n+1)).toNat+1:Nat):Int)=n by omega]
end
section
namespace Prof
def mn (s t:Rat):Rat:=if s<=t then s else t
def ix (n k:Nat):Nat:=min k (n+1-k)
def cap (s a:Rat) (n k:Nat):Rat:=mn s (a*(ix n k:Nat))
def cov (s a:Rat) (n:Nat):Nat->Rat
 | 0=>0
 | k+1=>cov s a n k+cap s a n (k+1)

variable {s a:Rat} {n:Nat}
def cover (s a:Rat) (n:Nat):Rat:=cov s a n n
def val (c s a:Rat) (n k:Nat):Rat:=c*cap s a n k
section
variable {c:Rat} (hc0:0<=c) (hc1:c<=1) (hs:0<=s) (ha:0<=a)
end
end Prof
end
section
open Go Tryz
set_option maxRecDepth 100000
variable {G:World->(Nat->Prop)->Prop} (hG:GOk G)
theorem enter29:Enters prog 54 f54 (qd f54):=⟨func54,by kernel_rfl,rfl⟩
theorem e29 (x y:Rat) (n m:Nat):evF prog [(25,s21),(102,s83)] [] {} f54 [.q x n,.q y m] [] ql=
 Tr.br (s64 y) (.br (s32 x&&s32 (-y)&&decide (x.num.natAbs*(-y).den<72057594037927936)&&decide ((-y).num.natAbs*x.den<72057594037927936)) (.ok (.ret (.q (x + -y) 64) [])) (.no 1)) (.no 1):=by kernel_rfl
def s29:Spec:=fun args hs K=>match args,hs with
 | [.q x _,.q y _],[]=>.br (s32 x&&s32 y&&decide (x.num.natAbs*y.den<72057594037927936)&&decide (y.num.natAbs*x.den<72057594037927936)) (K (.q (x-y) 64) []) (.no 1)
 | _,_=>.no 1
theorem s32_s64 {x:Rat} (h:s32 x=true):s64 x=true:=s32_64 h
include hG in
theorem ok29:qc prog G 54 s29:=by
 refine qq hG (.cons (ok21 hG) (.cons (ok83 hG) .nil)) mix enter29 (L:=[]) (pol:={}) fun args hs K x h => ?_
 unfold s29 at h
 split at h
 case h_2=>cases h
 rename_i x n y m
 obtain⟨hc,hr⟩:=k8 h
 refine⟨kA (by kernel_rfl),_,_,_,?_,.refl _,hr⟩
 have hc':=hc
 simp only[kD]at hc'
 rw[e29,k5 (s32_s64 hc'.1.1.2),k5 (by rw[s32_neg,neg_natAbs,neg_den];exact hc),k7,Rat.sub_eq_add_neg]
theorem enter80:Enters prog 121 f121 (qd f121):=⟨func121,by kernel_rfl,rfl⟩
theorem enter86:Enters prog 122 f122 (qd f122):=⟨func122,by kernel_rfl,rfl⟩
def mx (x y:Rat):Rat:=if y<=x then x else y
theorem enter24:Enters prog 28 f28 (qd f28):=⟨func28,by kernel_rfl,rfl⟩
theorem e24 (x n:Int):evF prog [] [] {} f28 [.i .i64 x,.i .i64 n] [] ql=
 Tr.br (!decide (n=0)) (.br (decide (x.tmod n<0)) (.br (ib (x.tmod n+n)) (.ok (.ret (.i .i64 (x.tmod n+n)) [])) (.no 4002)) (.ok (.ret (.i .i64 (x.tmod n)) []))) (.no 2002):=by kernel_rfl

def s24:Spec:=fun args hs K=>match args,hs with
 | [.i .i64 x,.i .i64 n],[]=>.br (decide (0<n)&&decide (n<=4294967296)) (K (.i .i64 (x%n)) []) (.no 1)
 | _,_=>.no 1
include hG in
theorem ok24:qc prog G 28 s24:=by
 refine qq hG .nil mix enter24 (L:=[]) (pol:={}) fun args hs K x h => ?_
 unfold s24 at h
 split at h
 case h_2=>cases h
 rename_i x n
 obtain⟨hc,hr⟩:=k8 h
 refine⟨kA (by kernel_rfl),_,_,_,?_,.refl _,hr⟩
 simp only[kD,kE]at hc
 have h1:=Int.tmod_lt_of_pos x hc.1
 have h2:=Int.emod_nonneg x (show n≠0 by omega)
 have h3:=Int.emod_lt_of_pos x hc.1
 have h4:x.tmod n=x%n\/x.tmod n=x%n-n:=by
  rw[Int.tmod_eq_emod]
  split
  ·exact .inl (by simp)
  ·refine .inr ?_
   rw[Int.natAbs_of_nonneg (by omega)]
 rw[e24,k5 (by rw[kK,kM];omega)]
 by_cases h:x.tmod n<0
 ·rw[k5 (kF h),k5 (by simp only[kD,kE];omega),k7,show x.tmod n+n=x%n by omega]
 ·rw[k6 (kG h),k7,show x.tmod n=x%n by omega]
end
end Go.Proofs.YteggojnjinealaaGreatDoor.PE
