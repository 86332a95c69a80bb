/-
  Part 2 of the proof: the evaluator and what it is worth. Conditions: those of the theorems below.
-/
import Derived.Test.YteggojnjinealaaGreatDoorSf1
import Derived.Laws.BitsAllLaws
import Derived.Laws.Bits64
import Derived.Laws.BitsLemmas
import Derived.Test.YteggojnjinealaaGreatDoorProg
import GoSem.Extern.BytealgCompare
set_option linter.all false
noncomputable section
namespace Go.Proofs.YteggojnjinealaaGreatDoor.PE
section
open Go
theorem testBit_one_shl (n j:Nat):Nat.testBit (1 <<< n) j=decide (j=n):=by
 rw[Nat.shiftLeft_eq,Nat.one_mul,Nat.testBit_two_pow]
 by_cases h:n=j
 ·subst h;simp
 ·simp[h,Ne.symm h]
theorem rowOf_spec {tab:List Nat}:∀ (es:List Edge) (m m':Nat),rowOf tab es m=some m'->
  (∀ e∈es,Region.binds .any e=true->e.on<tab.length)/\
  (∀ j,Nat.testBit m' j=true->Nat.testBit m j=true\/∃ e∈es,Region.binds .any e=true/\(j=e.on\/Nat.testBit (tab.getD e.on 0) j=true))
 | [],m,m',h=>by simp[rowOf]at h;subst h;exact⟨fun e he=>(by cases he),fun j hj=>.inl hj⟩
 | e::es,m,m',h=>by
  simp only[rowOf]at h
  split at h
  ·rename_i hb
   split at h
   case h_2=>cases h
   rename_i x hx
   obtain⟨h1,h2⟩:=rowOf_spec es _ _ h
   refine⟨fun e' he hb' => ?_,fun j hj => ?_⟩
   ·rcases List.mem_cons.1 he with rfl|he
    ·exact(List.getElem?_eq_some_iff.1 hx).1
    ·exact h1 e' he hb'
   ·rcases h2 j hj with h3|⟨e',h4,h5,h6⟩
    ·rw[Nat.testBit_or,Nat.testBit_or,testBit_one_shl]at h3
     simp only[Bool.or_eq_true,decide_eq_true_eq]at h3
     rcases h3 with (h3|h3)|h3
     ·exact .inl h3
     ·exact .inr ⟨e,by simp,hb,.inr (by simp[List.getD_eq_getElem?_getD,hx,h3])⟩
     ·exact .inr ⟨e,by simp,hb,.inl h3⟩
    ·exact .inr ⟨e',by simp[h4],h5,h6⟩
  ·rename_i hb
   obtain⟨h1,h2⟩:=rowOf_spec es _ _ h
   refine⟨fun e' he hb' => ?_,fun j hj => ?_⟩
   ·rcases List.mem_cons.1 he with rfl|he
    ·rw[hb]at hb';cases hb'
    ·exact h1 e' he hb'
   ·rcases h2 j hj with h3|⟨e',h4,h5,h6⟩
    ·exact .inl h3
    ·exact .inr ⟨e',by simp[h4],h5,h6⟩
theorem apartB_spec {all:Array Oper} {o:Oper} {row:Nat}:∀ (l:List Oper) (j:Nat),apartB all o row j l=true->∀ i x,l[i]? = some x->Nat.testBit row (j+i)=true\/Oper.apart all x o=true
 | [],_,_,i,x,h=>by simp at h
 | y::l,j,h,i,x,hx=>by
  simp only[apartB,Bool.and_eq_true,Bool.or_eq_true]at h
  cases i with
  | zero=>simp at hx;subst hx;exact h.1
  | succ i=>
   have:=apartB_spec l (j+1) h.2 i x (by simpa using hx)
   rwa[show j+1+i=j+(i+1) by omega]at this
structure RowsOK (all:Array Oper) (rows:List Nat):Prop where
 edge:∀ (i:Nat) (o:Oper),all[i]? = some o->∀ e∈o.after,Region.binds .any e=true->e.on<i
 up:∀ (i:Nat) (o:Oper) (j:Nat),all[i]? = some o->Nat.testBit (rows.getD i 0) j=true->∃ e∈o.after,Region.binds .any e=true/\(j=e.on\/Nat.testBit (rows.getD e.on 0) j=true)
 apart:∀ (i j:Nat) (o x:Oper),all[i]? = some o->all[j]? = some x->j<i->Nat.testBit (rows.getD i 0) j=true\/Oper.apart all x o=true
theorem rowsOf_spec {all:Array Oper}:∀ (l before:List Oper) (tab rows:List Nat),rowsOf all l before tab=some rows->before.length=tab.length->
  (∀ i,i<tab.length->rows.getD i 0=tab.getD i 0)/\
  ∀ (k:Nat) (o:Oper),l[k]? = some o->(∀ e∈o.after,Region.binds .any e=true->e.on<tab.length+k)/\
   (∀ j,Nat.testBit (rows.getD (tab.length+k) 0) j=true->∃ e∈o.after,Region.binds .any e=true/\(j=e.on\/Nat.testBit (rows.getD e.on 0) j=true))/\
   (∀ j x,(before++l)[j]? = some x->j<tab.length+k->Nat.testBit (rows.getD (tab.length+k) 0) j=true\/Oper.apart all x o=true)
 | [],before,tab,rows,h,hl=>by simp[rowsOf]at h;subst h;exact⟨fun _ _=>rfl,fun k o h=>by simp at h⟩
 | o::l,before,tab,rows,h,hl=>by
  simp only[rowsOf]at h
  split at h
  case h_2=>cases h
  rename_i m hm
  split at h
  case h_2=>cases h
  rename_i hap
  obtain⟨h1,h2⟩:=rowsOf_spec l (before++[o]) (tab++[m]) rows h (by simp[hl])
  have hold:∀ i,i<tab.length->rows.getD i 0=tab.getD i 0:=fun i hi=>by
   rw[h1 i (by simp;omega)]
   simp[List.getD_eq_getElem?_getD,List.getElem?_append_left hi]
  have hnew:rows.getD tab.length 0=m:=by
   rw[h1 tab.length (by simp)]
   simp[List.getD_eq_getElem?_getD]
  refine⟨hold,fun k o' hk => ?_⟩
  cases k with
  | zero=>
   simp at hk;subst hk
   obtain⟨h3,h4⟩:=rowOf_spec _ _ _ hm
   refine⟨fun e he hb=>h3 e (by simpa using he) hb,fun j hj => ?_,fun j x hx hlt => ?_⟩
   ·rw[Nat.add_zero,hnew]at hj
    rcases h4 j hj with h5|⟨e,h5,h6,h7⟩
    ·simp at h5
    ·exact⟨e,by simpa using h5,h6,by rw[hold e.on (h3 e h5 h6)];exact h7⟩
   ·rw[Nat.add_zero]at hlt ⊢
    rw[hnew]
    rw[List.getElem?_append_left (by omega)]at hx
    have:=apartB_spec _ _ hap j x hx
    rwa[Nat.zero_add]at this
  | succ k=>
   simp at hk
   obtain⟨h3,h4,h5⟩:=h2 k o' hk
   rw[List.length_append,List.length_singleton,show tab.length+1+k=tab.length+(k+1) by omega]at h3 h4 h5
   refine⟨h3,h4,fun j x hx hlt=>h5 j x (by simpa using hx) hlt⟩
theorem rowsOK {all:Array Oper} {rows:List Nat} (h:rowsOf all all.toList [] []=some rows):RowsOK all rows:=by
 obtain⟨_,h2⟩:=rowsOf_spec _ _ _ _ h rfl
 simp only[List.length_nil,Nat.zero_add,List.nil_append]at h2
 refine⟨fun i o ho=>(h2 i o (by simpa using ho)).1,fun i o j ho=>(h2 i o (by simpa using ho)).2.1 j,fun i j o x ho hx hlt=>(h2 i o (by simpa using ho)).2.2 j x (by simpa using hx) hlt⟩

section
variable {P:Program} {G:World->(Nat->Prop)->Prop} {E:Env} {ops:Array Oper} {s0 sN:St} {rs:List RecP} {rows:List Nat}
theorem count_set {l:List Bool}:∀ {i:Nat},l[i]? = some false->(l.set i true).count false+1=l.count false:=by
 induction l with
 | nil=>intro i h;simp at h
 | cons b l ih=>
  intro i h
  cases i with
  | zero=>simp at h;subst h;simp
  | succ i=>
   simp at h
   have:=ih h
   simp only[List.set_cons_succ,List.count_cons]
   omega
theorem run_any (hG:GOk G) (hR:RowsOK ops rows) (h:RunOK P G ops (fun j i=>Nat.testBit (rows.getD i 0) j=true) s0 rs sN) (hn:rs.length=ops.size) (hm:E.m<=s0.h.length)
  {Q:Exit->Act->World->Prop} (hQ:∀ a w,SInv G E sN a w->Q .normal a w) {a:Act} {w:World} (hi:SInv G E s0 a w):
  wpAny P .any ops Q ops.size (Array.replicate ops.size false) a w:=by
 have allIn:∀ (listed:Array Bool),listed.size=ops.size->Region.ready .any ops listed=[]->∀ j,j<ops.size->listed.getD j false=true:=by
  intro listed hs hr j
  induction j using Nat.strongRecOn with
  | _ j ih=>
   intro hj
   cases hb:listed.getD j false with
   | true=>rfl
   | false=>
    exfalso
    have ho:ops[j]? = some ops[j]:=Array.getElem?_eq_getElem hj
    have:j∈Region.ready .any ops listed:=by
     refine mem_ready.2 ⟨?_,ops[j],ho,fun e he hbd => ?_⟩
     ·have hj':j<listed.size:=by omega
      simp only[Array.getD,hj',dif_pos]at hb ⊢
      exact hb
     ·have:=hR.edge j _ ho e he hbd
      exact ih e.on this (by omega)
    rw[hr]at this
    cases this
 have key:∀ (fuel:Nat) (listed:Array Bool) (a:Act) (w:World),listed.size=ops.size->listed.toList.count false<=fuel->
   (∀ i j,listed.getD i false=true->Nat.testBit (rows.getD i 0) j=true->listed.getD j false=true)->
   XInv G E s0 rs (fun j=>listed.getD j false) a w->wpAny P .any ops Q fuel listed a w:=by
  intro fuel
  induction fuel with
  | zero=>
   intro listed a w hs hc hcl hx
   have hall:∀ j,j<ops.size->listed.getD j false=true:=by
    intro j hj
    have hj':j<listed.size:=by omega
    simp only[Array.getD,hj',dif_pos]
    cases hb:listed[j]with
    | true=>exact hb
    | false=>
     have:false∈listed.toList:=by
      have:=Array.getElem_mem hj'
      rw[hb]at this
      simpa using this
     have:=List.count_pos_iff.2 this
     omega
   refine⟨?_,hQ a w (XInv.all h (fun j hj=>hall j (by omega)) hx)⟩
   cases hr:Region.ready .any ops listed with
   | nil=>rfl
   | cons x xs=>
    have hmem:x∈Region.ready .any ops listed:=by rw[hr];simp
    obtain⟨h1,o,h2,_⟩:=mem_ready.1 hmem
    have hlt:=(Array.getElem?_eq_some_iff.1 h2).1
    have:=hall x hlt
    have hx':x<listed.size:=by omega
    simp only[Array.getD,hx',dif_pos]at this h1
    rw[this]at h1;cases h1
  | succ fuel ih=>
   intro listed a w hs hc hcl hx
   refine⟨fun hr=>hQ a w (XInv.all h (fun j hj=>allIn listed hs hr j (by omega)) hx),fun i hi => ?_⟩
   obtain⟨h1,o,h2,h3⟩:=mem_ready.1 hi
   have hlt:=(Array.getElem?_eq_some_iff.1 h2).1
   have hlt':i<listed.size:=by omega
   have hif:listed[i]? = some false:=by
    simp only[Array.getD,hlt',dif_pos]at h1
    rw[Array.getElem?_eq_getElem hlt',<-h1];rfl
   have hXi:listed.getD i false=false:=by
    simp only[Array.getD_eq_getD_getElem?,hif,Option.getD_some]
   obtain⟨r,hr⟩:=At.ex (rs:=rs) (i:=i) (by omega)
   have before:∀ j,Nat.testBit (rows.getD i 0) j=true->listed.getD j false=true:=by
    intro j hj
    obtain⟨e,he,hb,hor⟩:=hR.up i o j h2 hj
    rcases hor with rfl|hor
    ·exact h3 e he hb
    ·exact hcl e.on j (h3 e he hb) hor
   have hset:∀ j,(listed.setIfInBounds i true).getD j false=setX (fun j=>listed.getD j false) i j:=by
    intro j
    by_cases hj:j=i
    ·subst hj;rw[setX_eq];simp[Array.getD_eq_getD_getElem?,hlt']
    ·rw[setX_ne hj];simp[Array.getD_eq_getD_getElem?,Ne.symm hj]
   refine wpOp_mono (fun a w hx=>ih _ a w (by simpa using hs) ?_ (fun i' j hi' hj => ?_) ?_)
    (step_any hG h hr hXi hm (fun j _ hj=>before j hj) (fun j hlt hj => ?_) hx)
   ·have:=count_set (l:=listed.toList) (i:=i) (by simpa using hif)
    simp only[Array.toList_setIfInBounds]
    omega
   ·rw[hset]at hi' ⊢
    by_cases hii:i'=i
    ·subst hii
     have:=before j hj
     simp only[setX]
     simp[this]
    ·rw[setX_ne hii]at hi'
     have:=hcl i' j hi' hj
     simp only[setX]
     simp[this]
   ·have:(fun j=>(listed.setIfInBounds i true).getD j false)=setX (fun j=>listed.getD j false) i:=funext hset
    rw[this];exact hx
   ·cases hb:listed.getD j false with
    | false=>rfl
    | true=>
     have:=hcl j i hb hj
     rw[hXi]at this;cases this
 refine key _ _ a w (by simp) (by simp) (fun i j hi _ => ?_) ?_
 ·exfalso
  by_cases hi':i<ops.size
  ·simp[Array.getD,hi']at hi
  ·simp[Array.getD,hi']at hi
 ·have:(fun j=>(Array.replicate ops.size false).getD j false)=fun _=>false:=by
   funext j
   by_cases hj:j<ops.size<;>simp[Array.getD,hj]
  rw[this]
  exact XInv.none hi
theorem SInv.drawn (hG:GOk G) {s:St} {a:Act} {w:World} (h:SInv G E s a w):SInv G E s a {w with drawn:=w.drawn+1}:=by
 obtain⟨S,μ,iv⟩:=h
 have hm:Mono w {w with drawn:=w.drawn+1} S S:=⟨fun _ h=>h,fun _ _ _=>rfl⟩
 refine⟨S,μ,hG _ _ _ _ hm iv.g,iv.defers,iv.len,fun k=>(iv.rep k).mono hm (MuLe.refl _),⟨fun b k hb => ?_,iv.hrel.sep,iv.hrel.inj,iv.hrel.lt⟩,iv.free,
  ⟨iv.link.os,iv.link.tape,iv.link.output,iv.link.size,iv.link.old,iv.link.subS,iv.link.newS,iv.link.mu,iv.link.place⟩⟩
 obtain⟨a,z,h1,h2⟩:=iv.hrel.blk b k hb
 exact⟨a,z,h1,h2.mono hm (MuLe.refl _) rfl⟩
end
end
section
open Go
theorem PEq.bl {x:Bool} (h:x=true):PEq (.bl true) (.b x):=by
 subst h
 intro w S μ v
 constructor
 ·intro h
  cases h with
  | cell _ _ _ _ h=>cases h;exact .cell _ _ _ rfl (.b _ _)
  | agg _ _ _ hv=>cases hv
 ·intro h
  cases h with
  | cell _ _ _ _ h=>cases h;exact .cell _ _ _ rfl (.bl _ _)
  | agg _ _ _ hv=>cases hv
theorem PEq.bl' {x:Bool} (h:x=false):PEq (.bl false) (.b x):=by
 subst h
 intro w S μ v
 constructor
 ·intro h
  cases h with
  | cell _ _ _ _ h=>cases h;exact .cell _ _ _ rfl (.b _ _)
  | agg _ _ _ hv=>cases hv
 ·intro h
  cases h with
  | cell _ _ _ _ h=>cases h;exact .cell _ _ _ rfl (.bl _ _)
  | agg _ _ _ hv=>cases hv
theorem getD_ge {t:List PV} {g:Nat} (h:¬ g<t.length):t.getD g .any=.any:=by
 rw[List.getD_eq_getElem?_getD,List.getElem?_eq_none (by omega)];rfl
theorem LEq.set {t:List PV} {g:Nat} {u:PV} (h:PEq u (t.getD g .any)):LEq (t.set g u) t:=by
 refine⟨by simp,fun k => ?_⟩
 by_cases hk:g=k
 ·subst hk
  by_cases hl:g<t.length
  ·have:(t.set g u).getD g .any=u:=by simp[List.getD_eq_getElem?_getD,hl]
   rw[this];exact h
  ·have h1:(t.set g u).getD g .any=.any:=getD_ge (by simpa using hl)
   have h2:t.getD g .any=.any:=getD_ge hl
   rw[h1,h2];exact .refl _
 ·have:(t.set g u).getD k .any=t.getD k .any:=by simp[List.getD_eq_getElem?_getD,List.getElem?_set_ne hk]
  rw[this];exact .refl _
theorem set_self {t:List PV} {g:Nat} {u:PV} (h:t.getD g .any ≠ .any):(t.set g u).getD g .any=u:=by
 by_cases hl:g<t.length
 ·simp[List.getD_eq_getElem?_getD,hl]
 ·exact absurd (getD_ge hl) h

theorem hget_append {h:qT} {nbs:List Blk} (b:Nat):hget (h++nbs.map some) b=if h.length<=b/\b<h.length+nbs.length then nbs[b-h.length]? else hget h b:=by
 unfold hget
 by_cases hb:b<h.length
 ·rw[List.getElem?_append_left hb,if_neg (by omega)]
 ·rw[List.getElem?_append_right (by omega),List.getElem?_map]
  by_cases hb':b<h.length+nbs.length
  ·rw[if_pos ⟨by omega,hb'⟩]
   cases nbs[b-h.length]? <;> rfl
  ·rw[if_neg (by omega),List.getElem?_eq_none (by omega:nbs.length<=b-h.length),List.getElem?_eq_none (by omega:h.length<=b)]
   rfl
theorem putW_length:∀ (ws:Ws) (h:qT),(putW h ws).length=h.length
 | [],_=>rfl
 | (b,k)::ws,h=>by simp[putW,putW_length ws]
theorem hget_set {h:qT} {c:Nat} {k:Option Blk} (hc:c<h.length) (b:Nat):hget (h.set c k) b=if b=c then k else hget h b:=by
 unfold hget
 by_cases hb:b=c
 ·subst hb
  rw[List.getElem?_set_self hc,if_pos rfl]
  cases k<;>rfl
 ·rw[List.getElem?_set_ne (Ne.symm hb),if_neg hb]
theorem hget_putW:∀ (ws:Ws) (h:qT),(∀ b k,(b,k)∈ws->b<h.length)->(∀ b k k',(b,k)∈ws->(b,k')∈ws->k=k')->∀ b,hget (putW h ws) b=match wlook ws b with|some k=>k|none=>hget h b
 | [],h,_,_,b=>rfl
 | (c,k)::ws,h,hl,hnd,b=>by
  simp only[putW]
  rw[hget_putW ws _ (fun b k hb=>by simp;exact hl b k (by simp[hb])) (fun b k k' h1 h2=>hnd b k k' (by simp[h1]) (by simp[h2])) b]
  have hc:=hl c k (by simp)
  by_cases hbc:c=b
  ·subst hbc
   simp only[wlook,if_true]
   cases hw:wlook ws c with
   | none=>simp only;rw[hget_set hc,if_pos rfl]
   | some k'=>simp only;exact hnd c k' k (by simp[wlook_mem hw]) (by simp)
  ·simp only[wlook,if_neg hbc]
   cases hw:wlook ws b with
   | none=>simp only;rw[hget_set hc,if_neg (Ne.symm hbc)]
   | some k'=>rfl
theorem hget_putE {s:St} {dst:Option Nat} {e:Eff} (hl:∀ b k,(b,k)∈e.2.1->b<s.h.length) (hnd:∀ b k k',(b,k)∈e.2.1->(b,k')∈e.2.1->k=k') (b:Nat):
  hget (putE s dst e).h b=effH (hget s.h) s.h.length e b:=by
 simp only[putE]
 rw[hget_putW _ _ (fun b k hb=>by have:=hl b k hb;simp;omega) hnd]
 simp only[effH]
 cases wlook e.2.1 b with
 | some k=>rfl
 | none=>simp only;exact hget_append b
theorem mask_hget:∀ (u:List Nat) (h:qT) (n b:Nat) (k:Blk),hget (mask u n h) b=some k->hget h b=some k/\u.contains (n+b)=true
 | _,[],_,b,k,hk=>by simp[mask,hget]at hk
 | u,x::h,n,0,k,hk=>by
  simp only[mask]at hk
  cases hc:u.contains n with
  | true=>rw[hc]at hk;exact⟨hk,rfl⟩
  | false=>rw[hc]at hk;simp[hget]at hk
 | u,x::h,n,b+1,k,hk=>by
  simp only[mask]at hk
  have hk':hget (mask u (n+1) h) b=some k:=by simpa [hget]using hk
  obtain⟨h1,h2⟩:=mask_hget u h (n+1) b k hk'
  exact⟨by simpa [hget]using h1,by rwa[show n+1+b=n+(b+1) by omega]at h2⟩
theorem disj_spec {a b:List Nat} (h:disj a b=true) {x:Nat} (hx:x∈a):x ∉ b:=by
 have:=List.all_eq_true.1 h x hx
 simpa using this
theorem upto_mem {a n x:Nat} (h:a<=x/\x<a+n):x∈upto a n:=by
 have:=upto_get n a (x-a) (by omega)
 rw[show a+(x-a)=x by omega]at this
 exact List.mem_of_getElem? this

def RcOK:List Rc->List RecP->Prop
 | [],[]=>True
 | c::cs,r::rs=>((∀ b,r.u b->b∈c.u)/\(∀ b,r.T b->b∈c.wr))/\RcOK cs rs
 | _,_=>False
theorem RcOK.len:∀ {cs:List Rc} {rs:List RecP},RcOK cs rs->cs.length=rs.length
 | [],[],_=>rfl
 | _::_,_::_,h=>by simp[RcOK.len h.2]
 | [],_::_,h=>h.elim
 | _::_,[],h=>h.elim
theorem clash_spec {row:Nat} {u wr:List Nat}:∀ {cs:List Rc} {rs:List RecP},RcOK cs rs->clash row u wr cs=true->∀ j r',At rs j r'->
  Nat.testBit row j=true\/∀ b,(r'.T b->b ∉ u)/\(b∈wr->¬ r'.u b)/\(b∈wr->¬ r'.T b)
 | [],[],_,_,j,r',h=>h.elim
 | c::cs,r::rs,h,hc,j,r',ha=>by
  simp only[clash,Bool.and_eq_true,Bool.or_eq_true]at hc
  rcases ha with ⟨h1,h2⟩|ha
  ·subst h1;subst h2
   rw[h.2.len]at hc
   rcases hc.1 with h3|⟨⟨h3,h4⟩,h5⟩
   ·exact .inl h3
   ·exact .inr fun b=>⟨fun hb=>disj_spec h3 (h.1.2 b hb),fun hb hu=>disj_spec h4 hb (h.1.1 b hu),fun hb hT=>disj_spec h5 hb (h.1.2 b hT)⟩
  ·exact clash_spec h.2 hc.2 j r' ha
 | [],_::_,h,_,_,_,_=>h.elim
 | _::_,[],h,_,_,_,_=>h.elim

def OrdOf:Option (List Nat)->Nat->Nat->Prop
 | none=>fun _ _=>True
 | some rows=>fun j i=>Nat.testBit (rows.getD i 0) j=true
section
variable {P:Program} {G:World->(Nat->Prop)->Prop} {ops:Array Oper} {s0:St} {O:Orc} {pol:Pol} {w0:Nat} {K:St->Tr} {x:Res}
theorem evOps_ok (hG:GOk G) (hO:OrcOK P G O) (rowsAll:Option (List Nat)) (hrows:∀ r,rowsAll=some r->RowsOK ops r):∀ (n:Nat) (d:Option (List Nat)) (rcs:List Rc) (l:List Oper) (s:St) (rs:List RecP),
  (evOps P O pol ops w0 K n d rcs l s).run=some x->RunOK P G ops (OrdOf rowsAll) s0 rs s->l=ops.toList.drop rs.length->d=rowsAll.map (·.drop rs.length)->(rowsAll≠none->RcOK rcs rs)->
  ∃ rs' sN,RunOK P G ops (OrdOf rowsAll) s0 rs' sN/\rs'.length=ops.size/\(K sN).run=some x
 | 0,_,_,_,_,_,h,_,_,_,_=>by simp[evOps,Tr.run]at h
 | n+1,d,rcs,[],s,rs,h,hrun,hl,hd,hrc=>by
  simp only[evOps]at h
  refine⟨rs,s,hrun,?_,h⟩
  have h1:=congrArg List.length hl
  simp at h1
  have h2:rs.length<=ops.size:=by
   cases rs with
   | nil=>simp
   | cons r rs=>
    cases hrun with
    | cons _ s1 _ _ _ hs _=>
     have:=(Array.getElem?_eq_some_iff.1 hs.op).1
     simp;omega
  omega
 | n+1,d,rcs,o::r,s,rs,h,hrun,hl,hd,hrc=>by
  have hop:ops[rs.length]? = some o:=by
   have:(ops.toList.drop rs.length)[0]? = some o:=by rw[<-hl];rfl
   simpa using this
  have hr:r=ops.toList.drop (rs.length+1):=by
   have:=congrArg List.tail hl
   simpa [List.tail_drop]using this
  -- the operation is run
  have go:∀ (t:List PV),LEq t s.t->Wn ops t o true->
    ((match (generalizing:=false) d with
     | none=>popO P O pol.wr (ownD pol o.dst) t s.h.length s.h o.op (w0+n) fun e=>evOps P O pol ops w0 K n none [] r (putE {s with t:=t} o.dst e)
     | some rows=>popO P O pol.wr (ownD pol o.dst) t s.h.length (mask (usesO P t s.h o.op) 0 s.h) o.op (w0+n) fun e=>
      match clash (rows.headD 0) (usesO P t s.h o.op) (touch s.h.length e) rcs with
      | true=>evOps P O pol ops w0 K n (some rows.tail) (⟨usesO P t s.h o.op,touch s.h.length e⟩::rcs) r (putE {s with t:=t} o.dst e)
      | false=>.no (w0+n)):Tr).run=some x->
    ∃ rs' sN,RunOK P G ops (OrdOf rowsAll) s0 rs' sN/\rs'.length=ops.size/\(K sN).run=some x:=by
   intro t ht hw hrun2
   cases hra:rowsAll with
   | none=>
    rw[hra]at hd
    simp at hd;subst hd
    simp only at hrun2
    obtain⟨e,h1,h2,h3⟩:=popO_ok hG hO hrun2
    rw[<-hra]
    refine evOps_ok hG hO rowsAll hrows n none [] r _ (⟨o,s.h.length,e,t,hget s.h,fun _=>True,true⟩::rs) h3
     (.cons rs s _ _ hrun ⟨hop,ht,rfl,fun b k hb=>⟨hb,trivial⟩,.inl ⟨hw,h1,h2⟩,rfl,by simp[putE,putW_length],fun b=>hget_putE (fun b k hb => ?_) h2.hnd b⟩ (fun j r' hj=>by rw[hra];exact .inl trivial))
     (by simpa using hr) (by rw[hra];rfl) (fun hne=>absurd hra hne)
    obtain⟨kb,hkb⟩:=h2.hl b k hb
    exact hget_lt hkb
   | some rows=>
    rw[hra]at hd
    simp at hd;subst hd
    simp only at hrun2
    obtain⟨e,h1,h2,h3⟩:=popO_ok hG hO hrun2
    split at h3
    case h_2=>cases h3
    rename_i hcl
    have hrc':=hrc (by rw[hra];simp)
    have hlive:∀ b k,(b,k)∈e.2.1->b<s.h.length:=fun b k hb=>by
     obtain⟨kb,hkb⟩:=h2.hl b k hb
     exact hget_lt (mask_hget _ _ _ _ _ hkb).1
    have hT:∀ b,(∃ k,(b,k)∈e.2.1)\/(s.h.length<=b/\b<s.h.length+e.2.2.length)->b∈touch s.h.length e:=by
     intro b hb
     unfold touch
     rcases hb with ⟨k,hk⟩|hb
     ·exact List.mem_append.2 (.inl (List.mem_map.2 ⟨_,hk,rfl⟩))
     ·exact List.mem_append.2 (.inr (upto_mem hb))
    rw[<-hra]
    refine evOps_ok hG hO rowsAll hrows n _ _ r _ (⟨o,s.h.length,e,t,hget (mask (usesO P t s.h o.op) 0 s.h),fun b=>b∈usesO P t s.h o.op,true⟩::rs) h3
     (.cons rs s _ _ hrun ⟨hop,ht,rfl,fun b k hb => ?_,.inl ⟨hw,h1,h2⟩,rfl,by simp[putE,putW_length],fun b=>hget_putE (s:={s with t:=t}) (dst:=o.dst) hlive h2.hnd b⟩ (fun j r' hj => ?_))
     (by simpa using hr) (by rw[hra];simp[List.tail_drop]) (fun _=>⟨⟨fun b hb=>hb,fun b hb=>hT b hb⟩,hrc'⟩)
    ·obtain⟨h4,h5⟩:=mask_hget _ _ _ _ _ hb
     exact⟨h4,by simpa using h5⟩
    ·have hj':=hj.lt
     obtain⟨_,s1,s1',_,hs1,_⟩:=hrun.step hj
     have hhead:(rows.drop rs.length).headD 0=rows.getD rs.length 0:=by
      rw[List.headD_eq_head?_getD,List.head?_drop,List.getD_eq_getElem?_getD]
     rw[hhead]at hcl
     rw[hra]
     rcases(hrows rows hra).apart _ _ _ _ hop hs1.op hj' with h4|h4
     ·exact .inl h4
     ·rcases clash_spec hrc' hcl j r' hj with h5|h5
      ·exact .inl h5
      ·exact .inr ⟨h4,fun b=>⟨(h5 b).1,fun hb=>(h5 b).2.1 (hT b hb),fun hb=>(h5 b).2.2 (hT b hb)⟩⟩
  have skip:∀ (t:List PV),LEq t s.t->Wn ops t o false->
    ((match (generalizing:=false) d with
     | none=>evOps P O pol ops w0 K n none [] r {s with t:=putT t o.dst .und}
     | some rows=>evOps P O pol ops w0 K n (some rows.tail) (⟨[],[]⟩::rcs) r {s with t:=putT t o.dst .und}):Tr).run=some x->
    ∃ rs' sN,RunOK P G ops (OrdOf rowsAll) s0 rs' sN/\rs'.length=ops.size/\(K sN).run=some x:=by
   intro t ht hw hrun2
   have hstep:StepOK P G ops rs.length s ⟨o,s.h.length,(.und,[],[]),t,fun _=>none,fun _=>False,false⟩ {s with t:=putT t o.dst .und}:=
    ⟨hop,ht,rfl,fun b k hb=>by simp at hb,.inr ⟨hw,rfl⟩,rfl,rfl,fun b=>by simp only[effH,wlook];rw[if_neg (by simp)]⟩
   cases hra:rowsAll with
   | none=>
    rw[hra]at hd
    simp at hd;subst hd
    simp only at hrun2
    rw[<-hra]
    exact evOps_ok hG hO rowsAll hrows n none [] r _ (_::rs) hrun2 (.cons rs s _ _ hrun hstep (fun j r' hj=>by rw[hra];exact .inl trivial))
     (by simpa using hr) (by rw[hra];rfl) (fun hne=>absurd hra hne)
   | some rows=>
    rw[hra]at hd
    simp at hd;subst hd
    simp only at hrun2
    have hrc':=hrc (by rw[hra];simp)
    rw[<-hra]
    have noT:∀ b,¬ (RecP.T ⟨o,s.h.length,(.und,[],[]),t,fun _=>none,fun _=>False,false⟩ b):=by
     intro b hb
     rcases hb with ⟨k,hk⟩|hb
     ·simp at hk
     ·simp at hb;omega
    refine evOps_ok hG hO rowsAll hrows n _ _ r _ (_::rs) hrun2 (.cons rs s _ _ hrun hstep (fun j r' hj => ?_))
     (by simpa using hr) (by rw[hra];simp[List.tail_drop]) (fun _=>⟨⟨fun b hb=>hb.elim,fun b hb=>absurd hb (noT b)⟩,hrc'⟩)
    obtain⟨_,s1,s1',_,hs1,_⟩:=hrun.step hj
    rw[hra]
    rcases(hrows rows hra).apart _ _ _ _ hop hs1.op hj.lt with h4|h4
    ·exact .inl h4
    ·exact .inr ⟨h4,fun b=>⟨fun _ h=>h,fun hb=>absurd hb (noT b),fun hb=>absurd hb (noT b)⟩⟩
  simp only[evOps]at h
  have wn:∀ (t:List PV) (b:Bool) (j g:Nat) (w:Bool),o.guard=some (j,w)->(ops[j]?).bind (·.dst)=some g->
    (∀ (w0:World) (S:Nat->Prop) (μ:Mu) (x:Value),RepV w0 S μ (t.getD g .any) x->(boolOf x==some w)=b)->Wn ops t o b:=by
   intro t b j g w hg hgd hx
   unfold Wn
   rw[hg]
   exact⟨g,hgd,hx⟩
  have wbl:∀ (t:List PV) (g:Nat) (c:Bool) (w:Bool),t.getD g .any=.bl c->∀ (w0:World) (S:Nat->Prop) (μ:Mu) (x:Value),RepV w0 S μ (t.getD g .any) x->(boolOf x==some w)=(c==w):=by
   intro t g c w ht w0 S μ x hx
   rw[ht]at hx
   rw[repV_bl hx]
   cases c<;>cases w<;>rfl
  split at h
  ·rename_i hg
   exact go s.t (.refl _) (by unfold Wn;rw[hg]) h
  ·rename_i j w hg
   split at h
   case h_1=>cases h
   rename_i g hgd
   split at h
   ·rename_i hv
    split at h
    ·exact go s.t (.refl _) (wn _ _ j g _ hg hgd (wbl _ g true true hv)) h
    ·exact skip s.t (.refl _) (wn _ _ j g _ hg hgd (wbl _ g true false hv)) h
   ·rename_i hv
    split at h
    ·exact skip s.t (.refl _) (wn _ _ j g _ hg hgd (wbl _ g false true hv)) h
    ·exact go s.t (.refl _) (wn _ _ j g _ hg hgd (wbl _ g false false hv)) h
   ·rename_i c hv
    have hne:s.t.getD g .any ≠ .any:=by rw[hv];exact fun h=>by cases h
    have e1:c=true->LEq (s.t.set g (.bl true)) s.t:=fun hc=>.set (by rw[hv];exact PEq.bl hc)
    have e2:c=false->LEq (s.t.set g (.bl false)) s.t:=fun hc=>.set (by rw[hv];exact PEq.bl' hc)
    split at h
    ·simp only[Tr.run]at h
     cases c with
     | true=>exact go _ (e1 rfl) (wn _ _ j g _ hg hgd (wbl _ g true true (set_self hne))) h
     | false=>exact skip _ (e2 rfl) (wn _ _ j g _ hg hgd (wbl _ g false true (set_self hne))) h
    ·simp only[Tr.run]at h
     cases c with
     | true=>exact skip _ (e1 rfl) (wn _ _ j g _ hg hgd (wbl _ g true false (set_self hne))) h
     | false=>exact go _ (e2 rfl) (wn _ _ j g _ hg hgd (wbl _ g false false (set_self hne))) h
   ·rename_i hv
    refine skip s.t (.refl _) (wn _ _ j g _ hg hgd fun w1 S μ x hx => ?_) h
    rw[hv]at hx
    cases hx with
    | und=>rfl
    | cell _ _ _ _ h=>cases h
    | agg _ _ _ hv=>cases hv
   ·cases h
end
end
section
open Go
def Ren (I:List Nat) (v v':PV):Prop:=isAgg v'=isAgg v/\∀ (w:World) (S:Nat->Prop) (μ:Mu),(∀ cs,RepC w S μ v cs->RepC w S (muOf μ I) v' cs)/\(∀ x,RepV w S μ v x->RepV w S (muOf μ I) v' x)
def RenL (I:List Nat) (vs vs':List PV):Prop:=∀ (w:World) (S:Nat->Prop) (μ:Mu),(∀ cs,RepL w S μ vs cs->RepL w S (muOf μ I) vs' cs)/\(∀ x,RepVL w S μ vs x->RepVL w S (muOf μ I) vs' x)
theorem posOf_spec {b:Nat}:∀ (ids:List Nat) (n k:Nat),posOf b ids n=some k->n<=k/\ids[k-n]? = some b
 | [],n,k,h=>by simp[posOf]at h
 | c::r,n,k,h=>by
  simp only[posOf]at h
  split at h
  ·rename_i hc
   simp at hc h;subst hc;subst h
   simp
  ·obtain⟨h1,h2⟩:=posOf_spec r (n+1) k h
   refine⟨by omega,?_⟩
   rw[show k-n=k-(n+1)+1 by omega]
   simpa using h2
theorem posOf_none {b:Nat}:∀ (ids:List Nat) (n:Nat),posOf b ids n=none->b ∉ ids
 | [],_,_=>by simp
 | c::r,n,h=>by
  simp only[posOf]at h
  split at h
  ·cases h
  ·rename_i hc
   have:=posOf_none r (n+1) h
   simp at hc
   simp[this,Ne.symm hc]
theorem renum_spec {ids ids':List Nat} {b n:Nat} (h:renum ids b=(n,ids')) (hn:ids.Nodup):(∃ tl,ids'=ids++tl)/\ids'.Nodup/\ids'[n]? = some b:=by
 unfold renum at h
 split at h
 ·rename_i k hk
  simp at h;obtain⟨rfl,rfl⟩:=h
  obtain⟨_,h2⟩:=posOf_spec _ _ _ hk
  exact⟨⟨[],by simp⟩,hn,by simpa using h2⟩
 ·rename_i hk
  simp at h;obtain⟨rfl,rfl⟩:=h
  refine⟨⟨[b],rfl⟩,?_,by simp⟩
  rw[List.nodup_append]
  refine⟨hn,by simp,fun x hx y hy => ?_⟩
  simp at hy;subst hy
  intro he;subst he
  exact posOf_none _ _ hk hx
theorem muOf_at {μ:Mu} {I ids tl:List Nat} {n b:Nat} (hI:I=ids++tl) (h:ids[n]? = some b):muOf μ I n=μ b:=by
 subst hI
 have hlt:=(List.getElem?_eq_some_iff.1 h).1
 simp[muOf,List.getElem?_append_left hlt,h]
theorem renL_spec {g:PV->List Nat->Option (PV × List Nat)}
  (hg:∀ v ids v' ids',g v ids=some (v',ids')->ids.Nodup->(∃ tl,ids'=ids++tl)/\ids'.Nodup/\∀ I tl,I=ids'++tl->Ren I v v'):
  ∀ (vs:List PV) (ids:List Nat) (vs':List PV) (ids':List Nat),renL g vs ids=some (vs',ids')->ids.Nodup->(∃ tl,ids'=ids++tl)/\ids'.Nodup/\∀ I tl,I=ids'++tl->
   RenL I vs vs'/\vs'.length=vs.length/\∀ (k:Nat) (v:PV),vs[k]? = some v->∃ v',vs'[k]? = some v'/\Ren I v v'
 | [],ids,vs',ids',h,hn=>by
  simp[renL]at h;obtain⟨rfl,rfl⟩:=h
  exact⟨⟨[],by simp⟩,hn,fun I tl _=>⟨fun w S μ=>⟨fun cs h=>by cases h;exact .nil _,fun cs h=>by cases h;exact .nil _⟩,rfl,fun k v h=>by simp at h⟩⟩
 | v::vs,ids,vs',ids',h,hn=>by
  simp only[renL]at h
  split at h
  case h_2=>cases h
  rename_i v1 ids1 h1
  split at h
  case h_2=>cases h
  rename_i vs2 ids2 h2
  simp at h;obtain⟨rfl,rfl⟩:=h
  obtain⟨⟨tl1,e1⟩,n1,r1⟩:=hg _ _ _ _ h1 hn
  obtain⟨⟨tl2,e2⟩,n2,r2⟩:=renL_spec hg _ _ _ _ h2 n1
  refine⟨⟨tl1++tl2,by rw[e2,e1,List.append_assoc]⟩,n2,fun I tl hI => ?_⟩
  have ra:=r1 I (tl2++tl) (by rw[hI,e2,List.append_assoc])
  obtain⟨rb,rc,rd⟩:=r2 I tl hI
  refine⟨fun w S μ=>⟨fun cs h => ?_,fun cs h => ?_⟩,by simp[rc],fun k u hk => ?_⟩
  ·cases h with|cons _ _ _ c d h h'=>exact .cons _ _ _ _ _ ((ra.2 w S μ).1 _ h) ((rb w S μ).1 _ h')
  ·cases h with|cons _ _ _ c d h h'=>exact .cons _ _ _ _ _ ((ra.2 w S μ).2 _ h) ((rb w S μ).2 _ h')
  ·cases k with
   | zero=>simp at hk;subst hk;exact⟨v1,rfl,ra⟩
   | succ k=>simp at hk;simpa using rd k u hk
theorem renV_spec:∀ (d:Nat) (v:PV) (ids:List Nat) (v':PV) (ids':List Nat),renV d v ids=some (v',ids')->ids.Nodup->(∃ tl,ids'=ids++tl)/\ids'.Nodup/\∀ I tl,I=ids'++tl->Ren I v v'
 | 0,_,_,_,_,h,_=>by simp[renV]at h
 | d+1,v,ids,v',ids',h,hn=>by
  have ih:=renL_spec (g:=renV d) (renV_spec d)
  have same:ids'=ids->(∃ tl,ids'=ids++tl)/\ids'.Nodup:=fun e=>by subst e;exact⟨⟨[],by simp⟩,hn⟩
  have fin:∀ (I:List Nat),isAgg v'=isAgg v->(∀ (w:World) (S:Nat->Prop) (μ:Mu) (cs:List Value),RepC w S μ v cs->RepC w S (muOf μ I) v' cs)->
    (∀ (w:World) (S:Nat->Prop) (μ:Mu) (vs:List PV) (xs:List Value),v=.tup vs->RepVL w S μ vs xs->RepV w S (muOf μ I) v' (.tuple xs.toArray))->
    (∀ (w:World) (S:Nat->Prop) (μ:Mu),v=.und->RepV w S (muOf μ I) v' undef)->(∀ (w:World) (S:Nat->Prop) (μ:Mu) (x:Value),v=.any->RepV w S (muOf μ I) v' x)->Ren I v v':=by
   intro I h1 h2 h3 h4 h5
   refine⟨h1,fun w S μ=>⟨fun cs=>h2 w S μ cs,fun x hx => ?_⟩⟩
   cases hx with
   | cell _ _ _ hv h=>exact .cell _ _ _ (h1.trans hv) (h2 w S μ _ h)
   | agg _ _ _ hv h=>exact .agg _ _ _ (h1.trans hv) (h2 w S μ _ h)
   | und=>exact h4 w S μ rfl
   | any=>exact h5 w S μ x rfl
   | tup _ vs xs hr=>exact h3 w S μ vs xs rfl hr
  cases v<;>simp only[renV]at h
  case sl b e off len=>
   simp at h
   obtain⟨rfl,rfl⟩:=h
   obtain⟨h1,h2,h3⟩:=renum_spec (b:=b) rfl hn
   refine⟨h1,h2,fun I tl hI=>fin I rfl (fun w S μ cs hr => ?_) (fun _ _ _ _ _ h=>by cases h) (fun _ _ _ h=>by cases h) (fun _ _ _ _ h=>by cases h)⟩
   cases hr with
   | sl=>exact .sl _ _ _ _ _ _ _ _ _ ((muOf_at hI h3).trans (by assumption)) (by assumption) (by assumption) (by assumption)
  case ptr b e i off p=>
   simp at h
   obtain⟨rfl,rfl⟩:=h
   obtain⟨h1,h2,h3⟩:=renum_spec (b:=b) rfl hn
   refine⟨h1,h2,fun I tl hI=>fin I rfl (fun w S μ cs hr => ?_) (fun _ _ _ _ _ h=>by cases h) (fun _ _ _ h=>by cases h) (fun _ _ _ _ h=>by cases h)⟩
   cases hr with
   | ptr=>exact .ptr _ _ _ _ _ _ _ _ ((muOf_at hI h3).trans (by assumption))
  case agg vs=>
   split at h
   case h_2=>cases h
   rename_i ws ids1 hws
   simp at h;obtain⟨rfl,rfl⟩:=h
   obtain⟨h1,h2,h3⟩:=ih _ _ _ _ hws hn
   refine⟨h1,h2,fun I tl hI=>fin I rfl (fun w S μ cs hr => ?_) (fun _ _ _ _ _ h=>by cases h) (fun _ _ _ h=>by cases h) (fun _ _ _ _ h=>by cases h)⟩
   cases hr with
   | agg _ _ _ hr=>exact .agg _ _ _ (((h3 I tl hI).1 w S μ).1 _ hr)
  case tup vs=>
   split at h
   case h_2=>cases h
   rename_i ws ids1 hws
   simp at h;obtain⟨rfl,rfl⟩:=h
   obtain⟨h1,h2,h3⟩:=ih _ _ _ _ hws hn
   refine⟨h1,h2,fun I tl hI=>fin I rfl (fun w S μ cs hr=>by cases hr) (fun w S μ us xs h hr => ?_) (fun _ _ _ h=>by cases h) (fun _ _ _ _ h=>by cases h)⟩
   cases h
   exact .tup _ _ _ (((h3 I tl hI).1 w S μ).2 _ hr)
  case clo f vs=>
   split at h
   case h_2=>cases h
   rename_i ws ids1 hws
   simp at h;obtain⟨rfl,rfl⟩:=h
   obtain⟨h1,h2,h3⟩:=ih _ _ _ _ hws hn
   refine⟨h1,h2,fun I tl hI=>fin I rfl (fun w S μ cs hr => ?_) (fun _ _ _ _ _ h=>by cases h) (fun _ _ _ h=>by cases h) (fun _ _ _ _ h=>by cases h)⟩
   cases hr with
   | clo _ _ _ xs hr=>exact .clo _ _ _ _ (((h3 I tl hI).1 w S μ).2 _ hr)
  case ifc T u=>
   split at h
   case h_2=>cases h
   rename_i ws ids1 hws
   simp at h;obtain⟨rfl,rfl⟩:=h
   obtain⟨h1,h2,h3⟩:=renV_spec d _ _ _ _ hws hn
   refine⟨h1,h2,fun I tl hI=>fin I rfl (fun w S μ cs hr => ?_) (fun _ _ _ _ _ h=>by cases h) (fun _ _ _ h=>by cases h) (fun _ _ _ _ h=>by cases h)⟩
   cases hr with
   | ifc _ _ _ x hr=>exact .ifc _ _ _ _ (((h3 I tl hI).2 w S μ).2 _ hr)
  case und=>
   simp at h;obtain⟨rfl,rfl⟩:=h
   exact⟨(same rfl).1,hn,fun I tl hI=>fin I rfl (fun w S μ cs hr=>by cases hr) (fun _ _ _ _ _ h=>by cases h) (fun _ _ _ _=>.und _) (fun _ _ _ _ h=>by cases h)⟩
  case any=>
   simp at h;obtain⟨rfl,rfl⟩:=h
   exact⟨(same rfl).1,hn,fun I tl hI=>fin I rfl (fun w S μ cs hr=>by cases hr) (fun _ _ _ _ _ h=>by cases h) (fun _ _ _ h=>by cases h) (fun _ _ _ _ _=>.any _ _)⟩
  case fr=>
   simp at h;obtain⟨rfl,rfl⟩:=h
   exact⟨(same rfl).1,hn,fun I tl hI=>fin I rfl (fun w S μ cs hr=>by cases hr) (fun _ _ _ _ _ h=>by cases h) (fun _ _ _ h=>by cases h) (fun _ _ _ _ h=>by cases h)⟩
  all_goals
   simp at h;obtain⟨rfl,rfl⟩:=h
   refine⟨(same rfl).1,hn,fun I tl hI=>fin I rfl (fun w S μ cs hr => ?_) (fun _ _ _ _ _ h=>by cases h) (fun _ _ _ h=>by cases h) (fun _ _ _ _ h=>by cases h)⟩
   cases hr
   first
    | exact .b _ _
    | exact .bl _ _
    | exact .i _ _ _
    | exact .s _ _
    | exact .q _ _ _ (by assumption)
    | exact .nil _
    | exact .nilf _
    | exact .nili _
    | exact .nilp _
    | exact .w _ _ _ (by assumption)
    | exact .lst _ _ _ _ _ _ _ (by assumption) (by assumption) (by assumption) (by assumption) (by assumption)
    | exact .ref _ _ _ _ _ (by assumption) (by assumption) (by assumption)
def RenB (I:List Nat) (b b':Option Blk):Prop:=
 match b,b' with
 | some k,some k'=>∀ (w:World) (S:Nat->Prop) (μ:Mu) (a z:Nat),BlkRel w S μ k a z->BlkRel w S (muOf μ I) k' a z
 | none,none=>True
 | _,_=>False
theorem BlkRel.fixed {w:World} {S:Nat->Prop} {μ μ':Mu} {k:Blk} {a z:Nat} (hr:qD μ k.c=qD μ' k.c) (h:BlkRel w S μ k a z):BlkRel w S μ' k a z:=by
 obtain⟨c,T,cs,h1,h2,h3,h4,h5,h6⟩:=h
 exact⟨c,T,cs,h1,h2,h3,by rw[<-hr];exact h4,h5,h6⟩
theorem RenB.same {I:List Nat}:∀ (b:Option Blk),(∀ (e:Nat) (vs:List PV),b=some ⟨e,.vals vs⟩->False)->RenB I b b
 | none,_=>trivial
 | some ⟨e,.vals vs⟩,hb=>(hb e vs rfl).elim
 | some ⟨_,.ints _ _⟩,_=>fun _ _ _ _ _ hr=>hr.fixed rfl
 | some ⟨_,.rats _ _⟩,_=>fun _ _ _ _ _ hr=>hr.fixed rfl
 | some ⟨_,.fn _ _⟩,_=>fun _ _ _ _ _ hr=>hr.fixed rfl
theorem renB_spec {b:Option Blk} {ids:List Nat} {b':Option Blk} {ids':List Nat} (h:renB b ids=some (b',ids')) (hn:ids.Nodup):
  (∃ tl,ids'=ids++tl)/\ids'.Nodup/\∀ I tl,I=ids'++tl->RenB I b b':=by
 unfold renB at h
 split at h
 ·rename_i e vs
  split at h
  case h_2=>cases h
  rename_i ws ids1 hws
  simp at h;obtain⟨rfl,rfl⟩:=h
  obtain⟨h1,h2,h3⟩:=renL_spec (renV_spec 6) _ _ _ _ hws hn
  refine⟨h1,h2,fun I tl hI => ?_⟩
  obtain⟨_,hlen,hat⟩:=h3 I tl hI
  intro w S μ a z hb
  obtain⟨c,T,cs,g1,g2,g3,g4,g5,g6⟩:=hb
  refine⟨c,T,cs,g1,g2,by simpa [Cont.len,hlen]using g3,fun i hi => ?_,by simpa [Cont.len,hlen]using g5,by simpa [Cont.len,hlen]using g6⟩
  simp only[Cont.len]at hi g4
  rw[hlen]at hi
  have hv:vs[i]? = some (vs[i]'hi):=List.getElem?_eq_getElem _
  obtain⟨v',hv',hren⟩:=hat i _ hv
  have:=g4 i hi
  simp only[Cont.get,qD,List.getD_eq_getElem?_getD,hv,Option.getD_some]at this
  simp only[Cont.get,qD,List.getD_eq_getElem?_getD,hv',Option.getD_some]
  exact(hren.2 w S μ).1 _ this
 ·rename_i b hb
  simp at h;obtain⟨rfl,rfl⟩:=h
  refine⟨⟨[],by simp⟩,hn,fun I tl hI => ?_⟩
  exact RenB.same _ hb
theorem renH_spec {h:qT}:∀ (n:Nat) (ids:List Nat) (acc:qT) (I:List Nat) (H:qT),renH h n ids acc=some (I,H)->ids.Nodup->acc.length<=ids.length->
  (∀ tl,∀ J,J=ids++tl->True)->(∃ tl,I=ids++tl)/\I.Nodup/\H.length=I.length/\(∃ tl,H=acc++tl)/\
   ∀ (k b:Nat),acc.length<=k->I[k]? = some b->∃ kb,H[k]? = some kb/\RenB I (hget h b) kb
 | 0,_,_,_,_,h,_,_,_=>by simp[renH]at h
 | n+1,ids,acc,I,H,he,hn,hl,_=>by
  simp only[renH]at he
  split at he
  ·rename_i hnone
   simp at he;obtain⟨rfl,rfl⟩:=he
   have:=List.getElem?_eq_none_iff.1 hnone
   refine⟨⟨[],by simp⟩,hn,by omega,⟨[],by simp⟩,fun k b hk hb => ?_⟩
   have:=(List.getElem?_eq_some_iff.1 hb).1
   omega
  ·rename_i b hb
   split at he
   case h_2=>cases he
   rename_i kb ids1 hkb
   obtain⟨⟨tl1,e1⟩,n1,r1⟩:=renB_spec hkb hn
   have hlt:=(List.getElem?_eq_some_iff.1 hb).1
   obtain⟨⟨tl2,e2⟩,h2,h3,⟨tl3,e3⟩,h4⟩:=renH_spec n ids1 (acc++[kb]) I H he n1 (by rw[e1];simp;omega) (fun _ _ _=>trivial)
   refine⟨⟨tl1++tl2,by rw[e2,e1,List.append_assoc]⟩,h2,h3,⟨[kb]++tl3,by rw[e3,List.append_assoc]⟩,fun k c hk hc => ?_⟩
   by_cases hk':k=acc.length
   ·subst hk'
    have:I[acc.length]? = some b:=by rw[e2,e1,List.append_assoc,List.getElem?_append_left hlt];exact hb
    rw[this]at hc;cases hc
    exact⟨kb,by rw[e3];simp,r1 I tl2 e2⟩
   ·exact h4 k c (by simp;omega) hc
theorem upto_nodup:∀ (m n:Nat),(upto n m).Nodup
 | 0,_=>.nil
 | m+1,n=>by
  simp only[upto,List.nodup_cons]
  refine⟨fun h => ?_,upto_nodup m (n+1)⟩
  have:∀ (m n x:Nat),x∈upto n m->n<=x:=by
   intro m
   induction m with
   | zero=>intro n x h;cases h
   | succ m ih=>
    intro n x h
    simp only[upto,List.mem_cons]at h
    rcases h with rfl|h
    ·exact Nat.le_refl _
    ·have:=ih _ _ h;omega
  have:=this _ _ _ h
  omega

theorem loadT_length:∀ (live:List Nat) (vs t:List PV),(loadT live vs t).length=t.length
 | [],_,_=>rfl
 | _::_,[],_=>rfl
 | d::ds,v::vs,t=>by simp[loadT,loadT_length ds vs]
theorem loadT_get:∀ (live:List Nat) (vs t:List PV) (k:Nat),(loadT live vs t).getD k .any=t.getD k .any\/∃ (j:Nat) (v:PV),live[j]? = some k/\vs[j]? = some v/\(loadT live vs t).getD k .any=v
 | [],_,_,_=>.inl rfl
 | _::_,[],_,_=>.inl rfl
 | d::ds,v::vs,t,k=>by
  simp only[loadT]
  rcases loadT_get ds vs (t.set d v) k with h|⟨j,u,h1,h2,h3⟩
  ·by_cases hd:d=k
   ·subst hd
    by_cases hl:d<t.length
    ·refine .inr ⟨0,v,rfl,rfl,?_⟩
     rw[h];simp[List.getD_eq_getElem?_getD,hl]
    ·rw[h,getD_ge (by simpa using hl),getD_ge hl];exact .inl rfl
   ·rw[h]
    exact .inl (by simp[List.getD_eq_getElem?_getD,List.getElem?_set_ne hd])
  ·exact .inr ⟨j+1,u,by simpa using h1,by simpa using h2,h3⟩
theorem save_ok {G:World->(Nat->Prop)->Prop} {E:Env} {live:List Nat} {s:St} {ls:LS} {n:Nat} (h:saveS E.m live s=some ls) (hn:s.t.length=n) {a:Act} {w:World}
  (hi:SInv G E s a w):SInv G E (loadS n live ls) a w:=by
 unfold saveS at h
 split at h
 case h_2=>cases h
 rename_i ts ids hts
 split at h
 case h_2=>cases h
 rename_i I H hH
 simp at h;subst h
 obtain⟨⟨tl1,e1⟩,n1,r1⟩:=renL_spec (renV_spec 6) _ _ _ _ hts (upto_nodup _ _)
 obtain⟨⟨tl2,e2⟩,n2,hlen,_,hblk⟩:=renH_spec _ _ _ _ _ hH n1 (Nat.zero_le _) (fun _ _ _=>trivial)
 obtain⟨_,hl2,hat⟩:=r1 I tl2 e2
 obtain⟨S,μ,iv⟩:=hi
 have hI:∀ b,b<E.m->I[b]? = some b:=by
  intro b hb
  rw[e2,e1,List.append_assoc,List.getElem?_append_left (by rw[upto_length];exact hb),upto_get _ _ _ hb,Nat.zero_add]
 -- the blocks
 have live_:∀ j k,hget H j=some k->∃ b k0,I[j]? = some b/\hget s.h b=some k0/\∀ (w:World) (S:Nat->Prop) (μ:Mu) (a z:Nat),BlkRel w S μ k0 a z->BlkRel w S (muOf μ I) k a z:=by
  intro j k hj
  have hlt:=hget_lt hj
  have hb:I[j]? = some (I[j]'(by omega)):=List.getElem?_eq_getElem _
  obtain⟨kb,h1,h2⟩:=hblk j _ (Nat.zero_le _) hb
  unfold hget at hj
  rw[h1]at hj
  cases kb with
  | none=>cases hj
  | some kb=>
   simp at hj;subst hj
   cases hg:hget s.h (I[j]'(by omega))with
   | none=>rw[hg]at h2;exact h2.elim
   | some k0=>rw[hg]at h2;exact⟨_,k0,hb,hg,h2⟩
 have muI:∀ j b,I[j]? = some b->muOf μ I j=μ b:=fun j b hj=>by simp[muOf,hj]
 refine⟨S,muOf μ I,iv.g,iv.defers,by simp[loadS,loadT_length];rw[<-iv.len,hn],fun k => ?_,⟨fun j k hj => ?_,fun j k a z hj hmu => ?_,fun j j' k k' a z z' hj hj' hmu hmu' => ?_,iv.hrel.lt⟩,
  fun b hb => ?_,⟨iv.link.os,iv.link.tape,iv.link.output,iv.link.size,iv.link.old,iv.link.subS,iv.link.newS,fun b hb => ?_,fun j k a z hj hmu => ?_⟩⟩
 ·simp only[loadS]
  rcases loadT_get live ts (List.replicate n .any) k with h|⟨j,v,h1,h2,h3⟩
  ·rw[h]
   have:(List.replicate n PV.any).getD k .any=.any:=by
    by_cases hk:k<n
    ·simp[List.getD_eq_getElem?_getD,hk]
    ·exact getD_ge (by simpa using hk)
   rw[this];exact .any _ _
  ·rw[h3]
   obtain⟨v',h4,h5⟩:=hat j (s.t.getD k .any) (by rw[List.getElem?_map,h1];rfl)
   rw[h2]at h4;cases h4
   exact(h5.2 w S μ).2 _ (iv.rep k)
 ·obtain⟨b,k0,h1,h2,h3⟩:=live_ j k hj
  obtain⟨a,z,h4,h5⟩:=iv.hrel.blk b k0 h2
  exact⟨a,z,(muI j b h1).trans h4,h3 w S μ a z h5⟩
 ·obtain⟨b,k0,h1,h2,h3⟩:=live_ j k hj
  rw[muI j b h1]at hmu
  exact iv.hrel.sep b k0 a z h2 hmu
 ·obtain⟨b,k0,h1,h2,h3⟩:=live_ j k hj
  obtain⟨b',k0',h1',h2',h3'⟩:=live_ j' k' hj'
  rw[muI j b h1]at hmu
  rw[muI j' b' h1']at hmu'
  have:=iv.hrel.inj b b' k0 k0' a z z' h2 h2' hmu hmu'
  subst this
  exact nodup_get n2 h1 h1'
 ·simp only[loadS]at hb
  unfold muOf
  rw[List.getElem?_eq_none (by omega)]
 ·rw[muI b b (hI b hb)];exact iv.link.mu b hb
 ·obtain⟨b,k0,h1,h2,h3⟩:=live_ j k hj
  rw[muI j b h1]at hmu
  exact iv.link.place b k0 a z h2 hmu
theorem save_len {m:Nat} {live:List Nat} {s:St} {ls:LS} (h:saveS m live s=some ls):m<=ls.h.length:=by
 unfold saveS at h
 split at h
 case h_2=>cases h
 rename_i ts ids hts
 split at h
 case h_2=>cases h
 rename_i I H hH
 simp at h;subst h
 obtain⟨⟨tl1,e1⟩,n1,r1⟩:=renL_spec (renV_spec 6) _ _ _ _ hts (upto_nodup _ _)
 obtain⟨⟨tl2,e2⟩,n2,hlen,_,hblk⟩:=renH_spec _ _ _ _ _ hH n1 (Nat.zero_le _) (fun _ _ _=>trivial)
 simp only
 rw[hlen,e2,e1]
 simp[upto_length]
end
section
open Go
structure CodeOK (P:Program) (G:World->(Nat->Prop)->Prop) (n m:Nat) (c:Code) (s:St) (e:Exit) (sN:St):Prop where
 len:sN.t.length=n
 le:m<=sN.h.length
 wp:∀ (E:Env),E.m=m->∀ (Q:Exit->Act->World->Prop) (a:Act) (w:World),(∀ a w,SInv G E sN a w->Q e a w)->SInv G E s a w->c.wp P Q a w
def qz (P:Program) (G:World->(Nat->Prop)->Prop) (n m:Nat) (live:List Nat) (body:Code) (sp:qA):Prop:=
 ∀ (ls:LS) (K:Exit->LS->Tr) (x:Res),m<=ls.h.length->(sp ls K).run=some x->∃ e ls',CodeOK P G n m (.loop body) (loadS n live ls) e (loadS n live ls')/\(K e ls').run=some x
def qi:Code->List Code
 | .seq a b=>qi a++qi b
 | .cond _ a b=>qi a++qi b
 | .block _ a=>qi a
 | .loop a=>a::qi a
 | _=>[]
def LpsOK (P:Program) (G:World->(Nat->Prop)->Prop) (pol:Pol) (n m:Nat) (L:Lps) (c:Code):Prop:=
 ∀ a∈qi c,∀ live sp,assoc (qr a) pol.live=some live->Lps.look (qr a) L=some sp->qz P G n m live a sp

section
variable {P:Program} {G:World->(Nat->Prop)->Prop} {O:Orc} {L:Lps} {pol:Pol} {n m:Nat}
theorem runOK_len {ops:Array Oper} {ord:Nat->Nat->Prop} {s0 sN:St} {rs:List RecP} (h:RunOK P G ops ord s0 rs sN):sN.t.length=s0.t.length:=by
 have:=h.all.1.len
 rw[tX_length]at this
 exact this.symm
theorem region_ok2 (hG:GOk G) (hO:OrcOK P G O) (hmix:P.follows .mixedOrders=true) {id:Nat} {ops:Array Oper} {dr:Bool} {s:St} {K:Exit->St->Tr} {x:Res} (hn:s.t.length=n) (hm:m<=s.h.length)
  (h:(evC P O L pol n m (.region id ops dr) K s).run=some x):∃ e sN,CodeOK P G n m (.region id ops dr) s e sN/\(K e sN).run=some x:=by
 simp only[evC]at h
 split at h
 ·obtain⟨rs,sN,h1,h2,h3⟩:=evOps_ok hG hO none (fun r hr=>by cases hr) _ none [] _ s [] h .nil (by simp) rfl (fun h=>absurd rfl h)
  exact⟨.normal,sN,⟨(runOK_len h1).trans hn,Nat.le_trans hm h1.len,fun E hE Q a w hQ hi=>wp_region (run_seq hG h1 h2 (by rw[hE];exact hm) hQ hi)⟩,h3⟩
 ·split at h
  case h_2=>cases h
  rename_i rows hr
  obtain⟨rs,sN,h1,h2,h3⟩:=evOps_ok hG hO (some rows) (fun r hr'=>by cases hr';exact rowsOK hr) _ (some rows) [] _ s [] h .nil (by simp) rfl (fun _=>trivial)
  exact⟨.normal,sN,⟨(runOK_len h1).trans hn,Nat.le_trans hm h1.len,fun E hE Q a w hQ hi=>wp_region_any hmix (run_any hG (rowsOK hr) h1 h2 (by rw[hE];exact hm) hQ (hi.drawn hG))⟩,h3⟩
theorem evC_ok (hG:GOk G) (hO:OrcOK P G O) (hmix:P.follows .mixedOrders=true):∀ (c:Code) (K:Exit->St->Tr) (s:St) (x:Res),LpsOK P G pol n m L c->s.t.length=n->m<=s.h.length->
  (evC P O L pol n m c K s).run=some x->∃ e sN,CodeOK P G n m c s e sN/\(K e sN).run=some x
 | .skip,K,s,x,_,hn,hm,h=>⟨.normal,s,⟨hn,hm,fun E _ Q a w hQ hi=>wp_skip (hQ a w hi)⟩,h⟩
 | .exit j,K,s,x,_,hn,hm,h=>⟨.exit j,s,⟨hn,hm,fun E _ Q a w hQ hi=>wp_exit (hQ a w hi)⟩,h⟩
 | .ret,K,s,x,_,hn,hm,h=>⟨.ret,s,⟨hn,hm,fun E _ Q a w hQ hi=>wp_ret (hQ a w hi)⟩,h⟩
 | .region id ops dr,K,s,x,_,hn,hm,h=>region_ok2 hG hO hmix hn hm h
 | .seq a b,K,s,x,hl,hn,hm,h=>by
  simp only[evC]at h
  obtain⟨e,s1,h1,h2⟩:=evC_ok hG hO hmix a _ s x (fun c hc=>hl c (by simp[qi,hc])) hn hm h
  cases e with
  | normal=>
   obtain⟨e2,s2,h3,h4⟩:=evC_ok hG hO hmix b _ s1 x (fun c hc=>hl c (by simp[qi,hc])) h1.len h1.le h2
   exact⟨e2,s2,⟨h3.len,h3.le,fun E hE Q a w hQ hi=>wp_seq (h1.wp E hE _ a w (fun a w h=>h3.wp E hE Q a w hQ h) hi)⟩,h4⟩
  | _=>exact⟨_,s1,⟨h1.len,h1.le,fun E hE Q a w hQ hi=>wp_seq (h1.wp E hE _ a w (fun a w h=>hQ a w h) hi)⟩,h2⟩
 | .cond c a b,K,s,x,hl,hn,hm,h=>by
  simp only[evC]at h
  have ha:∀ (h:(evC P O L pol n m a K s).run=some x),(∀ (w:World) (S:Nat->Prop) (μ:Mu) (v:Value),RepV w S μ (evO s.t c) v->v=.bool true)->
    ∃ e sN,CodeOK P G n m (.cond c a b) s e sN/\(K e sN).run=some x:=by
   intro h hv
   obtain⟨e,s1,h1,h2⟩:=evC_ok hG hO hmix a _ s x (fun c hc=>hl c (by simp[qi,hc])) hn hm h
   refine⟨e,s1,⟨h1.len,h1.le,fun E hE Q a w hQ hi => ?_⟩,h2⟩
   obtain⟨S,μ,iv⟩:=hi
   exact wp_cond_true (hv w S μ _ (repV_evO iv.rep c)) (h1.wp E hE Q a w hQ ⟨S,μ,iv⟩)
  have hb:∀ (h:(evC P O L pol n m b K s).run=some x),(∀ (w:World) (S:Nat->Prop) (μ:Mu) (v:Value),RepV w S μ (evO s.t c) v->v=.bool false)->
    ∃ e sN,CodeOK P G n m (.cond c a b) s e sN/\(K e sN).run=some x:=by
   intro h hv
   obtain⟨e,s1,h1,h2⟩:=evC_ok hG hO hmix b _ s x (fun c hc=>hl c (by simp[qi,hc])) hn hm h
   refine⟨e,s1,⟨h1.len,h1.le,fun E hE Q a w hQ hi => ?_⟩,h2⟩
   obtain⟨S,μ,iv⟩:=hi
   exact wp_cond_false (hv w S μ _ (repV_evO iv.rep c)) (h1.wp E hE Q a w hQ ⟨S,μ,iv⟩)
  split at h
  ·rename_i t hc
   simp only[Tr.run]at h
   cases t with
   | true=>exact ha h fun w S μ v hr=>by rw[hc]at hr;exact repV_b hr
   | false=>exact hb h fun w S μ v hr=>by rw[hc]at hr;exact repV_b hr
  ·rename_i hc
   exact ha h fun w S μ v hr=>by rw[hc]at hr;exact repV_bl hr
  ·rename_i hc
   exact hb h fun w S μ v hr=>by rw[hc]at hr;exact repV_bl hr
  ·cases h
 | .block id a,K,s,x,hl,hn,hm,h=>by
  simp only[evC]at h
  obtain⟨e,s1,h1,h2⟩:=evC_ok hG hO hmix a _ s x (fun c hc=>hl c (by simp[qi,hc])) hn hm h
  cases e with
  | exit j=>
   simp only at h2
   split at h2
   ·rename_i hj
    simp at hj
    exact⟨.normal,s1,⟨h1.len,h1.le,fun E hE Q a w hQ hi=>wp_block (h1.wp E hE _ a w (fun a w h=>by simp only[Exit.inBlock,hj,if_true];exact hQ a w h) hi)⟩,h2⟩
   ·rename_i hj
    simp at hj
    exact⟨.exit j,s1,⟨h1.len,h1.le,fun E hE Q a w hQ hi=>wp_block (h1.wp E hE _ a w (fun a w h=>by simp only[Exit.inBlock,hj,if_false];exact hQ a w h) hi)⟩,h2⟩
  | _=>exact⟨_,s1,⟨h1.len,h1.le,fun E hE Q a w hQ hi=>wp_block (h1.wp E hE _ a w (fun a w h=>hQ a w h) hi)⟩,h2⟩
 | .loop a,K,s,x,hl,hn,hm,h=>by
  simp only[evC]at h
  split at h
  case h_2=>cases h
  rename_i live sp hlive hsp
  split at h
  case h_2=>cases h
  rename_i ls hls
  obtain⟨e,ls',h1,h2⟩:=hl a (by simp[qi]) live sp hlive hsp ls _ x (save_len hls) h
  exact⟨e,_,⟨h1.len,h1.le,fun E hE Q a w hQ hi=>h1.wp E hE Q a w hQ (save_ok (by rw[hE];exact hls) hn hi)⟩,h2⟩
 | .rangeFunc ..,_,_,_,_,_,_,h=>by simp[evC,Tr.run]at h
 | .scope ..,_,_,_,_,_,_,h=>by simp[evC,Tr.run]at h
 | .goto ..,_,_,_,_,_,_,h=>by simp[evC,Tr.run]at h
 | .label ..,_,_,_,_,_,_,h=>by simp[evC,Tr.run]at h
 | .refuse ..,_,_,_,_,_,_,h=>by simp[evC,Tr.run]at h

def Ent (G:World->(Nat->Prop)->Prop) (n m:Nat) (live:List Nat) (ls ls':LS):Prop:=
 m<=ls'.h.length/\∀ (E:Env),E.m=m->∀ (a:Act) (w:World),SInv G E (loadS n live ls) a w->SInv G E (loadS n live ls') a w
theorem loadS_len {live:List Nat} {ls:LS}:(loadS n live ls).t.length=n:=by simp[loadS,loadT_length]
theorem qb (hG:GOk G) (hO:OrcOK P G O) (hmix:P.follows .mixedOrders=true) {live:List Nat} {a:Code} {ls ls':LS} {e:Exit} (hl:LpsOK P G pol n m L a) (hm:m<=ls.h.length)
  (h:(qe P O L pol n m live a ls).run=some (.out e ls')):CodeOK P G n m a (loadS n live ls) e (loadS n live ls'):=by
 unfold qe at h
 obtain⟨e',s1,h1,h2⟩:=evC_ok hG hO hmix a _ _ _ hl loadS_len (by simpa [loadS]using hm) h
 split at h2
 case h_2=>cases h2
 rename_i ls1 hls
 simp[Tr.run]at h2
 obtain⟨rfl,rfl⟩:=h2
 exact⟨loadS_len,by simpa [loadS]using save_len hls,fun E hE Q a w hQ hi=>h1.wp E hE Q a w (fun a w h=>hQ a w (save_ok (by rw[hE];exact hls) h1.len h)) hi⟩
def Rnd (P:Program) (G:World->(Nat->Prop)->Prop) (n m:Nat) (live:List Nat) (a:Code) (ls:LS) (e:Exit) (ls':LS):Prop:=CodeOK P G n m a (loadS n live ls) e (loadS n live ls')
theorem Rnd.ent {live:List Nat} {a:Code} {ls ls1 ls':LS} {e:Exit} (h:Rnd P G n m live a ls e ls1) (he:Ent G n m live ls1 ls'):Rnd P G n m live a ls e ls':=
 ⟨loadS_len,by simpa [loadS]using he.1,fun E hE Q a w hQ hi=>h.wp E hE Q a w (fun a w h=>hQ a w (he.2 E hE a w h)) hi⟩
inductive Goes (R:LS->Exit->LS->Prop):LS->Exit->LS->Prop
 | last (ls:LS) (e:Exit) (ls':LS) (h:R ls e ls') (he:e ≠ .normal):Goes R ls e ls'
 | more (ls ls1:LS) (e:Exit) (ls':LS) (h:R ls .normal ls1) (h':Goes R ls1 e ls'):Goes R ls e ls'
theorem qx {live:List Nat} {a:Code} {ls ls':LS} {e:Exit} (h:Goes (Rnd P G n m live a) ls e ls'):CodeOK P G n m (.loop a) (loadS n live ls) e (loadS n live ls'):=by
 have key:∀ (E:Env),E.m=m->∀ (Q:Exit->Act->World->Prop) (act:Act) (w:World),(∀ a w,SInv G E (loadS n live ls') a w->Q e a w)->SInv G E (loadS n live ls) act w->
   ∀ (b:Frame) (k:List Item) (cs:List Frame),∃ e a' w',Q e a' w'/\Arrives P (lone (b.at act (.code a :: .inLoop a::k)) cs w) b k cs e a' w':=by
  induction h with
  | last ls e ls' h he=>
   intro E hE Q act w hQ hi b k cs
   obtain⟨e1,a1,w1,hq,harr⟩:=h.wp E hE (fun e1 a w=>e1=e/\Q e a w) act w (fun a w h=>⟨rfl,hQ a w h⟩) hi b (.inLoop a::k) cs
   obtain⟨rfl,hq⟩:=hq
   exact⟨e1,a1,w1,hq,.pass (x:=.inLoop a) rfl (fun _ _=>.inl he) harr⟩
  | more ls ls1 e ls' h _ ih=>
   intro E hE Q act w hQ hi b k cs
   obtain⟨e1,a1,w1,hq,harr⟩:=h.wp E hE (fun e1 a w=>e1=.normal/\SInv G E (loadS n live ls1) a w) act w (fun a w h=>⟨rfl,h⟩) hi b (.inLoop a::k) cs
   obtain⟨rfl,hq⟩:=hq
   obtain⟨e2,a2,w2,hq2,harr2⟩:=ih E hE Q a1 w1 hQ hq b k cs
   exact⟨e2,a2,w2,hq2,.of_steps (Steps.trans harr (.one step_inLoop)) harr2⟩
 have hm:m<=ls'.h.length:=by
  clear key
  induction h with
  | last ls e ls' h he=>simpa [loadS]using h.le
  | more ls ls1 e ls' h _ ih=>exact ih
 exact⟨loadS_len,by simpa [loadS]using hm,fun E hE Q act w hQ hi b k cs=>by
  obtain⟨e,a',w',hq,harr⟩:=key E hE Q act w hQ hi b k cs
  exact⟨e,a',w',hq,.of_steps (.one step_loop) harr⟩⟩
end
end
section
open Go
section
variable {P:Program} {w:World} {S S2:Nat->Prop} {μ:Mu} {h:qT}
theorem ldO_load {T:Nat} {pv v:PV} {x:Value} (hld:holds (ldC h pv)) (hv:ldO P T h pv=some v) (h1:RepV w S μ pv x) (hh:HRel w S μ (hget h)):
  ∃ y,(Instr.loadAt T x).run P w=.ok y w/\RepV w S μ v y:=by
 unfold ldO at hv
 split at hv
 ·rename_i u
  split at hv
  ·rename_i hf
   simp at hv;subst hv
   obtain⟨a',o',cs,hS,hrep,hc,hxv⟩:=repV_ref h1
   obtain⟨y,hy,hry⟩:=run_load_rep hf (hrep.mono (w':=w) (S':=S) ⟨fun _ h=>h,fun _ _ _=>rfl⟩ μ (MuLe.none μ)) hc
   exact⟨y,by rw[hxv];exact hy,hry⟩
  ·cases hv
 ·rename_i b e' i off p
  obtain⟨a',z,hmu,hxv⟩:=repV_ptr h1
  split at hv
  ·rename_i k hk
   split at hv
   ·rename_i hck
    simp only[Bool.and_eq_true,beq_iff_eq]at hck
    obtain⟨hke,hik0⟩:=hck
    simp only[ldC,hk]at hld
    have hik:i<k.c.len:=lenOk_le hik0 hld
    split at hv
    ·rename_i o1 u hsub
     split at hv
     ·rename_i hof
      simp only[Bool.and_eq_true,beq_iff_eq]at hof
      obtain⟨rfl,hf⟩:=hof
      simp at hv;subst hv
      obtain⟨a2,z2,hmu2,c,T',cs,hg,hz,hle,hrr,hl,hc⟩:=hh.blk b k hk
      have e1:=hmu.symm.trans hmu2;cases e1
      obtain⟨c1,c2,c3,hcs,hlen,hru⟩:=sub_rep p (k.c.get i) o1 u (cs i) hsub ((hrr i hik).mono (w':=w) (S':=S) ⟨fun _ h=>h,fun _ _ _=>rfl⟩ μ (rowMu_sub μ _))
      obtain⟨y,hy,hry⟩:=run_load_rep (a:=a') (o:=i*e'+o1) hf hru (fun j hj=>by
       have hlt:o1+j<k.e:=by rw[<-hl i hik,hcs];simp;omega
       have hcc:=hc i (o1+j) hik hlt
       rw[cell_of_row w a' _ c T' _ hg,<-hke,show i*k.e+o1+j=i*k.e+(o1+j) by omega,hcc,hcs]
       rw[List.append_assoc,List.getElem?_append_right (by omega),hlen,Nat.add_sub_cancel_left,List.getElem?_append_left hj])
      exact⟨y,by rw[hxv];exact hy,hry⟩
     ·cases hv
    ·cases hv
   ·cases hv
  ·cases hv
 ·cases hv
theorem ldO_addr {T:Nat} {pv v:PV} {x:Value} (hv:ldO P T h pv=some v) (h1:RepV w S μ pv x):∃ a,x=.pointer (some a):=by
 unfold ldO at hv
 split at hv
 ·obtain⟨a',o',cs,hS,hrep,hc,hxv⟩:=repV_ref h1;exact⟨_,hxv⟩
 ·obtain⟨a',z,hmu,hxv⟩:=repV_ptr h1;exact⟨_,hxv⟩
 ·cases hv
def resRun (tmps:Array Value):ResultVar->Sem Value
 | .tmp t=>pure (tmps.getD t undef)
 | .cell a t=>do loadVar t (<- asAddr (tmps.getD a undef))
theorem resV_ok {s:St} {rv:ResultVar} {v:PV} (hv:resV P s rv=some v) {tmps:Array Value} (hr:∀ k,RepV w S μ (s.t.getD k .any) (tmps.getD k undef)) (hh:HRel w S μ (hget s.h)):
  ∃ y,(resRun tmps rv).run P w=.ok y w/\RepV w S μ v y:=by
 cases rv with
 | tmp k=>
  simp only[resV]at hv
  cases hv
  exact⟨_,rfl,hr k⟩
 | cell a T=>
  simp only[resV]at hv
  split at hv
  case h_2=>cases hv
  rename_i hld
  obtain⟨y,h1,h2⟩:=ldO_load (by rw[hld];trivial) hv (hr a) hh
  obtain⟨ad,had⟩:=ldO_addr hv (hr a)
  refine⟨y,?_,h2⟩
  rw[had]at h1
  simpa [resRun,had,asAddr,Instr.loadAt,Instr.sureAddr]using h1
theorem resL_ok {s:St} {tmps:Array Value} (hr:∀ k,RepV w S μ (s.t.getD k .any) (tmps.getD k undef)) (hh:HRel w S μ (hget s.h)):∀ (rvs:List ResultVar) (vs:List PV),resL P s rvs=some vs->
  ∃ ys,(rvs.mapM (resRun tmps)).run P w=.ok ys w/\RepVL w S μ vs ys
 | [],vs,hv=>by simp[resL]at hv;subst hv;exact⟨[],rfl,.nil _⟩
 | r::rs,vs,hv=>by
  simp only[resL]at hv
  split at hv
  case h_2=>cases hv
  rename_i v h1
  split at hv
  case h_2=>cases hv
  rename_i us h2
  simp at hv;subst hv
  obtain⟨y,h3,h4⟩:=resV_ok h1 hr hh
  obtain⟨ys,h5,h6⟩:=resL_ok hr hh rs us h2
  exact⟨y::ys,by simp[h3,h5],.cons _ _ _ _ _ h4 h6⟩
theorem results_run {fn:Func} {tmps:Array Value} {ys:List Value} (h:(fn.results.toList.mapM (resRun tmps)).run P w=.ok ys w):
  (results fn tmps).run P w=.ok (if h:ys.length=1 then ys[0]else .tuple ys.toArray) w:=by
 have h1:fn.results.mapM (resRun tmps)=List.toArray <$> fn.results.toList.mapM (resRun tmps):=by
  rw[<-List.mapM_toArray]
 have h2:results fn tmps=(do let vs <- fn.results.mapM (resRun tmps);pure (if h:vs.size=1 then vs[0]else .tuple vs)):=by
  unfold results
  congr 2
 rw[h2,h1]
 simp only[Sem.run_bind,Sem.run_map,h,Result.andThen]
 rfl

theorem frzC_rep (hS:∀ n,S n->S2 n) (hh:HRel w S μ (hget h)) {d:Nat} {c c':Cont} {off len:Nat} (hle:off+len<=c.len) {ks:Nat->List Value} (hkr:∀ i,i<c.len->RepC w S (qD μ c) (c.get i) (ks i))
  (hok:holds (frzCO (frzOk h d) (c.cut off len))) (hrch:Reach μ h S2 (deepC h d (c.cut off len))) (hc':frzC (frz h d) (c.cut off len)=some c'):c'.len=len/\∀ i,i<len->RepC w S2 qR (c'.get i) (ks (off+i)):=by
 have hm:Mono w w S S2:=⟨hS,fun _ _ _=>rfl⟩
 have hcl:=Cont.len_cut c off len hle
 unfold frzC at hc'
 split at hc'
 ·rename_i vs hvs
  split at hc'
  case h_2=>cases hc'
  rename_i ws hws
  simp at hc';subst hc'
  rw[hvs]at hrch hok
  obtain⟨hl2,hg2⟩:=mapO_get vs ws hws
  have hvl:vs.length=len:=by rw[<-hcl,hvs];rfl
  refine⟨by simp[Cont.len,hl2,hvl],fun i hi => ?_⟩
  have hvi:vs[i]? = some (vs[i]'(by omega)):=List.getElem?_eq_getElem _
  obtain⟨v2,hv2,hf2⟩:=hg2 i _ hvi
  have hki:=hkr (off+i) (by omega)
  have hrow:qD μ c=μ:=by
   have:qD μ (c.cut off len)=μ:=by rw[hvs];rfl
   rwa[rowMu_cut]at this
  rw[hrow,<-Cont.get_cut c off len i hi,hvs]at hki
  simp only[Cont.get,List.getD_eq_getElem?_getD,hvi,Option.getD_some]at hki
  have:=(frz_rep hS hh d _ v2 (holds_foldO hok _ (List.getElem_mem _)) (hrch.sub (fun q hq=>List.mem_flatMap.2 ⟨_,List.getElem_mem _,hq⟩)) hf2).1 _ hki
  simpa [Cont.get,List.getD_eq_getElem?_getD,hv2]using this
 ·rename_i c2 hcne
  simp at hc'
  subst hc'
  refine⟨hcl,fun i hi => ?_⟩
  have hki:=hkr (off+i) (by omega)
  have hrow:qD μ c=qR:=by
   rw[<-rowMu_cut μ c off len]
   cases hcc:c.cut off len<;>first|rfl|exact absurd hcc (hcne _)
  rw[hrow,<-Cont.get_cut c off len i hi]at hki
  exact hki.mono hm _ (MuLe.refl _)

def noAgg:PV->Bool
 | .agg _=>false
 | _=>true
theorem frz_noAgg {d:Nat} {v v':PV} (h1:frz h d v=some v') (h2:noAgg v=true):noAgg v'=true/\∀ e c,v' ≠ .fr e c:=by
 cases d with
 | zero=>simp[frz]at h1
 | succ d=>
  cases v<;>simp only[frz]at h1
  case agg=>cases h2
  all_goals (repeat' split at h1)
  all_goals first|(cases h1;done)|(simp at h1;subst h1;exact⟨rfl,fun _ _ h=>by cases h⟩)
theorem frz_noFr {d:Nat} {v v':PV} (h1:frz h d v=some v'):∀ e c,v' ≠ .fr e c:=by
 cases d with
 | zero=>simp[frz]at h1
 | succ d=>
  cases v<;>simp only[frz]at h1
  all_goals (repeat' split at h1)
  all_goals first|(cases h1;done)|(simp at h1;subst h1;exact fun _ _ h=>by cases h)
theorem unfr1_id {m:Nat} {v:PV} {nbs:List Blk} (h:∀ e c,v ≠ .fr e c):unfr1 m v nbs=(v,nbs):=by
 cases v<;>first|rfl|exact absurd rfl (h _ _)

def Given (w:World) (S2:Nat->Prop) (μ:Mu) (h:qT) (m:Nat) (gv:List Nat) (ks:List Blk):Prop:=
 ks.length=gv.length/\∀ (j:Nat) (k:Blk) (b:Nat),ks[j]? = some k->gv[j]? = some b->m<=b/\(∃ k0,hget h b=some k0)/\∃ a z,μ b=some (a,z)/\BlkRel w S2 qR k a z
theorem Given.nil {m:Nat}:Given w S2 μ h m [] []:=⟨rfl,fun j k b h=>by simp at h⟩
theorem Given.append {m:Nat} {g1 g2:List Nat} {k1 k2:List Blk} (h1:Given w S2 μ h m g1 k1) (h2:Given w S2 μ h m g2 k2):Given w S2 μ h m (g1++g2) (k1++k2):=by
 refine⟨by simp[h1.1,h2.1],fun j k b hk hb => ?_⟩
 by_cases hj:j<k1.length
 ·rw[List.getElem?_append_left hj]at hk
  rw[List.getElem?_append_left (by rw[<-h1.1];exact hj)]at hb
  exact h1.2 j k b hk hb
 ·rw[List.getElem?_append_right (by omega)]at hk
  rw[List.getElem?_append_right (by rw[<-h1.1];omega),<-h1.1]at hb
  exact h2.2 _ k b hk hb
structure OutOK (w:World) (S S2:Nat->Prop) (μ μ':Mu) (h:qT) (m:Nat) (v u:PV) (gv:List Nat) (ks:List Blk):Prop where
 agg:isAgg u=isAgg v
 rc:∀ cs,RepC w S μ v cs->RepC w S2 μ' u cs
 rv:∀ x,RepV w S μ v x->RepV w S2 μ' u x
 giv:Given w S2 μ h m gv ks

theorem view_ok (hS:∀ n,S n->S2 n) (hh:HRel w S μ (hget h)) {m d:Nat} {v:PV} {o:Out} (ho:viewO h d v=some o) (hok:holds o.ok) (hr:Reach μ h S2 o.vw) {μ':Mu} (nbs:List Blk):
  ∃ u ks,unfr1 m o.v nbs=(u,nbs++ks)/\OutOK w S S2 μ μ' h m v u o.gv ks:=by
 unfold viewO at ho
 split at ho
 case h_2=>cases ho
 rename_i v' hv'
 simp at ho;subst ho
 refine⟨v',[],by simp[unfr1_id (frz_noFr hv')],?_,fun cs hc => ?_,fun x hx => ?_,.nil⟩
 ·cases d with
  | zero=>simp[frz]at hv'
  | succ d=>
   cases v<;>simp only[frz]at hv'
   all_goals (repeat' split at hv')
   all_goals first|(cases hv';done)|(simp at hv';subst hv';rfl)
 ·exact((frz_rep hS hh d v v' hok hr hv').1 cs hc).mono ⟨fun _ h=>h,fun _ _ _=>rfl⟩ _ (MuLe.none _)
 ·exact((frz_rep hS hh d v v' hok hr hv').2 x hx).mono ⟨fun _ h=>h,fun _ _ _=>rfl⟩ (MuLe.none _)
theorem fresh1_ok (hS:∀ n,S n->S2 n) (hh:HRel w S μ (hget h)) {m d:Nat} {v:PV} {o:Out} (ho:fresh1 m h d v=some o) (hok:holds o.ok) (hr:Reach μ h S2 o.vw) {μ':Mu} (hμ:∀ b,b<m->μ' b=μ b)
  (nbs:List Blk) (hg:∀ (j b:Nat),o.gv[j]? = some b->μ' (m+nbs.length+j)=μ b):
  ∃ u ks,unfr1 m o.v nbs=(u,nbs++ks)/\OutOK w S S2 μ μ' h m v u o.gv ks:=by
 unfold fresh1 at ho
 split at ho
 ·rename_i b e off len
  split at ho
  ·rename_i hb
   simp at ho hb;subst ho
   refine⟨.sl b e off len,[],by simp[unfr1],rfl,fun cs hc => ?_,fun x hx => ?_,.nil⟩
   ·cases hc with|sl=>exact .sl _ _ _ _ _ _ _ _ _ ((hμ b hb).trans (by assumption)) (by assumption) (by assumption) (by assumption)
   ·cases hx with
    | agg _ _ _ hv=>cases hv
    | cell _ _ _ _ hc=>cases hc with|sl=>exact .cell _ _ _ rfl (.sl _ _ _ _ _ _ _ _ _ ((hμ b hb).trans (by assumption)) (by assumption) (by assumption) (by assumption))
  ·rename_i hb
   have hb':m<=b:=by
    rcases Nat.lt_or_ge b m with h|h
    ·rw[(by simpa using h:Nat.blt b m=true)]at hb;cases hb
    ·exact h
   split at ho
   ·rename_i k hk
    split at ho
    case h_2=>cases ho
    rename_i hck
    simp only[Bool.and_eq_true,beq_iff_eq]at hck
    split at ho
    case h_2=>cases ho
    rename_i c hc
    simp at ho;subst ho
    obtain⟨hok1,hok2⟩:=holds_oand hok
    have hck:=And.intro hck.1 (lenOk_le hck.2 hok1)
    obtain⟨a,z,hmu,cur,T',ks,hg1,hzz,hlez,hkr,hkl,hkc⟩:=hh.blk b k hk
    obtain⟨hcl,hcr⟩:=frzC_rep hS hh (off:=0) (by omega) hkr hok2 hr hc
    have hmu':μ' (m+nbs.length)=μ b:=by
     have:=hg 0 b rfl
     simpa using this
    have hsl:∀ cs,RepC w S μ (.sl b e 0 len) cs->RepC w S2 μ' (.sl (m+nbs.length) e 0 c.len) cs:=by
     intro cs hcs
     rw[hcl]
     cases hcs with|sl=>exact .sl _ _ _ _ _ _ _ _ _ (hmu'.trans (by assumption)) (by assumption) (by assumption) (by assumption)
    refine⟨.sl (m+nbs.length) e 0 c.len,[⟨e,c⟩],rfl,rfl,hsl,fun x hx => ?_,rfl,fun j k' b' hj hj' => ?_⟩
    ·cases hx with
     | agg _ _ _ hv=>cases hv
     | cell _ _ _ _ hc=>exact .cell _ _ _ rfl (hsl _ hc)
    ·cases j with
     | succ j=>simp at hj
     | zero=>
      simp at hj hj';subst hj;subst hj'
      refine⟨hb',⟨k,hk⟩,a,z,hmu,cur,T',ks,hg1,hzz,?_,fun i hi => ?_,fun i hi => ?_,fun i j hi hj => ?_⟩
      ·simp only
       rw[hcl,<-hck.1]
       exact Nat.le_trans (Nat.mul_le_mul_right _ hck.2) hlez
      ·simp only at hi ⊢
       have hrow:qD qR c=qR:=by cases c<;>rfl
       rw[hrow]
       have:=hcr i (by omega)
       rwa[Nat.zero_add]at this
      ·simp only at hi ⊢
       rw[<-hck.1];exact hkl i (by omega)
      ·simp only at hi hj ⊢
       rw[<-hck.1]at hj ⊢;exact hkc i j (by omega) hj
   ·exact view_ok hS hh ho hok hr nbs
 ·rename_i b e i off p
  split at ho
  ·rename_i hb
   simp at ho hb;subst ho
   refine⟨.ptr b e i off p,[],by simp[unfr1],rfl,fun cs hc => ?_,fun x hx => ?_,.nil⟩
   ·cases hc with|ptr=>exact .ptr _ _ _ _ _ _ _ _ ((hμ b hb).trans (by assumption))
   ·cases hx with
    | agg _ _ _ hv=>cases hv
    | cell _ _ _ _ hc=>cases hc with|ptr=>exact .cell _ _ _ rfl (.ptr _ _ _ _ _ _ _ _ ((hμ b hb).trans (by assumption)))
  ·exact view_ok hS hh ho hok hr nbs
 ·exact view_ok hS hh ho hok hr nbs
theorem fresh1_noAgg {m d:Nat} {v:PV} {o:Out} (ho:fresh1 m h d v=some o) (hv:noAgg v=true):noAgg o.v=true:=by
 unfold fresh1 viewO at ho
 repeat' split at ho
 all_goals first|(cases ho;done)|(simp at ho;subst ho;rfl)|skip
 all_goals
  rename_i h1
  simp at ho;subst ho
  exact(frz_noAgg h1 hv).1

theorem freshL_ok (hS:∀ n,S n->S2 n) (hh:HRel w S μ (hget h)) {m d:Nat} {μ':Mu} (hμ:∀ b,b<m->μ' b=μ b):∀ (vs:List PV) (p:Outs),freshL m h d vs=some p->holds p.ok->Reach μ h S2 p.vw->
  ∀ (nbs:List Blk),(∀ (j b:Nat),p.gv[j]? = some b->μ' (m+nbs.length+j)=μ b)->
  ∃ us ks,unfrL m p.v nbs=(us,nbs++ks)/\Given w S2 μ h m p.gv ks/\(∀ cs,RepL w S μ vs cs->RepL w S2 μ' us cs)
 | [],p,ho,hok,hr,nbs,hg=>by
  simp[freshL]at ho;subst ho
  exact⟨[],[],by simp[unfrL],.nil,fun cs hc=>by cases hc;exact .nil _⟩
 | v::vs,p,ho,hok,hr,nbs,hg=>by
  simp only[freshL]at ho
  split at ho
  case h_2=>cases ho
  rename_i o ho1
  split at ho
  case h_2=>cases ho
  rename_i p2 ho2
  simp at ho;subst ho
  obtain⟨hok1,hok2⟩:=holds_oand hok
  obtain⟨u,ks,h1,h2⟩:=fresh1_ok hS hh ho1 hok1 (hr.sub fun b hb=>List.mem_append.2 (.inl hb)) hμ nbs
   (fun j b hj=>hg j b (by rw[List.getElem?_append_left (List.getElem?_eq_some_iff.1 hj).1];exact hj))
  obtain⟨us,ks2,h3,h4,h5⟩:=freshL_ok hS hh hμ vs p2 ho2 hok2 (hr.sub fun b hb=>List.mem_append.2 (.inr hb)) (nbs++ks)
   (fun j b hj=>by
    have:=hg (o.gv.length+j) b (by rw[List.getElem?_append_right (by omega),Nat.add_sub_cancel_left];exact hj)
    rw[List.length_append,h2.giv.1]
    rwa[show m+nbs.length+(o.gv.length+j)=m+(nbs.length+o.gv.length)+j by omega]at this)
  refine⟨u::us,ks++ks2,by simp[unfrL,h1,h3],h2.giv.append h4,fun cs hc => ?_⟩
  cases hc with|cons _ _ _ c1 c2 g1 g2=>exact .cons _ _ _ _ _ (h2.rc _ g1) (h5 _ g2)
theorem freshA_ok (hS:∀ n,S n->S2 n) (hh:HRel w S μ (hget h)) {m:Nat} {v:PV} {o:Out} (ho:freshA m h v=some o) (hok:holds o.ok) (hr:Reach μ h S2 o.vw) {μ':Mu} (hμ:∀ b,b<m->μ' b=μ b)
  (nbs:List Blk) (hg:∀ (j b:Nat),o.gv[j]? = some b->μ' (m+nbs.length+j)=μ b):
  ∃ u ks,unfrA m o.v nbs=(u,nbs++ks)/\Given w S2 μ h m o.gv ks/\∀ x,RepV w S μ v x->RepV w S2 μ' u x:=by
 unfold freshA at ho
 split at ho
 ·rename_i vs
  split at ho
  case h_2=>cases ho
  rename_i p hL
  simp at ho;subst ho
  obtain⟨us,ks,h1,h2,h3⟩:=freshL_ok hS hh hμ vs p hL hok hr nbs hg
  refine⟨.agg us,ks,by simp[unfrA,h1],h2,fun x hx => ?_⟩
  cases hx with
  | agg _ _ cs _ hc=>cases hc with|agg _ _ _ hc=>exact .agg _ _ _ rfl (.agg _ _ _ (h3 _ hc))
  | cell _ _ _ hv=>cases hv
 ·rename_i hne
  obtain⟨u,ks,h1,h2⟩:=fresh1_ok hS hh ho hok hr hμ nbs hg
  have hna:noAgg o.v=true:=fresh1_noAgg ho (by cases v<;>first|rfl|exact absurd rfl (hne _))
  have:unfrA m o.v nbs=unfr1 m o.v nbs:=by
   generalize o.v=z at hna
   cases z<;>first|rfl|cases hna
  exact⟨u,ks,by rw[this];exact h1,h2.giv,h2.rv⟩
theorem freshT_ok (hS:∀ n,S n->S2 n) (hh:HRel w S μ (hget h)) {m:Nat} {μ':Mu} (hμ:∀ b,b<m->μ' b=μ b):∀ (vs:List PV) (p:Outs),freshT m h vs=some p->holds p.ok->Reach μ h S2 p.vw->
  ∀ (nbs:List Blk),(∀ (j b:Nat),p.gv[j]? = some b->μ' (m+nbs.length+j)=μ b)->
  ∃ us ks,unfrT m p.v nbs=(us,nbs++ks)/\Given w S2 μ h m p.gv ks/\(∀ cs,RepVL w S μ vs cs->RepVL w S2 μ' us cs)/\p.v.length=vs.length/\us.length=vs.length
 | [],p,ho,hok,hr,nbs,hg=>by
  simp[freshT]at ho;subst ho
  exact⟨[],[],by simp[unfrT],.nil,fun cs hc=>by cases hc;exact .nil _,rfl,rfl⟩
 | v::vs,p,ho,hok,hr,nbs,hg=>by
  simp only[freshT]at ho
  split at ho
  case h_2=>cases ho
  rename_i o ho1
  split at ho
  case h_2=>cases ho
  rename_i p2 ho2
  simp at ho;subst ho
  obtain⟨hok1,hok2⟩:=holds_oand hok
  obtain⟨u,ks,h1,h2,h2'⟩:=freshA_ok hS hh ho1 hok1 (hr.sub fun b hb=>List.mem_append.2 (.inl hb)) hμ nbs
   (fun j b hj=>hg j b (by rw[List.getElem?_append_left (List.getElem?_eq_some_iff.1 hj).1];exact hj))
  obtain⟨us,ks2,h3,h4,h5,h6,h7⟩:=freshT_ok hS hh hμ vs p2 ho2 hok2 (hr.sub fun b hb=>List.mem_append.2 (.inr hb)) (nbs++ks)
   (fun j b hj=>by
    have:=hg (o.gv.length+j) b (by rw[List.getElem?_append_right (by omega),Nat.add_sub_cancel_left];exact hj)
    rw[List.length_append,h2.1]
    rwa[show m+nbs.length+(o.gv.length+j)=m+(nbs.length+o.gv.length)+j by omega]at this)
  refine⟨u::us,ks++ks2,by simp[unfrT,h1,h3],h2.append h4,fun cs hc => ?_,by simp[h6],by simp[h7]⟩
  cases hc with|cons _ _ _ c1 c2 g1 g2=>exact .cons _ _ _ _ _ (h2' _ g1) (h5 _ g2)
theorem foldO_none {g:PV->Option Bool}:∀ (vs:List PV),(∀ v∈vs,g v=none)->foldO g vs=none
 | [],_=>rfl
 | v::vs,h=>by
  simp only[foldO]
  rw[h v (by simp),foldO_none vs fun u hu=>h u (by simp[hu])]
  rfl
theorem frzOk_nil:∀ (d:Nat) (v:PV),frzOk [] d v=none
 | 0,_=>rfl
 | d+1,v=>by
  cases v<;>simp only[frzOk]<;>first|rfl|exact foldO_none _ fun u _=>frzOk_nil d u|exact frzOk_nil d _
theorem firstM_ok (hh:HRel w S μ (hget h)):∀ (m:Nat) (hs:List Blk),firstM h m=some hs->hs.length=m/\(∀ b,b<m->∃ k,hget h b=some k)/\∀ (j:Nat) (k:Blk),hs[j]? = some k->∃ a z,μ j=some (a,z)/\BlkRel w S qR k a z
 | 0,hs,ho=>by simp[firstM]at ho;subst ho;exact⟨rfl,fun b h=>by omega,fun j k h=>by simp at h⟩
 | m+1,hs,ho=>by
  simp only[firstM]at ho
  split at ho
  case h_2=>cases ho
  rename_i l k hl hk
  split at ho
  case h_2=>cases ho
  rename_i c hc
  simp at ho;subst ho
  obtain⟨h1,h2,h3⟩:=firstM_ok hh m l hl
  refine⟨by simp[h1],fun b hb => ?_,fun j k' hj => ?_⟩
  ·by_cases hbm:b<m
   ·exact h2 b hbm
   ·have:b=m:=by omega
    subst this;exact⟨k,hk⟩
  ·by_cases hjm:j<l.length
   ·rw[List.getElem?_append_left hjm]at hj
    exact h3 j k' hj
   ·rw[List.getElem?_append_right (by omega)]at hj
    have hj0:j-l.length=0:=by
     have:=(List.getElem?_eq_some_iff.1 hj).1
     simpa using this
    rw[hj0]at hj
    simp at hj;subst hj
    have hjm':j=m:=by omega
    subst hjm'
    obtain⟨a,z,hmu,cur,T',ks,hg1,hzz,hlez,hkr,hkl,hkc⟩:=hh.blk j k hk
    have hcut:frzC (frz [] 6) (k.c.cut 0 k.c.len)=some c\/True:=.inr trivial
    have hH0:HRel w S μ (hget []):=⟨fun b k hb=>by simp[hget]at hb,fun b k a z hb=>by simp[hget]at hb,fun b b' k k' a z z' hb=>by simp[hget]at hb,hh.lt⟩
    have hno:∀ l,Reach μ [] S l:=fun l b _ k a z hk=>by simp[hget]at hk
    have key:c.len=k.c.len/\∀ i,i<k.c.len->RepC w S qR (c.get i) (ks i):=by
     unfold frzC at hc
     split at hc
     ·rename_i vs hvs
      split at hc
      case h_2=>cases hc
      rename_i ws hws
      simp at hc;subst hc
      obtain⟨hl2,hg2⟩:=mapO_get vs ws hws
      refine⟨by rw[hvs];simp[Cont.len,hl2],fun i hi => ?_⟩
      have hki:=hkr i hi
      rw[hvs]at hki hi
      have hvi:vs[i]? = some (vs[i]'hi):=List.getElem?_eq_getElem _
      obtain⟨v2,hv2,hf2⟩:=hg2 i _ hvi
      simp only[Cont.get,qD,List.getD_eq_getElem?_getD,hvi,Option.getD_some]at hki
      have:=(frz_rep (fun _ h=>h) hH0 6 _ v2 (by rw[frzOk_nil];trivial) (hno _) hf2).1 _ hki
      simpa [Cont.get,List.getD_eq_getElem?_getD,hv2]using this
     ·rename_i c2 hcne
      simp at hc
      subst hc
      refine⟨rfl,fun i hi => ?_⟩
      have hrow:qD μ k.c=qR:=by
       cases hcc:k.c<;>first|rfl|exact absurd hcc (hcne _)
      have:=hkr i hi
      rwa[hrow]at this
    refine⟨a,z,hmu,cur,T',ks,hg1,hzz,by simpa [key.1]using hlez,fun i hi => ?_,by simpa [key.1]using hkl,by simpa [key.1]using hkc⟩
    have hrow:qD qR c=qR:=by cases c<;>rfl
    simp only at hi ⊢
    rw[hrow]
    exact key.2 i (by rw[<-key.1];exact hi)
end
end
section
open Go
theorem nodupB_spec:∀ {l:List Nat},nodupB l=true->l.Nodup
 | [],_=>.nil
 | b::r,h=>by
  simp only[nodupB,Bool.and_eq_true]at h
  exact List.nodup_cons.2 ⟨by simpa using h.1,nodupB_spec h.2⟩
section
variable {P:Program} {G:World->(Nat->Prop)->Prop} {O:Orc} {L:Lps} {pol:Pol}
theorem endF_ok {fn:Func} {m:Nat} {K:PV->List Blk->Tr} {s:St} {x:Res} (h:(endF P fn m K s).run=some x):
  ∃ r hs',(K r hs').run=some x/\∀ (E:Env),E.m=m->∀ a w,SInv G E s a w->a.defers=[]/\∃ v,(results fn a.tmps).run P w=.ok v w/\
   ∃ S' μ',CPost E.w0 w E.S0 S' E.μ0 μ' m (unfr m r).1 hs' (unfr m r).2 v:=by
 unfold endF at h
 split at h
 case h_2=>cases h
 rename_i vs hs hvs hhs
 split at h
 case h_2=>cases h
 rename_i p hfr
 split at h
 case h_2=>cases h
 rename_i hok
 obtain⟨hpok,h⟩:=brO_run h
 obtain⟨rs,vw,gv,pok⟩:=p
 simp only at hok h hpok
 simp only[Bool.and_eq_true,endOk]at hok
 obtain⟨⟨⟨hok1,hok2⟩,hok3⟩,hone⟩:=hok
 refine⟨one rs,hs,h,fun E hE a w hi => ?_⟩
 obtain⟨S,μ,iv⟩:=hi
 refine⟨iv.defers,?_⟩
 obtain⟨ys,hys,hrep⟩:=resL_ok (P:=P) iv.rep iv.hrel _ _ hvs
 refine⟨_,results_run hys,?_⟩
 obtain⟨hlen,hlive,hwr⟩:=firstM_ok iv.hrel m hs hhs
 let S2:Nat->Prop:=fun n=>S n\/∃ b∈vw,∃ k z,hget s.h b=some k/\μ b=some (n,z)
 let μ2:Mu:=muOf μ (upto 0 m++gv)
 have hμ:∀ b,b<m->μ2 b=μ b:=by
  intro b hb
  simp only[μ2,muOf]
  rw[List.getElem?_append_left (by rw[upto_length];exact hb),upto_get _ _ _ hb,Nat.zero_add]
 have hμ2:∀ (j b:Nat),gv[j]? = some b->μ2 (m+j)=μ b:=by
  intro j b hj
  simp only[μ2,muOf]
  rw[List.getElem?_append_right (by rw[upto_length];omega),upto_length,Nat.add_sub_cancel_left,hj]
 obtain⟨us,ks,h1,h2,h3,h4,h5⟩:=freshT_ok (S2:=S2) (μ':=μ2) (fun n hn=>.inl hn) iv.hrel hμ vs ⟨rs,vw,gv,pok⟩ hfr hpok (fun b hb k a z hk hmu=>.inr ⟨b,hb,k,z,hk,hmu⟩) [] (fun j b hj=>by simpa using hμ2 j b hj)
 rw[List.nil_append]at h1
 simp only at h1 h2 h4
 have hrep2:=h3 _ hrep
 -- what is not from before
 have place:∀ b k a z,hget s.h b=some k->μ b=some (a,z)->m<=b->E.w0.heap.size<=a:=by
  intro b k a z hk hmu hb
  rcases iv.link.place b k a z hk hmu with h|⟨b0,z',h6,h7⟩
  ·exact h
  ·rw[hE]at h6
   obtain⟨k0,hk0⟩:=hlive b0 h6
   have:=iv.link.mu b0 (by rw[hE];exact h6)
   rw[h7]at this
   have:=iv.hrel.inj b b0 k k0 a z z' hk hk0 hmu this
   omega
 have vwm:∀ b∈vw,m<=b:=fun b hb=>by simpa using List.all_eq_true.1 hok1 b hb
 have new:∀ n,S2 n->E.S0 n\/(E.w0.heap.size<=n/\n<w.heap.size):=by
  intro n hn
  rcases hn with hn|⟨b,hb,k,z,hk,hmu⟩
  ·rcases iv.link.newS n hn with h|h|⟨b0,z',h6,h7⟩
   ·exact .inl h
   ·exact .inr ⟨h,iv.hrel.lt n hn⟩
   ·rw[hE]at h6
    obtain⟨k0,hk0⟩:=hlive b0 h6
    have:=iv.link.mu b0 (by rw[hE];exact h6)
    rw[h7]at this
    exact(iv.hrel.sep b0 k0 n z' hk0 this hn).elim
  ·obtain⟨a,z',h6,h7⟩:=iv.hrel.blk b k hk
   have:=hmu.symm.trans h6;cases this
   exact .inr ⟨place b k _ _ hk hmu (vwm b hb),h7.lt⟩
 have hm12:Mono w w S S2:=⟨fun n hn=>.inl hn,fun _ _ _=>rfl⟩
 have common:∀ r v,RepV w S2 μ2 r v->CPost E.w0 w E.S0 S2 E.μ0 μ2 m r hs ks v:=by
  intro r v hr
  refine⟨iv.link.os,iv.link.tape,iv.link.output,iv.link.size,fun n hn hno=>iv.link.old n hn fun b z hb=>hno b z (by rw[<-hE];exact hb),fun n hn=>.inl (iv.link.subS n hn),new,
   fun b hb=>(hμ b hb).trans (iv.link.mu b (by rw[hE];exact hb)),hr,fun j k hj => ?_,fun j k hj => ?_,fun j j' a z z' hj hj' hmu hmu' => ?_⟩
  ·obtain⟨a,z,h6,h7⟩:=hwr j k hj
   have hjm:j<m:=by rw[<-hlen];exact(List.getElem?_eq_some_iff.1 hj).1
   exact⟨a,z,(iv.link.mu j (by rw[hE];exact hjm)).symm.trans h6,h7.mono hm12 (MuLe.refl _) rfl⟩
  ·have hlt:=(List.getElem?_eq_some_iff.1 hj).1
   rw[h2.1]at hlt
   have hgj:gv[j]? = some (gv[j]'hlt):=List.getElem?_eq_getElem _
   obtain⟨h6,⟨k0,h7⟩,a,z,h8,h9⟩:=h2.2 j k _ hj hgj
   refine⟨a,z,(hμ2 j _ hgj).trans h8,h9,fun hS => ?_,place _ k0 a z h7 h8 h6⟩
   rcases hS with hS|⟨b',hb',k',z',hk',hmu'⟩
   ·exact iv.hrel.sep _ k0 a z h7 h8 hS
   ·have:=iv.hrel.inj _ b' k0 k' a z z' h7 hk' h8 hmu'
    have hmem:gv[j]'hlt∈gv:=List.getElem_mem hlt
    exact disj_spec hok3 hmem (by rw[this];exact hb')
  ·rw[h2.1]at hj hj'
   have hgj:gv[j]? = some (gv[j]'hj):=List.getElem?_eq_getElem _
   have hgj':gv[j']? = some (gv[j']'hj'):=List.getElem?_eq_getElem _
   have hkj:ks[j]? = some (ks[j]'(by rw[h2.1];exact hj)):=List.getElem?_eq_getElem _
   have hkj':ks[j']? = some (ks[j']'(by rw[h2.1];exact hj')):=List.getElem?_eq_getElem _
   obtain⟨_,⟨k0,h7⟩,_⟩:=h2.2 j _ _ hkj hgj
   obtain⟨_,⟨k0',h7'⟩,_⟩:=h2.2 j' _ _ hkj' hgj'
   rw[hμ2 j _ hgj]at hmu
   rw[hμ2 j' _ hgj']at hmu'
   have:=iv.hrel.inj _ _ k0 k0' a z z' h7 h7' hmu hmu'
   exact nodup_get (nodupB_spec hok2) hgj (by rw[hgj',this])
 refine⟨S2,μ2,?_⟩
 match rs,us,ys,hone,h1,h4,h5,hrep2,hrep with
 | [r1],us,ys,hone,h1,h4,h5,hrep2,hrep=>
  have hu:unfr m r1=unfrA m r1 []:=by
   cases r1<;>first|rfl|cases hone
  simp only[unfrT]at h1
  have h1':[(unfrA m r1 []).1]=us/\(unfrA m r1 []).2=ks:=by
   constructor
   ·exact congrArg Prod.fst h1
   ·exact congrArg Prod.snd h1
  obtain⟨h1a,h1b⟩:=h1'
  have hy1:ys.length=1:=by rw[hrep.length];simpa using h4.symm
  simp only[one]
  rw[hu,h1b]
  rw[dif_pos hy1]
  refine common _ _ ?_
  rw[<-h1a]at hrep2
  match ys,hrep2 with
  | y::ys',.cons _ _ _ _ _ hr _=>exact hr
 | [],us,ys,hone,h1,h4,h5,hrep2,hrep=>
  simp[unfrT]at h1
  obtain⟨rfl,rfl⟩:=h1
  have hy0:ys=[]:=by
   have:=hrep.length
   rw[<-h4]at this
   exact List.eq_nil_of_length_eq_zero this
  subst hy0
  simp only[one,unfr,unfrT]
  exact common _ _ (.tup _ _ _ hrep2)
 | r1::r2::rs',us,ys,hone,h1,h4,h5,hrep2,hrep=>
  have hy:¬ ys.length=1:=by rw[hrep.length,<-h4];simp
  simp only[one,unfr]
  rw[h1,dif_neg hy]
  exact common _ _ (.tup _ _ _ hrep2)
structure Enters (P:Program) (g:Nat) (fn:Func) (c:Code):Prop where
 at_:P.funcs[g]? = some fn
 name:(fn.name=="runtime.NumGoroutine")=false
 body:fn.body=some c
theorem Does.of_calls {g:Nat} {fn:Func} {c:Code} (hg:Enters P g fn c) {vs:Array Value} {w:World} {R:Value->World->Prop} (h:Calls P g vs w fun e w'=>∃ v,e=.returned v/\R v w'):Does P g vs w R:=by
 intro o a K Q hK
 have:(callFunc g vs).run P w=.ok (.enter g vs) w:=by
  have hname:fn.name≠"runtime.NumGoroutine":=by simpa using hg.name
  simp[callFunc,hg.at_,hname,hg.body]
 rw[this,Oper.upon_enter]
 refine h.mono fun e w' he => ?_
 obtain⟨v,rfl,hv⟩:=he
 exact hK v w' hv
theorem Mono.refl' (w:World) (S:Nat->Prop):Mono w w S S:=⟨fun _ h=>h,fun _ _ _=>rfl⟩
theorem evF_ok (hG:GOk G) (hO:OrcOK P G O) (hmix:P.follows .mixedOrders=true) {g:Nat} {fn:Func} {c:Code} (hg:Enters P g fn c) {args:List PV} {hs:List Blk}
  (hl:LpsOK P G pol fn.ntmps hs.length L c) {K:PV->List Blk->Tr} {x:Res} (h:(evF P O L pol fn args hs K).run=some x):∃ r hs',PC P G g args hs r hs'/\(K r hs').run=some x:=by
 unfold evF at h
 rw[hg.body]at h
 simp only at h
 split at h
 case h_2=>cases h
 rename_i hle
 simp only[Nat.ble_eq]at hle
 have hn0:(args++List.replicate (fn.ntmps-args.length) PV.any).length=fn.ntmps:=by simp;omega
 obtain⟨e,sN,h1,h2⟩:=evC_ok (n:=fn.ntmps) (m:=hs.length) hG hO hmix c _ ⟨args++List.replicate (fn.ntmps-args.length) .any,hs.map some⟩ x hl hn0 (by simp) h
 have h3:(e=.ret\/e=.normal)/\(endF P fn hs.length K sN).run=some x:=by
  cases e with
  | ret=>exact⟨.inl rfl,h2⟩
  | normal=>exact⟨.inr rfl,h2⟩
  | _=>cases h2
 obtain⟨r,hs',h4,h5⟩:=endF_ok (G:=G) h3.2
 refine⟨r,hs',fun w S μ vs hGw hr hh hmu => ?_,h4⟩
 refine Does.of_calls hg (calls_of_wp hg.at_ hg.body ?_)
 refine h1.wp ⟨w,S,μ,hs.length⟩ rfl _ _ _ (fun a w' hi => ?_) ?_
 ·obtain⟨hd,v,hv,hc⟩:=h5 _ rfl a w' hi
  rcases h3.1 with rfl|rfl
  ·exact⟨hd,v,hv,v,rfl,hc⟩
  ·exact⟨hd,v,hv,v,rfl,hc⟩
 ·have hlen:=hr.length
  refine⟨S,μ,hGw,rfl,?_,fun k => ?_,hh,fun b hb=>hmu b (by simpa using hb),⟨rfl,rfl,rfl,Nat.le_refl _,fun _ _ _=>rfl,fun _ h=>h,fun _ h=>.inl h,fun _ _=>rfl,fun b k a z hb hm=>.inr ⟨b,z,?_,hm⟩⟩⟩
  ·rw[hn0];simp[hlen];omega
  ·simp only[List.getD_eq_getElem?_getD,Array.getD_eq_getD_getElem?]
   by_cases hk:k<args.length
   ·rw[List.getElem?_append_left hk]
    obtain⟨y,hy,hry⟩:=hr.get k (args[k]'hk) (List.getElem?_eq_getElem _)
    rw[Array.getElem?_append_left (by simp;omega)]
    simp only[List.getElem?_toArray,hy,List.getElem?_eq_getElem hk,Option.getD_some]
    exact hry
   ·rw[List.getElem?_append_right (by omega)]
    have:((List.replicate (fn.ntmps-args.length) PV.any)[k-args.length]?).getD .any=.any:=by
     by_cases h':k-args.length<fn.ntmps-args.length<;>simp[h']
    rw[this];exact .any _ _
  ·have:=hget_lt hb
   simpa using this
end
end
section
open Go
theorem kD (a b:Bool):((a&&b)=true)=(a=true/\b=true):=Bool.and_eq_true a b
theorem kE {p:Prop} [Decidable p]:(decide p=true)=p:=decide_eq_true_eq
theorem kF {p:Prop} [i:Decidable p] (h:p):decide p=true:=decide_eq_true h
theorem kG {p:Prop} [i:Decidable p] (h:Not p):decide p=false:=decide_eq_false h
theorem kH {x y:Nat}:(Nat.ble x y=true)=(x<=y):=Nat.ble_eq
theorem kI {A:Type} {a:A} {l:List A}:(a::l).length=l.length+1:=List.length_cons
theorem kJ {A:Type}:([]:List A).length=0:=List.length_nil
theorem kK (b:Bool):((!b)=true)=(b=false):=Bool.not_eq_true' b
theorem kM {p:Prop} [Decidable p]:(decide p=false)↔Not p:=decide_eq_false_iff_not
def VLe (u v:PV):Prop:=isAgg v=isAgg u/\∀ (w:World) (S:Nat->Prop) (μ:Mu),(∀ cs,RepC w S μ u cs->RepC w S μ v cs)/\(∀ x,RepV w S μ u x->RepV w S μ v x)
def KLe (k k':Blk):Prop:=∀ (w:World) (S:Nat->Prop) (μ:Mu) (a z:Nat),BlkRel w S μ k a z->BlkRel w S μ k' a z
def KsLe (ks ks':List Blk):Prop:=ks.length=ks'.length/\∀ (j:Nat) (k k':Blk),ks[j]? = some k->ks'[j]? = some k'->KLe k k'
theorem VLe.refl (u:PV):VLe u u:=⟨rfl,fun _ _ _=>⟨fun _ h=>h,fun _ h=>h⟩⟩
theorem VLe.trans {u v w:PV} (h:VLe u v) (h':VLe v w):VLe u w:=⟨h'.1.trans h.1,fun a b c=>⟨fun cs hc=>(h'.2 a b c).1 cs ((h.2 a b c).1 cs hc),fun x hx=>(h'.2 a b c).2 x ((h.2 a b c).2 x hx)⟩⟩
theorem KLe.refl (k:Blk):KLe k k:=fun _ _ _ _ _ h=>h
theorem KsLe.refl (ks:List Blk):KsLe ks ks:=⟨rfl,fun j k k' h h'=>by rw[h]at h';cases h';exact .refl _⟩
structure RLe (r r':PV):Prop where
 v:∀ m,VLe (unfr m r).1 (unfr m r').1
 k:∀ m,KsLe (unfr m r).2 (unfr m r').2
theorem RLe.refl (r:PV):RLe r r:=⟨fun _=>.refl _,fun _=>.refl _⟩
theorem RLe.of {r r':PV} (h:r=r'):RLe r r':=h ▸ .refl r
theorem PC.le {P:Program} {G:World->(Nat->Prop)->Prop} {g:Nat} {args:List PV} {hs:List Blk} {r r':PV} {hs' hs'':List Blk} (h:PC P G g args hs r hs') (hr:RLe r r') (hk:KsLe hs' hs''):PC P G g args hs r' hs'':=by
 intro w S μ vs hg hrep hh hmu
 refine(h w S μ vs hg hrep hh hmu).mono fun v w' hv => ?_
 obtain⟨S',μ',c⟩:=hv
 obtain⟨hl,hk2⟩:=hr.k hs.length
 refine⟨S',μ',⟨c.os,c.tape,c.output,c.size,c.old,c.subS,c.newS,c.mu,((hr.v hs.length).2 _ _ _).2 _ c.rep,fun j k hj => ?_,fun j k hj => ?_,fun j j' a z z' hj hj'=>c.nwInj j j' a z z' (by omega) (by omega)⟩⟩
 ·have hlt:=(List.getElem?_eq_some_iff.1 hj).1
  have:hs'[j]? = some (hs'[j]'(by rw[hk.1];exact hlt)):=List.getElem?_eq_getElem _
  obtain⟨a,z,h1,h2⟩:=c.wr j _ this
  exact⟨a,z,h1,hk.2 j _ _ this hj _ _ _ _ _ h2⟩
 ·have hlt:=(List.getElem?_eq_some_iff.1 hj).1
  have:(unfr hs.length r).2[j]? = some ((unfr hs.length r).2[j]'(by rw[hl];exact hlt)):=List.getElem?_eq_getElem _
  obtain⟨a,z,h1,h2,h3⟩:=c.nw j _ this
  exact⟨a,z,h1,hk2 j _ _ this hj _ _ _ _ _ h2,h3⟩
abbrev ib (x:Int):Bool:=decide (-9223372036854775808<=x)&&decide (x<=9223372036854775807)
abbrev ix (x y:Int):Bool:=decide (0<=x)&&decide (x<y)
abbrev tk0 {α:Type} (l:List α):List α:=List.take l.length (List.drop 0 l)
def ql:PV->List Blk->Tr:=fun r hs=>.ok (.ret r hs)
theorem qj {P:Program} {G:World->(Nat->Prop)->Prop} (hG:GOk G) {O:Orc} (hO:OrcOK P G O) (hmix:P.follows .mixedOrders=true) {g:Nat} {fn:Func} {c:Code} (hg:Enters P g fn c)
  {L:Lps} {pol:Pol} {args:List PV} {hs:List Blk} (hl:LpsOK P G pol fn.ntmps hs.length L c) {r:PV} {hs':List Blk} (h:(evF P O L pol fn args hs ql).run=some (.ret r hs')):PC P G g args hs r hs':=by
 obtain⟨r1,hs1,h1,h2⟩:=evF_ok hG hO hmix hg hl h
 simp[ql,Tr.run]at h2
 obtain⟨rfl,rfl⟩:=h2
 exact h1
theorem spec_ev {P:Program} {G:World->(Nat->Prop)->Prop} (hG:GOk G) {O:Orc} (hO:OrcOK P G O) (hmix:P.follows .mixedOrders=true) {g:Nat} {fn:Func} {c:Code} (hg:Enters P g fn c)
  {L:Lps} {pol:Pol} (hl:∀ m,LpsOK P G pol fn.ntmps m L c):qc P G g (evF P O L pol fn):=fun _ hs _ _ h=>evF_ok hG hO hmix hg (hl hs.length) h
def qd (fn:Func):Code:=fn.body.getD .skip
theorem OrcOK.nil {P:Program} {G:World->(Nat->Prop)->Prop}:OrcOK P G []:=fun _ _ h=>by cases h
theorem OrcOK.cons {P:Program} {G:World->(Nat->Prop)->Prop} {g:Nat} {sp:Spec} {O:Orc} (h:qc P G g sp) (hO:OrcOK P G O):OrcOK P G ((g,sp)::O):=by
 intro k s hk
 simp only[Orc.look]at hk
 split at hk
 ·rename_i he
  simp at he hk;subst he;subst hk
  exact h
 ·exact hO k s hk
theorem kA {P:Program} {G:World->(Nat->Prop)->Prop} {pol:Pol} {n m:Nat} {L:Lps} {c:Code} (h:qi c=[]):LpsOK P G pol n m L c:=by
 intro a ha;rw[h]at ha;cases ha
theorem LpsOK.of {P:Program} {G:World->(Nat->Prop)->Prop} {pol:Pol} {n m:Nat} {L:Lps} {c:Code} {l:List Code} (hl:qi c=l)
  (h:∀ a∈l,∀ live sp,assoc (qr a) pol.live=some live->Lps.look (qr a) L=some sp->qz P G n m live a sp):LpsOK P G pol n m L c:=by
 intro a ha;rw[hl]at ha;exact h a ha
theorem Goes.count {R:LS->Exit->LS->Prop} (st:Nat->LS) {e:Exit} {ls':LS} (he:e ≠ .normal):∀ (n i:Nat),(∀ j,i<=j->j<i+n->R (st j) .normal (st (j+1)))->R (st (i+n)) e ls'->Goes R (st i) e ls'
 | 0,i,_,hl=>.last _ _ _ hl he
 | n+1,i,h,hl=>.more _ (st (i+1)) _ _ (h i (Nat.le_refl _) (by omega)) (Goes.count st he n (i+1) (fun j h1 h2=>h j (by omega) (by omega)) (by rw[show i+1+n=i+(n+1) by omega];exact hl))
theorem qN {P:Program} {G:World->(Nat->Prop)->Prop} {pol:Pol} {n m:Nat} {L:Lps} {c b:Code} {live:List Nat} {sp:qA} (hc:qi c=[b]) (e1:assoc (qr b) pol.live=some live)
  (e2:Lps.look (qr b) L=some sp) (h:qz P G n m live b sp):LpsOK P G pol n m L c:=by
 refine LpsOK.of hc fun a ha live' sp' h1 h2 => ?_
 simp at ha;subst ha
 rw[e1]at h1;rw[e2]at h2
 cases h1;cases h2
 exact h

theorem k5 {b:Bool} {x y:Tr} (h:b=true):(Tr.br b x y).run=x.run:=by subst h;rfl
theorem k6 {b:Bool} {x y:Tr} (h:b=false):(Tr.br b x y).run=y.run:=by subst h;rfl
theorem k8 {b:Bool} {x:Tr} {n:Nat} {r:Res} (h:(Tr.br b x (.no n)).run=some r):b=true/\x.run=some r:=by
 cases b with
 | true=>exact⟨rfl,h⟩
 | false=>cases h
theorem k7 {r:Res}:(Tr.ok r).run=some r:=rfl
end
section
def bv (l:List UInt8):Nat:=l.foldl (fun n b=>n*256+b.toNat) 0
theorem bv_foldl (l:List UInt8):∀ a,l.foldl (fun n b=>n*256+b.toNat) a=a*256^l.length+bv l:=by
 induction l with
 | nil=>intro a;simp[bv]
 | cons b l ih=>
  intro a
  simp only[bv,List.foldl_cons,kI]
  rw[ih,ih]
  rw[Nat.pow_succ]
  simp only[Nat.zero_mul,Nat.zero_add,Nat.add_mul]
  rw[Nat.mul_assoc,Nat.mul_comm 256,Nat.add_assoc]
theorem bv_append (l m:List UInt8):bv (l++m)=bv l*256^m.length+bv m:=by
 simp only[bv,List.foldl_append]
 exact bv_foldl m _
@[simp] theorem bv_nil:bv []=0:=rfl
@[simp] theorem bv_one (b:UInt8):bv [b]=b.toNat:=by simp[bv]
theorem bv_snoc (l:List UInt8) (b:UInt8):bv (l++[b])=bv l*256+b.toNat:=by rw[bv_append];simp
theorem bv_cons (b:UInt8) (l:List UInt8):bv (b::l)=b.toNat*256^l.length+bv l:=by
 have:=bv_append [b] l
 simpa using this
theorem bv_lt (l:List UInt8):bv l<256^l.length:=by
 induction l with
 | nil=>simp
 | cons b l ih=>
  rw[bv_cons,kI,Nat.pow_succ]
  have hb:b.toNat<256:=b.toNat_lt
  have h1:b.toNat*256^l.length<=255*256^l.length:=Nat.mul_le_mul_right _ (by omega)
  omega
theorem bv_zero_cons (l:List UInt8):bv (0::l)=bv l:=by rw[bv_cons];simp

def nbl (n:Nat):List UInt8:=qa n n []
theorem natBytesL_acc:∀ (d n:Nat) (acc:List UInt8),n<=d->qa d n acc=qa n n []++acc:=by
 intro d
 induction d using Nat.strongRecOn with
 | _ d ih=>
  intro n acc hn
  by_cases h0:n=0
  ·subst h0
   cases d<;>simp[qa]
  ·obtain⟨d',rfl⟩:∃ d',d=d'+1:=⟨d-1,by omega⟩
   obtain⟨n',rfl⟩:∃ n',n=n'+1:=⟨n-1,by omega⟩
   have hlt:(n'+1)/256<=n':=by omega
   simp only[qa,if_neg h0]
   rw[ih d' (by omega) _ _ (by omega),ih n' (by omega) _ [_] hlt,List.append_assoc]
   rfl
theorem nbl_zero:nbl 0=[]:=rfl
theorem nbl_pos {n:Nat} (h:n≠0):nbl n=nbl (n/256)++[UInt8.ofNat (n%256)]:=by
 obtain⟨n',rfl⟩:∃ n',n=n'+1:=⟨n-1,by omega⟩
 unfold nbl
 simp only[qa,if_neg h]
 exact natBytesL_acc _ _ _ (by omega)
theorem ofNat_toNat (n:Nat) (h:n<256):(UInt8.ofNat n).toNat=n:=by
 simp[UInt8.toNat_ofNat']
 omega
theorem bv_nbl (n:Nat):bv (nbl n)=n:=by
 induction n using Nat.strongRecOn with
 | _ n ih=>
  by_cases h:n=0
  ·subst h;rfl
  ·rw[nbl_pos h,bv_snoc,ih _ (by omega),ofNat_toNat _ (by omega)]
   omega
theorem nbl_eq_nil {n:Nat}:nbl n=[]↔n=0:=by
 constructor
 ·intro h
  have:=bv_nbl n
  rw[h]at this
  exact this.symm
 ·intro h;subst h;rfl
theorem bv_eq_zero {l:List UInt8}:bv l=0↔∀ b∈l,b=0:=by
 induction l with
 | nil=>simp
 | cons b l ih=>
  rw[bv_cons]
  constructor
  ·intro h c hc
   have hp:0<256^l.length:=Nat.pow_pos (by omega)
   have h1:b.toNat*256^l.length=0:=by omega
   have hb:b.toNat=0:=by
    rcases Nat.mul_eq_zero.1 h1 with h|h
    ·exact h
    ·omega
   rcases List.mem_cons.1 hc with rfl|hc
   ·exact UInt8.toNat_inj.1 (by simpa using hb)
   ·exact ih.1 (by omega) c hc
  ·intro h
   rw[h b (by simp),ih.2 fun c hc=>h c (by simp[hc])]
   simp
theorem nbl_bv (l:List UInt8):nbl (bv l)=l.dropWhile (· == 0):=by
 have key:∀ (r:List UInt8),nbl (bv r.reverse)=r.reverse.dropWhile (· == 0):=by
  intro r
  induction r with
  | nil=>rfl
  | cons b r ih=>
   rw[List.reverse_cons,bv_snoc]
   have hb:=b.toNat_lt
   by_cases h0:bv r.reverse=0
   ·have hz:∀ c∈r.reverse,(c==0)=true:=fun c hc=>by simpa using bv_eq_zero.1 h0 c hc
    have hd:(r.reverse++[b]).dropWhile (· == 0)=[b].dropWhile (· == 0):=by
     rw[List.dropWhile_append_of_pos]
     exact hz
    rw[hd,h0]
    by_cases hb0:b=0
    ·subst hb0;rfl
    ·have hbn:b.toNat≠0:=fun h=>hb0 (UInt8.toNat_inj.1 (by simpa using h))
     rw[nbl_pos (by omega)]
     have h1:(0*256+b.toNat)/256=0:=by omega
     have h2:(0*256+b.toNat)%256=b.toNat:=by omega
     rw[h1,h2,nbl_zero]
     have hb1:(b==0)=false:=by simpa using hb0
     simp[List.dropWhile,hb1]
   ·have hd:(r.reverse++[b]).dropWhile (· == 0)=r.reverse.dropWhile (· == 0)++[b]:=by
     rw[List.dropWhile_append]
     have:(r.reverse.dropWhile (· == 0)).isEmpty=false:=by
      rw[<-ih]
      cases hh:nbl (bv r.reverse)with
      | nil=>exact absurd (nbl_eq_nil.1 hh) h0
      | cons _ _=>rfl
     rw[this];rfl
    rw[hd,nbl_pos (by omega)]
    have h1:(bv r.reverse*256+b.toNat)/256=bv r.reverse:=by omega
    have h2:(bv r.reverse*256+b.toNat)%256=b.toNat:=by omega
    rw[h1,h2,ih]
    simp
 have:=key l.reverse
 rwa[List.reverse_reverse]at this
theorem nbl_length_le {n k:Nat} (h:n<256^k):(nbl n).length<=k:=by
 induction k generalizing n with
 | zero=>
  have:n=0:=by simpa using h
  subst this;simp[nbl_zero]
 | succ k ih=>
  by_cases h0:n=0
  ·subst h0;simp[nbl_zero]
  ·rw[nbl_pos h0]
   have:n/256<256^k:=by
    rw[Nat.div_lt_iff_lt_mul (by omega)]
    rw[Nat.pow_succ]at h
    exact h
   have:=ih this
   simp;omega
theorem nbl_lt (n:Nat):n<256^(nbl n).length:=by
 have:=bv_lt (nbl n)
 rwa[bv_nbl]at this
theorem nbl_le {n:Nat} (h:n≠0):256^((nbl n).length-1)<=n:=by
 rcases Nat.lt_or_ge n (256^((nbl n).length-1))with h1|h1
 ·have h2:=nbl_length_le h1
  have h3:(nbl n).length≠0:=fun h4=>h (nbl_eq_nil.1 (List.eq_nil_of_length_eq_zero h4))
  omega
 ·exact h1
theorem nb_eq (n:Nat):nb n=⟨(nbl n).toArray⟩:=rfl
theorem nb_data (n:Nat):(nb n).data.toList=nbl n:=rfl
theorem nb_size (n:Nat):(nb n).size=(nbl n).length:=by simp[nb_eq,ByteArray.size]

def lv (B:Nat):List Int->Nat
 | []=>0
 | x::xs=>x.toNat+B*lv B xs
theorem lv_append (B:Nat) (xs ys:List Int):lv B (xs++ys)=lv B xs+B^xs.length*lv B ys:=by
 induction xs with
 | nil=>simp[lv]
 | cons x xs ih=>
  simp only[List.cons_append,lv,kI,ih,Nat.pow_succ,Nat.mul_add]
  rw[Nat.add_assoc,Nat.mul_comm (B^xs.length) B,Nat.mul_assoc]
theorem lv_lt {B:Nat}:∀ {xs:List Int},(∀ x∈xs,x.toNat<B)->lv B xs<B^xs.length
 | [],_=>by simp[lv]
 | x::xs,h=>by
  have h1:=h x (by simp)
  have h2:=lv_lt (xs:=xs) fun y hy=>h y (by simp[hy])
  simp only[lv,kI,Nat.pow_succ]
  have h3:B*(lv B xs+1)<=B*B^xs.length:=Nat.mul_le_mul_left _ h2
  rw[Nat.mul_add,Nat.mul_one]at h3
  rw[Nat.mul_comm (B^xs.length)]
  omega
theorem lv_zeros (B n:Nat):lv B (List.replicate n 0)=0:=by
 induction n with
 | zero=>rfl
 | succ n ih=>simp[List.replicate_succ,lv,ih]
def dgF (B:Nat):Nat->Nat->List Int
 | 0,_=>[]
 | f+1,n=>if n=0 then []else ((n%B:Nat):Int)::dgF B f (n/B)
def dg (B n:Nat):List Int:=dgF B n n
theorem dgF_eq {B:Nat} (hB:2<=B):∀ (f g n:Nat),n<=f->n<=g->dgF B f n=dgF B g n:=by
 intro f
 induction f with
 | zero=>
  intro g n h1 h2;have:n=0:=by omega
  subst this;cases g<;>simp[dgF]
 | succ f ih=>
  intro g n h1 h2
  by_cases h0:n=0
  ·subst h0;cases g<;>simp[dgF]
  ·obtain⟨g',rfl⟩:∃ g',g=g'+1:=⟨g-1,by omega⟩
   have:n/B<n:=Nat.div_lt_self (by omega) (by omega)
   simp only[dgF,if_neg h0]
   rw[ih g' (n/B) (by omega) (by omega)]
theorem dg_zero (B:Nat):dg B 0=[]:=rfl
theorem dg_pos {B n:Nat} (hB:2<=B) (h:n≠0):dg B n=((n%B:Nat):Int)::dg B (n/B):=by
 obtain⟨n',rfl⟩:∃ n',n=n'+1:=⟨n-1,by omega⟩
 have:(n'+1)/B<n'+1:=Nat.div_lt_self (by omega) (by omega)
 unfold dg
 simp only[dgF,if_neg h]
 rw[dgF_eq hB n' ((n'+1)/B) _ (by omega) (Nat.le_refl _)]
theorem lv_dg {B:Nat} (hB:2<=B) (n:Nat):lv B (dg B n)=n:=by
 induction n using Nat.strongRecOn with
 | _ n ih=>
  by_cases h:n=0
  ·subst h;rfl
  ·have:n/B<n:=Nat.div_lt_self (by omega) (by omega)
   rw[dg_pos hB h]
   simp only[lv,ih _ this,Int.toNat_natCast]
   exact Nat.mod_add_div n B
theorem dg_mem {B:Nat} (hB:2<=B) (n:Nat):∀ x∈dg B n,0<=x/\x<(B:Int):=by
 induction n using Nat.strongRecOn with
 | _ n ih=>
  by_cases h:n=0
  ·subst h;intro x hx;cases hx
  ·have h1:n/B<n:=Nat.div_lt_self (by omega) (by omega)
   rw[dg_pos hB h]
   intro x hx
   rcases List.mem_cons.1 hx with rfl|hx
   ·have:=Nat.mod_lt n (show 0<B by omega)
    omega
   ·exact ih _ h1 x hx
theorem dg_length_le {B n k:Nat} (hB:2<=B) (h:n<B^k):(dg B n).length<=k:=by
 induction k generalizing n with
 | zero=>
  have:n=0:=by simpa using h
  subst this;simp[dg_zero]
 | succ k ih=>
  by_cases h0:n=0
  ·subst h0;simp[dg_zero]
  ·rw[dg_pos hB h0]
   have:n/B<B^k:=by
    rw[Nat.div_lt_iff_lt_mul (by omega)]
    rw[Nat.pow_succ]at h
    exact h
   have:=ih this
   simp;omega
theorem dg_lt {B:Nat} (hB:2<=B) (n:Nat):n<B^(dg B n).length:=by
 have:=lv_lt (B:=B) (xs:=dg B n) fun x hx=>by have:=dg_mem hB n x hx;omega
 rwa[lv_dg hB]at this
theorem dg_le {B n:Nat} (hB:2<=B) (h:n≠0):B^((dg B n).length-1)<=n:=by
 rcases Nat.lt_or_ge n (B^((dg B n).length-1))with h1|h1
 ·have h2:=dg_length_le hB h1
  have h3:(dg B n).length≠0:=fun h4=>by
   have h5:=List.eq_nil_of_length_eq_zero h4
   have:=lv_dg hB n
   rw[h5]at this
   exact h this.symm
  omega
 ·exact h1
theorem lv_inj {B:Nat}:∀ {xs ys:List Int},xs.length=ys.length->(∀ x∈xs,0<=x/\x<(B:Int))->(∀ y∈ys,0<=y/\y<(B:Int))->lv B xs=lv B ys->xs=ys
 | [],[],_,_,_,_=>rfl
 | [],_::_,h,_,_,_=>by simp at h
 | _::_,[],h,_,_,_=>by simp at h
 | x::xs,y::ys,hl,hx,hy,h=>by
  have h1:=hx x (by simp)
  have h2:=hy y (by simp)
  simp only[lv]at h
  have hB:0<B:=by omega
  have e1:(x.toNat+B*lv B xs)%B=x.toNat:=by rw[Nat.add_mul_mod_self_left];exact Nat.mod_eq_of_lt (by omega)
  have e2:(y.toNat+B*lv B ys)%B=y.toNat:=by rw[Nat.add_mul_mod_self_left];exact Nat.mod_eq_of_lt (by omega)
  have e3:x.toNat=y.toNat:=by rw[<-e1,h,e2]
  have e4:B*lv B xs=B*lv B ys:=by omega
  have e5:=Nat.eq_of_mul_eq_mul_left hB e4
  rw[lv_inj (by simpa using hl) (fun z hz=>hx z (by simp[hz])) (fun z hz=>hy z (by simp[hz])) e5]
  have:x=y:=by omega
  rw[this]
end
section
open Go
theorem ba_len (a:ByteArray):a.data.toList.length=a.size:=by rw[Array.length_toList];rfl
def bs (l:List UInt8):ByteArray:=⟨l.toArray⟩
theorem bs_data (l:List UInt8):(bs l).data.toList=l:=rfl
theorem bs_eq (a:ByteArray):a=bs a.data.toList:=by cases a;rfl
theorem bs_size (l:List UInt8):(bs l).size=l.length:=by rw[<-ba_len,bs_data]
theorem nb_bs (n:Nat):nb n=bs (nbl n):=rfl
theorem bs_extract (l:List UInt8) (i j:Nat):(bs l).extract i j=bs ((l.take j).drop i):=by
 rw[bs_eq ((bs l).extract i j)]
 congr 1
 rw[ByteArray.data_extract,Array.toList_extract,bs_data]
 simp[List.extract,List.drop_take]
theorem toNat_ofInt (n:Nat) (x:Int) (h0:0<=x) (h1:x<2^n):(BitVec.ofInt n x).toNat=x.toNat:=by
 obtain⟨m,rfl⟩:=Int.eq_ofNat_of_zero_le h0
 rw[BitVec.toNat_ofInt]
 have:((m:Int)%((2^n:Nat):Int))=m:=by
  refine Int.emod_eq_of_lt h0 ?_
  simpa using h1
 rw[this]
theorem or_add (n k:Nat) (a b:Int) (ha:0<=a) (hb:0<=b) (hb1:b<2^k) (hs:a*2^k+b<2^n):
  (BitVec.ofInt n (a*2^k) ||| BitVec.ofInt n b).toNat=(a*2^k+b).toNat:=by
 have hp:(0:Int)<2^k:=by
  have:=Nat.pow_pos (n:=k) (show 0<2 by omega)
  exact_mod_cast this
 have ha2:0<=a*2^k:=Int.mul_nonneg ha (by omega)
 rw[BitVec.toNat_or,toNat_ofInt n _ ha2 (by omega),toNat_ofInt n _ hb (by omega)]
 obtain⟨x,rfl⟩:=Int.eq_ofNat_of_zero_le ha
 obtain⟨y,rfl⟩:=Int.eq_ofNat_of_zero_le hb
 have hy:y<2^k:=by exact_mod_cast hb1
 have e1:((x:Int)*2^k).toNat=x <<< k:=by
  rw[Nat.shiftLeft_eq]
  have:((x:Int)*2^k)=((x*2^k:Nat):Int):=by simp
  rw[this,Int.toNat_natCast]
 have e2:((x:Int)*2^k+y).toNat=x <<< k+y:=by
  rw[Nat.shiftLeft_eq]
  have:((x:Int)*2^k+y)=((x*2^k+y:Nat):Int):=by simp
  rw[this,Int.toNat_natCast]
 rw[e1,e2,Int.toNat_natCast,Nat.shiftLeft_add_eq_or_of_lt hy]
theorem w64 {n:Int} (h0:0<=n) (h1:n<18446744073709551616):IntKind.u64.wrap n=n:=by rw[IntKind.wrap_u64];omega
theorem w32 {n:Int} (h0:0<=n) (h1:n<4294967296):IntKind.u32.wrap n=n:=by rw[IntKind.wrap_u32'];omega
theorem w8 {n:Int} (h0:0<=n) (h1:n<256):IntKind.u8.wrap n=n:=by rw[IntKind.wrap_u8'];omega
theorem wi64 {n:Int} (h0 : -9223372036854775808<=n) (h1:n<=9223372036854775807):IntKind.i64.wrap n=n:=by rw[IntKind.wrap_i64];omega
theorem or64 (k:Nat) (a b:Int) (ha:0<=a) (hb:0<=b) (hb1:b<2^k) (hs:a*2^k+b<18446744073709551616):
  IntKind.u64.wrap ((BitVec.ofInt IntKind.u64.bits (a*2^k) ||| BitVec.ofInt IntKind.u64.bits b).toNat:Int)=a*2^k+b:=by
 have h:=or_add 64 k a b ha hb hb1 hs
 have hp:(0:Int)<2^k:=by
  have:=Nat.pow_pos (n:=k) (show 0<2 by omega)
  exact_mod_cast this
 have ha2:0<=a*2^k:=Int.mul_nonneg ha (by omega)
 show IntKind.u64.wrap ((BitVec.ofInt 64 (a*2^k) ||| BitVec.ofInt 64 b).toNat:Int)=a*2^k+b
 rw[h,w64 (by omega) (by omega)]
 omega
theorem or32 (k:Nat) (a b:Int) (ha:0<=a) (hb:0<=b) (hb1:b<2^k) (hs:a*2^k+b<4294967296):
  IntKind.u32.wrap ((BitVec.ofInt IntKind.u32.bits (a*2^k) ||| BitVec.ofInt IntKind.u32.bits b).toNat:Int)=a*2^k+b:=by
 have h:=or_add 32 k a b ha hb hb1 hs
 have hp:(0:Int)<2^k:=by
  have:=Nat.pow_pos (n:=k) (show 0<2 by omega)
  exact_mod_cast this
 have ha2:0<=a*2^k:=Int.mul_nonneg ha (by omega)
 show IntKind.u32.wrap ((BitVec.ofInt 32 (a*2^k) ||| BitVec.ofInt 32 b).toNat:Int)=a*2^k+b
 rw[h,w32 (by omega) (by omega)]
 omega
theorem or32c (k:Nat) (a b:Int) (ha:0<=a) (hb:0<=b) (hb1:b<2^k) (hs:a*2^k+b<4294967296):
  IntKind.u32.wrap ((BitVec.ofInt IntKind.u32.bits b ||| BitVec.ofInt IntKind.u32.bits (a*2^k)).toNat:Int)=a*2^k+b:=by
 rw[BitVec.or_comm];exact or32 k a b ha hb hb1 hs
theorem or64c (k:Nat) (a b:Int) (ha:0<=a) (hb:0<=b) (hb1:b<2^k) (hs:a*2^k+b<18446744073709551616):
  IntKind.u64.wrap ((BitVec.ofInt IntKind.u64.bits b ||| BitVec.ofInt IntKind.u64.bits (a*2^k)).toNat:Int)=a*2^k+b:=by
 rw[BitVec.or_comm];exact or64 k a b ha hb hb1 hs
end
section
open Go Tryz
set_option maxRecDepth 100000
theorem mix:prog.follows .mixedOrders=true:=by kernel_rfl
variable {G:World->(Nat->Prop)->Prop} (hG:GOk G)
def b116:Code:=(qi (qd f109)).getD 0 .skip
def pol116:Pol:={live:=[(3,[0,3,6,7])]}
theorem enter116:Enters prog 109 f109 (qd f109):=⟨func109,by kernel_rfl,rfl⟩
theorem r116 (a:ByteArray) (acc n i:Int):qe prog [] [] pol116 f109.ntmps 0 [0,3,6,7] b116 ⟨[.s a,.i .u64 acc,.i .i64 n,.i .i64 i],[]⟩=
 Tr.br (decide (i<n)) (.br (decide ((0:Int)<=8)) (.br (ix (i) ((a.size:Int))) (.br (ib (i+1)) (.ok (.out .normal (LS.mk [.s a,.i .u64 (IntKind.u64.wrap (↑(BitVec.ofInt IntKind.u64.bits (IntKind.u64.wrap (acc*2^min (Int.toNat 8) IntKind.u64.bits)) ||| BitVec.ofInt IntKind.u64.bits (IntKind.u64.wrap (↑(a.1.toList.getD i.toNat (0:UInt8)).toNat:Int))).toNat:Int)),.i .i64 n,.i .i64 (i+1)] []))) (.no 7002)) (.no 6004)) (.no 6007)) (.ok (.out (.exit 0) (LS.mk [.s a,.i .u64 acc,.i .i64 n,.i .i64 i] []))):=by kernel_rfl
def l116:qA:=fun ls K=>match ls with
 | ⟨[.s a,.i .u64 0,.i .i64 n,.i .i64 0],[]⟩=>.br (decide (n=a.size)&&Nat.ble a.size 8) (K (.exit 0) ⟨[.s a,.i .u64 (bv a.data.toList),.i .i64 a.size,.i .i64 a.size],[]⟩) (.no 1)
 | _=>.no 1
theorem e116 (a:ByteArray):evF prog [] [(3,l116)] pol116 f109 [.s a] [] ql=
 Tr.br (decide ((a.size:Int)=(a.size:Int))&&a.size.ble 8) (.ok (.ret (.i .u64 (↑(bv a.1.toList):Int)) [])) (.no 1):=by kernel_rfl
theorem take_succ_bv (l:List UInt8) (i:Nat) (h:i<l.length):bv (l.take (i+1))=bv (l.take i)*256+(l.getD i 0).toNat:=by
 rw[List.take_succ_eq_append_getElem h,bv_snoc]
 simp[List.getD_eq_getElem?_getD,h]
theorem step116 (a:ByteArray) (ha:a.size<=8) (i:Nat) (hi:i<a.size):
  (qe prog [] [] pol116 f109.ntmps 0 [0,3,6,7] b116 ⟨[.s a,.i .u64 (bv (a.data.toList.take i)),.i .i64 a.size,.i .i64 i],[]⟩).run=
   some (.out .normal ⟨[.s a,.i .u64 (bv (a.data.toList.take (i+1))),.i .i64 a.size,.i .i64 ((i+1:Nat):Int)],[]⟩):=by
 have hl:=ba_len a
 rw[r116]
 repeat rw[k5 (by simp only[kD,kE];omega)]
 rw[k7]
 have h1:((i:Int)+1)=((i+1:Nat):Int):=by simp
 have hlt:bv (a.data.toList.take i)<256^i:=by
  have:=bv_lt (a.data.toList.take i)
  rwa[List.length_take,Nat.min_eq_left (by omega)]at this
 have hlt7:bv (a.data.toList.take i)<256^7:=Nat.lt_of_lt_of_le hlt (Nat.pow_le_pow_right (by omega) (by omega))
 have hb:(a.data.toList.getD i 0).toNat<256:=(a.data.toList.getD i 0).toNat_lt
 have h2:IntKind.u64.wrap ↑(BitVec.ofInt IntKind.u64.bits (IntKind.u64.wrap ((bv (a.data.toList.take i):Int)*2^min (Int.toNat 8) IntKind.u64.bits)) |||
     BitVec.ofInt IntKind.u64.bits (IntKind.u64.wrap ↑(a.data.toList.getD (i:Int).toNat 0).toNat)).toNat=(bv (a.data.toList.take (i+1)):Int):=by
  rw[take_succ_bv _ _ (by omega)]
  have e0:min (Int.toNat 8) IntKind.u64.bits=8:=rfl
  have e1:(i:Int).toNat=i:=Int.toNat_natCast i
  rw[e0,e1,w64 (n:=(bv (a.data.toList.take i):Int)*2^8) (by omega) (by omega),w64 (n:=((a.data.toList.getD i 0).toNat:Int)) (by omega) (by omega),or64 8 _ _ (by omega) (by omega) (by omega) (by omega)]
  omega
 rw[h1,h2]
include hG
theorem loop116:qz prog G f109.ntmps 0 [0,3,6,7] b116 l116:=by
 intro ls K x hm h
 unfold l116 at h
 split at h
 case h_2=>cases h
 rename_i a n
 obtain⟨hc,hr⟩:=k8 h
 simp only[kD,kE,kH]at hc
 obtain⟨rfl,ha⟩:=hc
 have hl:=ba_len a
 refine⟨_,_,qx (Goes.count (fun i=>⟨[.s a,.i .u64 (bv (a.data.toList.take i)),.i .i64 a.size,.i .i64 i],[]⟩) (by simp) a.size 0 (fun j h1 h2 => ?_) ?_),hr⟩
 ·exact qb hG OrcOK.nil mix (L:=[]) (pol:=pol116) (O:=[]) (kA (by kernel_rfl)) (Nat.zero_le _) (step116 a ha j (by omega))
 ·refine qb hG OrcOK.nil mix (L:=[]) (pol:=pol116) (O:=[]) (kA (by kernel_rfl)) (Nat.zero_le _) ?_
  rw[r116,k6 (kG (by omega)),k7,Nat.zero_add,List.take_of_length_le (by omega)]
omit hG
def s116:Spec:=fun args hs K=>match args,hs with
 | [.s a],[]=>.br (Nat.ble a.size 8) (K (.i .u64 (bv a.data.toList)) []) (.no 1)
 | _,_=>.no 1
include hG
theorem ok116:qc prog G 109 s116:=by
 intro args hs K x h
 unfold s116 at h
 split at h
 case h_2=>cases h
 rename_i a
 obtain⟨hc,hr⟩:=k8 h
 refine⟨_,_,qj hG OrcOK.nil mix enter116 (L:=[(3,l116)]) (pol:=pol116) (O:=[]) ?_ ?_,hr⟩
 ·refine LpsOK.of (l:=[b116]) (by kernel_rfl) fun b hb live sp hlv hsp => ?_
  simp at hb;subst hb
  have e1:assoc (qr b116) pol116.live=some [0,3,6,7]:=by kernel_rfl
  have e2:Lps.look (qr b116) [(3,l116)]=some l116:=by kernel_rfl
  rw[e1]at hlv;rw[e2]at hsp
  cases hlv;cases hsp
  exact loop116 hG
 ·rw[e116,k5 (by simp[hc])];rfl
end
section
open Go Tryz
set_option maxRecDepth 100000
variable {G:World->(Nat->Prop)->Prop} (hG:GOk G)
def b114:Code:=(qi (qd f106)).getD 0 .skip
def pol114:Pol:={live:=[(1,[0])]}
theorem enter114:Enters prog 106 f106 (qd f106):=⟨func106,by kernel_rfl,rfl⟩
theorem r114 (a:ByteArray):qe prog [] [] pol114 f106.ntmps 0 [0] b114 ⟨[.s a],[]⟩=
 Tr.br (decide (0<(a.size:Int))) (.br (decide ((0:Int)<=0)&&decide (0<(a.size:Int))) (.br (decide ((↑(a.1.toList.getD (Int.toNat 0) (0:UInt8)).toNat:Int)=0)) (.br (decide ((0:Int)<=1)&&decide (1<=(a.size:Int))) (.ok (.out .normal (LS.mk [.s (a.extract (Int.toNat 1) a.size)] []))) (.no 3002)) (.ok (.out (.exit 0) (LS.mk [.s a] [])))) (.no 2003)) (.ok (.out (.exit 0) (LS.mk [.s a] []))):=by kernel_rfl
def l114:qA:=fun ls K=>match ls with
 | ⟨[.s a],[]⟩=>K (.exit 0) ⟨[.s (nb (bv a.data.toList))],[]⟩
 | _=>.no 1
theorem e114 (a:ByteArray):evF prog [] [(1,l114)] pol114 f106 [.s a] [] ql=
 Tr.ok (.ret (.s (nb (bv a.1.toList))) []):=by kernel_rfl
include hG in
theorem goes114:∀ (l:List UInt8),Goes (Rnd prog G f106.ntmps 0 [0] b114) ⟨[.s (bs l)],[]⟩ (.exit 0) ⟨[.s (nb (bv l))],[]⟩
 | []=>by
  refine .last _ _ _ (qb hG OrcOK.nil mix (L:=[]) (pol:=pol114) (O:=[]) (kA (by kernel_rfl)) (Nat.zero_le _) ?_) (by simp)
  rw[r114,k6 (by rw[bs_size];rfl)];rfl
 | b::l=>by
  have hsz:(bs (b::l)).size=l.length+1:=by rw[bs_size];rfl
  have h1:decide ((0:Int)<((bs (b::l)).size:Int))=true:=kF (by omega)
  by_cases hb:b=0
  ·subst hb
   refine .more _ ⟨[.s (bs l)],[]⟩ _ _ (qb hG OrcOK.nil mix (L:=[]) (pol:=pol114) (O:=[]) (kA (by kernel_rfl)) (Nat.zero_le _) ?_) ?_
   ·rw[r114,k5 h1,k5 (by rw[h1];rfl),k5 (by rw[bs_data];rfl),k5 (by rw[kF (show(0:Int)<=1 by omega),kF (by omega)];rfl),k7,hsz,bs_extract]
    have:((0::l).take (l.length+1)).drop (Int.toNat 1)=l:=by
     rw[List.take_of_length_le (by simp)];rfl
    rw[this]
   ·rw[bv_zero_cons];exact goes114 l
  ·refine .last _ _ _ (qb hG OrcOK.nil mix (L:=[]) (pol:=pol114) (O:=[]) (kA (by kernel_rfl)) (Nat.zero_le _) ?_) (by simp)
   have hb2:b.toNat≠0:=fun h=>hb (UInt8.toNat_inj.1 (by rw[h];rfl))
   have h2:decide ((((bs (b::l)).data.toList.getD (Int.toNat 0) 0).toNat:Int)=0)=false:=kG (by rw[bs_data];show ¬ ((b.toNat:Int)=0);omega)
   rw[r114,k5 h1,k5 (by rw[h1];rfl),k6 h2,k7,nb_bs,nbl_bv]
   have hb3:(b==0)=false:=by simpa using hb
   have:(b::l).dropWhile (· == 0)=b::l:=by simp[List.dropWhile,hb3]
   rw[this]
def s114:Spec:=fun args hs K=>match args,hs with
 | [.s a],[]=>K (.s (nb (bv a.data.toList))) []
 | _,_=>.no 1
include hG in
theorem ok114:qc prog G 106 s114:=by
 intro args hs K x h
 unfold s114 at h
 split at h
 case h_2=>cases h
 rename_i a
 refine⟨_,_,qj hG OrcOK.nil mix enter114 (L:=[(1,l114)]) (pol:=pol114) (O:=[]) (qN (b:=b114) (live:=[0]) (sp:=l114) (by kernel_rfl) (by kernel_rfl) (by kernel_rfl) ?_) (by rw[e114];rfl),h⟩
 intro ls K x hm h
 unfold l114 at h
 split at h
 case h_2=>cases h
 rename_i a
 refine⟨_,_,qx (goes114 hG a.data.toList),?_⟩
 exact h
include hG in
theorem orc114:OrcOK prog G [(106,s114)]:=.cons (ok114 hG) .nil

def b115:Code:=(qi (qd f108)).getD 0 .skip
def pol115:Pol:={live:=[(3,[0,3,5])]}
theorem enter115:Enters prog 108 f108 (qd f108):=⟨func108,by kernel_rfl,rfl⟩
theorem r115 (n i:Int) (xs:List Int):qe prog [] [] pol115 f108.ntmps 0 [0,3,5] b115 ⟨[.i .u64 n,.ptr 0 1 0 0 [],.i .i64 i],[some ⟨1,.ints .u8 xs⟩]⟩=
 Tr.br (decide (i<8)) (.br (decide ((-9223372036854775808)<=8*i)&&decide ((8:Int)*i<=9223372036854775807)) (.br (decide ((-9223372036854775808)<=56-8*i)&&decide ((56:Int)-8*i<=9223372036854775807)) (.br (decide ((0:Int)<=56-8*i)) (.br (decide (0<=i)&&decide (i<(↑(8:Nat):Int))) (.br ((i.toNat+1).ble xs.length) (.br (decide ((-9223372036854775808)<=i+1)&&decide (i+1<=9223372036854775807)) (.ok (.out .normal (LS.mk [.i .u64 n,.ptr 0 1 0 0 [],.i .i64 (i+1)] [some (.mk 1 (.ints .u8 (xs.set i.toNat (IntKind.u8.wrap (n.fdiv ((2:Int)^min ((56:Int)-8*i).toNat IntKind.u64.bits))))))]))) (.no 7002)) (.no 6001)) (.no 6002)) (.no 6004)) (.no 6005)) (.no 6006)) (.ok (.out (.exit 0) (LS.mk [.i .u64 n,.ptr 0 1 0 0 [],.i .i64 i] [some (.mk 1 (.ints .u8 xs))]))):=by kernel_rfl
def b8 (n:Nat) (i:Nat):List Int:=(List.range 8).map fun j=>if j<i then ((n/256^(7-j)%256:Nat):Int)else 0
def l115:qA:=fun ls K=>match ls with
 | ⟨[.i .u64 n,.ptr 0 1 0 0 [],.i .i64 i],[some ⟨1,.ints .u8 xs⟩]⟩=>.br (decide (i=0)&&decide (0<=n)&&decide (n<18446744073709551616)&&decide (xs=List.replicate 8 0))
   (K (.exit 0) ⟨[.i .u64 n,.ptr 0 1 0 0 [],.i .i64 8],[some ⟨1,.ints .u8 (b8 n.toNat 8)⟩]⟩) (.no 1)
 | _=>.no 1
theorem e115 (n:Int):evF prog [(106,s114)] [(3,l115)] pol115 f108 [.i .u64 n] [] ql=
 Tr.br (decide ((0:Int)=0)&&decide (0<=n)&&decide (n<18446744073709551616)&&decide (List.replicate (8:Nat) (0:Int)=List.replicate (8:Nat) (0:Int))) (.br (Nat.ble 8 [if 0<8 then (↑(n.toNat/(256:Nat)^((7:Nat)-0)%(256:Nat)):Int)else (0:Int),if 1<8 then (↑(n.toNat/(256:Nat)^((7:Nat)-1)%(256:Nat)):Int)else (0:Int),if 2<8 then (↑(n.toNat/(256:Nat)^((7:Nat)-2)%(256:Nat)):Int)else (0:Int),if 3<8 then (↑(n.toNat/(256:Nat)^((7:Nat)-3)%(256:Nat)):Int)else (0:Int),if 4<8 then (↑(n.toNat/(256:Nat)^((7:Nat)-4)%(256:Nat)):Int)else (0:Int),if 5<8 then (↑(n.toNat/(256:Nat)^((7:Nat)-5)%(256:Nat)):Int)else (0:Int),if 6<8 then (↑(n.toNat/(256:Nat)^((7:Nat)-6)%(256:Nat)):Int)else (0:Int),if 7<8 then (↑(n.toNat/(256:Nat)^((7:Nat)-7)%(256:Nat)):Int)else (0:Int)].length) (.br (((0:Nat)+((8:Nat)-0)).ble (b8 n.toNat (8:Nat)).length) (.ok (.ret (.s (nb (bv (List.map (fun(n:Int)=>UInt8.ofNat n.toNat) (List.take ((8:Nat)-0) (List.drop 0 (b8 n.toNat (8:Nat))))).toArray.toList))) [])) (.no 8003)) (.no 8004)) (.no 1):=by kernel_rfl
theorem b8_zero (n:Nat):b8 n 0=List.replicate 8 0:=by simp[b8,List.range_succ]
theorem b8_set (n i:Nat):(b8 n i).set i ((n/256^(7-i)%256:Nat):Int)=b8 n (i+1):=by
 apply List.ext_getElem
 ·simp[b8]
 ·intro j h1 h2
  simp only[b8,List.getElem_set,List.getElem_map,List.getElem_range]
  by_cases hj:i=j
  ·subst hj;simp
  ·rw[if_neg hj]
   by_cases h3:j<i
   ·rw[if_pos h3,if_pos (by omega)]
   ·rw[if_neg h3,if_neg (by omega)]
theorem b8_len (n i:Nat):(b8 n i).length=8:=by simp[b8]
theorem fdiv_nat (n k:Nat):(n:Int).fdiv ((2:Int)^k)=((n/2^k:Nat):Int):=by
 have h0:(0:Int)<=2^k:=by
  have:=Nat.pow_pos (n:=k) (show 0<2 by omega)
  have h:((2^k:Nat):Int)=(2:Int)^k:=by simp
  omega
 rw[Int.fdiv_eq_ediv_of_nonneg _ h0]
 simp
theorem step115 (n i:Nat) (hi:i<8):(qe prog [] [] pol115 f108.ntmps 0 [0,3,5] b115 ⟨[.i .u64 n,.ptr 0 1 0 0 [],.i .i64 i],[some ⟨1,.ints .u8 (b8 n i)⟩]⟩).run=
  some (.out .normal ⟨[.i .u64 n,.ptr 0 1 0 0 [],.i .i64 ((i+1:Nat):Int)],[some ⟨1,.ints .u8 (b8 n (i+1))⟩]⟩):=by
 rw[r115]
 have e1:((i:Int)).toNat=i:=Int.toNat_natCast i
 repeat rw[k5 (by simp only[kD,kE,kH,Cont.len,b8_len];omega)]
 rw[k7]
 have h1:((i:Int)+1)=((i+1:Nat):Int):=by simp
 have h2:min ((56:Int)-8*(i:Int)).toNat IntKind.u64.bits=8*(7-i):=by
  simp only[IntKind.bits];omega
 have h3:IntKind.u8.wrap ((n:Int).fdiv (2^min ((56:Int)-8*(i:Int)).toNat IntKind.u64.bits))=((n/256^(7-i)%256:Nat):Int):=by
  rw[h2,fdiv_nat,IntKind.wrap_u8',Nat.pow_mul]
  simp
 rw[h1,h3,e1,b8_set]
theorem b8_bytes (n:Nat) (h:n<18446744073709551616):bv ((b8 n 8).map fun n=>UInt8.ofNat n.toNat)=n:=by
 have q:∀ m:Nat,UInt8.ofNat ((m:Int)).toNat=UInt8.ofNat m:=fun m=>by rw[Int.toNat_natCast]
 have e:(b8 n 8).map (fun n=>UInt8.ofNat n.toNat)=[UInt8.ofNat (n/72057594037927936%256),UInt8.ofNat (n/281474976710656%256),UInt8.ofNat (n/1099511627776%256),UInt8.ofNat (n/4294967296%256),
   UInt8.ofNat (n/16777216%256),UInt8.ofNat (n/65536%256),UInt8.ofNat (n/256%256),UInt8.ofNat (n%256)]:=by
  have r:List.range 8=[0,1,2,3,4,5,6,7]:=rfl
  simp only[b8,r,List.map_cons,List.map_nil,Nat.reduceLT,if_true,Nat.reduceSub,Nat.reducePow,Nat.div_one,Int.toNat_natCast]
 rw[e]
 simp only[bv,List.foldl_cons,List.foldl_nil,ofNat_toNat _ (Nat.mod_lt _ (show 0<256 by omega))]
 omega
include hG in
theorem loop115:qz prog G f108.ntmps 0 [0,3,5] b115 l115:=by
 intro ls K x hm h
 unfold l115 at h
 split at h
 case h_2=>cases h
 rename_i n i xs
 obtain⟨hc,hr⟩:=k8 h
 simp only[kD,kE]at hc
 obtain⟨⟨⟨rfl,hn0⟩,hn⟩,rfl⟩:=hc
 obtain⟨k,rfl⟩:=Int.eq_ofNat_of_zero_le hn0
 rw[<-b8_zero k]
 refine⟨_,_,qx (Goes.count (fun i=>⟨[.i .u64 k,.ptr 0 1 0 0 [],.i .i64 i],[some ⟨1,.ints .u8 (b8 k i)⟩]⟩) (by simp) 8 0 (fun j h1 h2 => ?_) ?_),hr⟩
 ·exact qb hG OrcOK.nil mix (L:=[]) (pol:=pol115) (O:=[]) (kA (by kernel_rfl)) (Nat.zero_le _) (step115 k j (by omega))
 ·refine qb hG OrcOK.nil mix (L:=[]) (pol:=pol115) (O:=[]) (kA (by kernel_rfl)) (Nat.zero_le _) ?_
  rw[r115,k6 (kG (by omega)),k7]
  rfl
def s115:Spec:=fun args hs K=>match args,hs with
 | [.i .u64 n],[]=>.br (decide (0<=n)&&decide (n<18446744073709551616)) (K (.s (nb n.toNat)) []) (.no 1)
 | _,_=>.no 1
include hG in
theorem ok115:qc prog G 108 s115:=by
 intro args hs K x h
 unfold s115 at h
 split at h
 case h_2=>cases h
 rename_i n
 obtain⟨hc,hr⟩:=k8 h
 simp only[kD,kE]at hc
 refine⟨_,_,qj hG (orc114 hG) mix enter115 (hs:=[]) (L:=[(3,l115)]) (pol:=pol115) (qN (b:=b115) (live:=[0,3,5]) (sp:=l115) (m:=0) (by kernel_rfl) (by kernel_rfl) (by kernel_rfl) (loop115 hG)) ?_,hr⟩
 rw[e115,k5 (by simp only[kD,kE];exact⟨⟨⟨trivial,hc.1⟩,hc.2⟩,trivial⟩)]
 repeat rw[k5 (by simp only[kD,kE,kH,b8_len];omega)]
 have h8:List.take (8-0) (List.drop 0 (b8 n.toNat 8))=b8 n.toNat 8:=by
  rw[List.drop_zero,List.take_of_length_le (by rw[b8_len];omega)]
 rw[h8]
 have:=b8_bytes n.toNat (by omega)
 simp only[this]
 rfl
end
section
open Go
def pd (B L n:Nat):List Int:=(List.range L).map fun j=>((n/B^j%B:Nat):Int)
theorem qn (B L n:Nat):(pd B L n).length=L:=by simp[pd]
theorem pd_get {B L n j:Nat} (h:j<L):(pd B L n)[j]? = some ((n/B^j%B:Nat):Int):=by simp[pd,h]
theorem pd_getD {B L n j:Nat} (h:j<L):(pd B L n).getD j 0=((n/B^j%B:Nat):Int):=by simp[List.getD_eq_getElem?_getD,pd_get h]
theorem pd_succ (B L n:Nat):pd B (L+1) n=((n%B:Nat):Int)::pd B L (n/B):=by
 simp only[pd,List.range_succ_eq_map,List.map_cons,List.map_map,Nat.pow_zero,Nat.div_one,List.cons.injEq,true_and]
 apply List.map_congr_left
 intro j _
 simp only[Function.comp,Nat.pow_succ]
 rw[Nat.mul_comm,Nat.div_div_eq_div_mul]
theorem lv_pd {B:Nat} (hB:0<B):∀ (L n:Nat),n<B^L->lv B (pd B L n)=n
 | 0,n,h=>by
  have:n=0:=by simpa using h
  subst this;rfl
 | L+1,n,h=>by
  rw[pd_succ]
  simp only[lv,Int.toNat_natCast]
  rw[lv_pd hB L (n/B) (by rw[Nat.div_lt_iff_lt_mul hB];rwa[Nat.pow_succ]at h)]
  exact Nat.mod_add_div n B
theorem pd_mem {B L n:Nat} (hB:0<B):∀ x∈pd B L n,0<=x/\x<(B:Int):=by
 intro x hx
 obtain⟨j,_,rfl⟩:=List.mem_map.1 hx
 have:=Nat.mod_lt (n/B^j) hB
 omega
theorem pd_dg {B n:Nat} (hB:2<=B):pd B (dg B n).length n=dg B n:=by
 have h1:=dg_lt hB n
 refine lv_inj (B:=B) (qn _ _ _) (pd_mem (by omega)) (dg_mem hB n) ?_
 rw[lv_pd (by omega) _ _ h1,lv_dg hB]
theorem pd_zero (B L:Nat):pd B L 0=List.replicate L 0:=by
 apply List.ext_getElem
 ·simp[pd]
 ·intro j h1 h2
  simp[pd]
theorem pd_lv {B:Nat} (hB:0<B) {xs:List Int} (h:∀ x∈xs,0<=x/\x<(B:Int)):pd B xs.length (lv B xs)=xs:=by
 have h1:=lv_lt (B:=B) (xs:=xs) fun x hx=>by have:=h x hx;omega
 exact lv_inj (B:=B) (qn _ _ _) (pd_mem hB) h (lv_pd hB _ _ h1)
theorem pd_add {c e L M b i:Nat} (hc:2<=c) (he:0<e) (hM:M<c^i) (hb:b<c) (_hi:i/e<L):
  (pd (c^e) L M).set (i/e) ((M/(c^e)^(i/e)%c^e+b*c^(i%e):Nat):Int)=pd (c^e) L (M+b*c^i):=by
 have hce:0<c^e:=Nat.pow_pos (by omega)
 have hie:e*(i/e)+i%e=i:=Nat.div_add_mod i e
 have hm:i%e<e:=Nat.mod_lt _ he
 have hpow:c^i=(c^e)^(i/e)*c^(i%e):=by rw[<-Nat.pow_mul,<-Nat.pow_add,hie]
 apply List.ext_getElem
 ·simp[pd]
 ·intro j h1 h2
  simp only[pd,List.length_map,List.length_range]at h2
  simp only[List.getElem_set,pd,List.getElem_map,List.getElem_range]
  have hBj:0<(c^e)^j:=Nat.pow_pos hce
  by_cases hj:i/e=j
  ·subst hj
   rw[if_pos rfl]
   congr 1
   have e1:(M+b*c^i)/(c^e)^(i/e)=M/(c^e)^(i/e)+b*c^(i%e):=by
    rw[hpow,show b*((c^e)^(i/e)*c^(i%e))=(c^e)^(i/e)*(b*c^(i%e)) by rw[Nat.mul_left_comm],Nat.add_mul_div_left _ _ hBj]
   have e2:M/(c^e)^(i/e)<c^(i%e):=by
    rw[Nat.div_lt_iff_lt_mul hBj,Nat.mul_comm,<-hpow];exact hM
   have e3:c^(i%e)*c<=c^e:=by
    rw[<-Nat.pow_succ];exact Nat.pow_le_pow_right (by omega) (by omega)
   have e4:(b+1)*c^(i%e)<=c*c^(i%e):=Nat.mul_le_mul_right _ (by omega)
   rw[Nat.add_mul,Nat.one_mul,Nat.mul_comm c]at e4
   have e5:c^(i%e)<=c^e:=Nat.pow_le_pow_right (by omega) (by omega)
   have e6:M/(c^e)^(i/e)<c^e:=by omega
   have e7:M/(c^e)^(i/e)+b*c^(i%e)<c^e:=by omega
   rw[e1,Nat.mod_eq_of_lt e6,Nat.mod_eq_of_lt e7]
  ·rw[if_neg hj]
   congr 1
   rcases Nat.lt_or_gt_of_ne hj with hlt|hgt
   ·-- above
    have h3:c^(i+1)<=(c^e)^j:=by
     rw[<-Nat.pow_mul]
     refine Nat.pow_le_pow_right (by omega) ?_
     have:e*(i/e+1)<=e*j:=Nat.mul_le_mul_left _ hlt
     rw[Nat.mul_add,Nat.mul_one]at this
     omega
    have h4:(b+1)*c^i<=c*c^i:=Nat.mul_le_mul_right _ (by omega)
    rw[Nat.add_mul,Nat.one_mul]at h4
    rw[Nat.pow_succ,Nat.mul_comm]at h3
    rw[Nat.div_eq_of_lt (by omega),Nat.div_eq_of_lt (by omega)]
   ·-- below
    obtain⟨d,hd⟩:∃ d,i/e=j+1+d:=⟨i/e-(j+1),by omega⟩
    have e1:c^i=(c^e)^j*(c^e*((c^e)^d*c^(i%e))):=by
     rw[hpow,hd,Nat.pow_add,Nat.pow_succ]
     simp only[Nat.mul_assoc]
    rw[e1,show b*((c^e)^j*(c^e*((c^e)^d*c^(i%e))))=(c^e)^j*(c^e*(b*((c^e)^d*c^(i%e)))) by
     rw[Nat.mul_left_comm,Nat.mul_left_comm b (c^e)],Nat.add_mul_div_left _ _ hBj,Nat.add_mul_mod_self_left]
theorem bv_get (l:List UInt8) (j:Nat) (h:j<l.length):(l.getD j 0).toNat=bv l/256^(l.length-1-j)%256:=by
 have h1:l=l.take j++(l[j]::l.drop (j+1)):=by rw[List.getElem_cons_drop,List.take_append_drop]
 have h2:(l.getD j 0)=l[j]:=by simp[List.getD_eq_getElem?_getD,h]
 have h3:(l.drop (j+1)).length=l.length-1-j:=by simp;omega
 have h4:=bv_lt (l.drop (j+1))
 rw[h3]at h4
 have h5:bv l=bv (l.drop (j+1))+256^(l.length-1-j)*(bv (l.take j)*256+l[j].toNat):=by
  conv=>lhs;rw[h1]
  rw[bv_append,bv_cons,kI,h3,Nat.pow_succ,Nat.mul_add]
  have:bv (l.take j)*(256^(l.length-1-j)*256)=256^(l.length-1-j)*(bv (l.take j)*256):=by
   rw[<-Nat.mul_assoc,Nat.mul_comm (bv (l.take j)),Nat.mul_assoc]
  rw[this,Nat.mul_comm l[j].toNat]
  omega
 have h6:0<256^(l.length-1-j):=Nat.pow_pos (by omega)
 have h7:l[j].toNat<256:=l[j].toNat_lt
 rw[h2,h5,Nat.add_mul_div_left _ _ h6,Nat.div_eq_of_lt h4]
 omega
theorem tdiv_nat (n k:Nat):(n:Int).tdiv (k:Int)=((n/k:Nat):Int):=by
 rw[Int.tdiv_eq_ediv_of_nonneg (by omega)];simp
theorem tmod_nat (n k:Nat):(n:Int).tmod (k:Int)=((n%k:Nat):Int):=by
 rw[Int.tmod_eq_emod_of_nonneg (by omega)];simp
theorem pd_set1 {L M b i:Nat} (hM:M<256^i) (hb:b<256) (hi:i<L):(pd 256 L M).set i (b:Int)=pd 256 L (M+b*256^i):=by
 have h:=pd_add (c:=256) (e:=1) (L:=L) (M:=M) (b:=b) (i:=i) (by omega) (by omega) hM hb (by simpa using hi)
 simp only[Nat.pow_one,Nat.div_one,Nat.mod_one,Nat.pow_zero,Nat.mul_one,Nat.div_eq_of_lt hM,Nat.zero_mod,Nat.zero_add]at h
 exact h
theorem pd_set4 {L M w i:Nat} (hM:M<256^i) (hw:w<4294967296) (hi:i+3<L):
  ((((pd 256 L M).set i ((w%256:Nat):Int)).set (i+1) ((w/256%256:Nat):Int)).set (i+2) ((w/65536%256:Nat):Int)).set (i+3) ((w/16777216%256:Nat):Int)=pd 256 L (M+w*256^i):=by
 have hp:0<256^i:=Nat.pow_pos (by omega)
 have p1:256^(i+1)=256*256^i:=by rw[Nat.pow_succ,Nat.mul_comm]
 have p2:256^(i+2)=65536*256^i:=by rw[show i+2=i+1+1 by omega,Nat.pow_succ,p1];omega
 have p3:256^(i+3)=16777216*256^i:=by rw[show i+3=i+2+1 by omega,Nat.pow_succ,p2];omega
 have m1:w%256*256^i<=255*256^i:=Nat.mul_le_mul_right _ (by omega)
 have m2:w/256%256*256^i<=255*256^i:=Nat.mul_le_mul_right _ (by omega)
 have m3:w/65536%256*256^i<=255*256^i:=Nat.mul_le_mul_right _ (by omega)
 have a1:w/256%256*256^(i+1)=256*(w/256%256*256^i):=by rw[p1,Nat.mul_left_comm]
 have a2:w/65536%256*256^(i+2)=65536*(w/65536%256*256^i):=by rw[p2,Nat.mul_left_comm]
 have a3:w/16777216%256*256^(i+3)=16777216*(w/16777216%256*256^i):=by rw[p3,Nat.mul_left_comm]
 rw[pd_set1 hM (by omega) (by omega),pd_set1 (i:=i+1) (by omega) (by omega) (by omega),pd_set1 (i:=i+2) (by omega) (by omega) (by omega),pd_set1 (i:=i+3) (by omega) (by omega) hi]
 congr 1
 have hw4:w=w%256+256*(w/256%256)+65536*(w/65536%256)+16777216*(w/16777216%256):=by omega
 have:w*256^i=w%256*256^i+256*(w/256%256*256^i)+65536*(w/65536%256*256^i)+16777216*(w/16777216%256*256^i):=by
  conv=>lhs;rw[hw4]
  simp only[Nat.add_mul,Nat.mul_assoc]
 rw[a1,a2,a3,this]
 omega
theorem set4_swap {α:Type} (l:List α) (i:Nat) (a b c d:α):(((l.set (i+3) d).set (i+2) c).set (i+1) b).set i a=(((l.set i a).set (i+1) b).set (i+2) c).set (i+3) d:=by
 apply List.ext_getElem
 ·simp
 ·intro j h1 h2
  simp only[List.getElem_set]
  repeat' split
  all_goals first|rfl|omega
theorem rev_set {α:Type} (l:List α) (j:Nat) (v:α) (h:j<l.length):l.reverse.set j v=(l.set (l.length-1-j) v).reverse:=by
 apply List.ext_getElem
 ·simp
 ·intro k h1 h2
  simp only[List.getElem_set,List.getElem_reverse,List.length_set]
  simp only[List.length_set,List.length_reverse]at h1
  by_cases hk:j=k
  ·subst hk;simp
  ·rw[if_neg hk,if_neg (by omega)]
theorem lv_get {B:Nat} (hB:0<B) {ws:List Int} (h:∀ x∈ws,0<=x/\x<(B:Int)) {i:Nat} (hi:i<ws.length):ws.getD i 0=((lv B ws/B^i%B:Nat):Int):=by
 have h1:=pd_lv hB h
 conv=>lhs;rw[<-h1]
 exact pd_getD hi
theorem bv_pd:∀ (L n:Nat),n<256^L->bv ((pd 256 L n).reverse.map fun x=>UInt8.ofNat x.toNat)=n
 | 0,n,h=>by
  have:n=0:=by simpa using h
  subst this;rfl
 | L+1,n,h=>by
  rw[pd_succ,List.reverse_cons,List.map_append,List.map_cons,List.map_nil,bv_snoc,Int.toNat_natCast,ofNat_toNat _ (Nat.mod_lt _ (by omega)),
   bv_pd L (n/256) (by rw[Nat.div_lt_iff_lt_mul (by omega)];rwa[Nat.pow_succ]at h)]
  omega
end
section
open Go Tryz
set_option maxRecDepth 100000
variable {G:World->(Nat->Prop)->Prop} (hG:GOk G)
def b117:Code:=(qi (qd f110)).getD 0 .skip
def pol117:Pol:={live:=[(4,[0,3,14,15])],own:=[12]}
theorem enter117:Enters prog 110 f110 (qd f110):=⟨func110,by kernel_rfl,rfl⟩
theorem r117 (a:ByteArray) (n i:Int) (xs:List Int) (len:Nat):qe prog [] [] pol117 f110.ntmps 0 [0,3,14,15] b117 ⟨[.s a,.sl 0 1 0 len,.i .i64 n,.i .i64 i],[some ⟨1,.ints .u32 xs⟩]⟩=
 Tr.br (decide (i<n)) (.br (ib ((a.size:Int)-1)) (.br (ib ((a.size:Int)-1-i)) (.br (!decide ((4:Int)=0)&&(ib (i.tdiv (4:Int)))) (.br (ix (i.tdiv (4:Int)) ((len:Int))) (.br ((0+(i.tdiv (4:Int)).toNat+1).ble xs.length) (.br (ix ((a.size:Int)-1-i) ((a.size:Int))) (.br (!decide ((4:Int)=0)) (.br (ib (i.tmod (4:Int)*8)) (.br (decide (0<=i.tmod (4:Int)*8)) (.br (ix (i.tdiv (4:Int)) ((len:Int))) (.br ((0+(i.tdiv (4:Int)).toNat+1).ble xs.length) (.br (ib (i+1)) (.ok (.out .normal {t:=[.s a,.sl 0 1 0 len,.i .i64 n,.i .i64 (i+1)],h:=[some {e:=1,c:=Cont.ints .u32 (xs.set (0+(i.tdiv (4:Int)).toNat) (IntKind.u32.wrap (↑(BitVec.ofInt IntKind.u32.bits (xs.getD (0+(i.tdiv (4:Int)).toNat) (0:Int)) ||| BitVec.ofInt IntKind.u32.bits (IntKind.u32.wrap (IntKind.u32.wrap (↑(a.data.toList.getD ((a.size:Int)-1-i).toNat (0:UInt8)).toNat:Int)*2^min (i.tmod (4:Int)*8).toNat IntKind.u32.bits))).toNat:Int)))}]})) (.no 9002)) (.no 8001)) (.no 8002)) (.no 8004)) (.no 8005)) (.no 8006)) (.no 8009)) (.no 8012)) (.no 8013)) (.no 8014)) (.no 7002)) (.no 7004)) (.ok (.out (.exit 0) {t:=[.s a,.sl 0 1 0 len,.i .i64 n,.i .i64 i],h:=[some {e:=1,c:=Cont.ints .u32 xs}]})):=by kernel_rfl
def l117:qA:=fun ls K=>match ls with
 | ⟨[.s a,.sl 0 1 0 len,.i .i64 n,.i .i64 i],[some ⟨1,.ints .u32 xs⟩]⟩=>.br (decide (i=0)&&decide (n=a.size)&&decide (len=(a.size+3)/4)&&decide (xs=List.replicate len 0)&&Nat.ble a.size 1073741824)
   (K (.exit 0) ⟨[.s a,.sl 0 1 0 len,.i .i64 n,.i .i64 n],[some ⟨1,.ints .u32 (pd 4294967296 len (bv a.data.toList))⟩]⟩) (.no 1)
 | _=>.no 1
theorem e117 (a:ByteArray):evF prog [(106,s114)] [(4,l117)] pol117 f110 [.s a] [] ql=
 Tr.br (ib ((↑(nb (bv a.1.toList)).size:Int)+3)) (.br (!decide ((4:Int)=0)&&(ib (((↑(nb (bv a.1.toList)).size:Int)+3).tdiv (4:Int)))) (.br (decide (((↑(nb (bv a.1.toList)).size:Int)+3).tdiv (4:Int)=((↑(nb (bv a.1.toList)).size:Int)+3).tdiv (4:Int))&&decide (0<=((↑(nb (bv a.1.toList)).size:Int)+3).tdiv (4:Int))&&decide (((↑(nb (bv a.1.toList)).size:Int)+3).tdiv (4:Int)<=4294967296)&&prog.types[(158:Nat)].bytes.ble 1024) (.br (decide ((0:Int)=0)&&decide ((↑(nb (bv a.1.toList)).size:Int)=(↑(nb (bv a.1.toList)).size:Int))&&decide ((((↑(nb (bv a.1.toList)).size:Int)+3).tdiv (4:Int)).toNat=((nb (bv a.1.toList)).size+3)/(4:Nat))&&decide (List.replicate (((↑(nb (bv a.1.toList)).size:Int)+3).tdiv (4:Int)).toNat (0:Int)=List.replicate (((↑(nb (bv a.1.toList)).size:Int)+3).tdiv (4:Int)).toNat (0:Int))&&(nb (bv a.1.toList)).size.ble 1073741824) (.br ((((↑(nb (bv a.1.toList)).size:Int)+3).tdiv (4:Int)).toNat.ble (pd (4294967296:Nat) (((↑(nb (bv a.1.toList)).size:Int)+3).tdiv (4:Int)).toNat (bv (qa (bv a.1.toList) (bv a.1.toList) []).toArray.toList)).length) (.ok (.ret (.fr 1 (.ints .u32 (List.take (((↑(nb (bv a.data.toList)).size:Int)+3).tdiv (4:Int)).toNat (List.drop 0 (pd (4294967296:Nat) (((↑(nb (bv a.data.toList)).size:Int)+3).tdiv (4:Int)).toNat (bv (nb (bv a.data.toList)).data.toList)))))) [])) (.no 15)) (.no 1)) (.no 3002)) (.no 3003)) (.no 3004):=by kernel_rfl
theorem step117 (a:ByteArray) (i:Nat) (hi:i<a.size) (hs:a.size<=1073741824):
  (qe prog [] [] pol117 f110.ntmps 0 [0,3,14,15] b117 ⟨[.s a,.sl 0 1 0 ((a.size+3)/4),.i .i64 a.size,.i .i64 i],[some ⟨1,.ints .u32 (pd 4294967296 ((a.size+3)/4) (bv a.data.toList%256^i))⟩]⟩).run=
   some (.out .normal ⟨[.s a,.sl 0 1 0 ((a.size+3)/4),.i .i64 a.size,.i .i64 ((i+1:Nat):Int)],[some ⟨1,.ints .u32 (pd 4294967296 ((a.size+3)/4) (bv a.data.toList%256^(i+1)))⟩]⟩):=by
 have hl:=ba_len a
 have h4:((i:Int)).tdiv 4=((i/4:Nat):Int):=tdiv_nat i 4
 have h5:((i:Int)).tmod 4=((i%4:Nat):Int):=tmod_nat i 4
 rw[r117,h4,h5]
 repeat rw[k5 (by simp only[kD,kE,kH,qn,kK,kM];omega)]
 rw[k7]
 have hk:i/4<(a.size+3)/4:=by omega
 have e1:0+((i/4:Nat):Int).toNat=i/4:=by rw[Int.toNat_natCast];omega
 have e2:((a.size:Int)-1-(i:Int)).toNat=a.size-1-i:=by omega
 have e3:min (((i%4:Nat):Int)*8).toNat IntKind.u32.bits=8*(i%4):=by
  simp only[IntKind.bits];omega
 have e4:(a.data.toList.getD (a.size-1-i) 0).toNat=bv a.data.toList/256^i%256:=by
  rw[bv_get _ _ (by omega),hl,show a.size-1-(a.size-1-i)=i by omega]
 have e5:((i:Int)+1)=((i+1:Nat):Int):=by simp
 rw[e1,e2,e3,e4,e5,pd_getD hk]
 -- the digit
 have hM:bv a.data.toList%256^i<256^i:=Nat.mod_lt _ (Nat.pow_pos (by omega))
 have hb:bv a.data.toList/256^i%256<256:=Nat.mod_lt _ (by omega)
 generalize hMe:bv a.data.toList%256^i=M at hM ⊢
 generalize hbe:bv a.data.toList/256^i%256=b at hb ⊢
 have hnext:bv a.data.toList%256^(i+1)=M+b*256^i:=by
  rw[Nat.mod_pow_succ,hMe,hbe,Nat.mul_comm]
 have hB:(4294967296:Nat)=256^4:=by decide
 have hie:4*(i/4)+i%4=i:=Nat.div_add_mod i 4
 have hpow:256^i=4294967296^(i/4)*256^(i%4):=by rw[hB,<-Nat.pow_mul,<-Nat.pow_add,hie]
 have hx:M/4294967296^(i/4)%4294967296<256^(i%4):=by
  refine Nat.lt_of_le_of_lt (Nat.mod_le _ _) ?_
  rw[Nat.div_lt_iff_lt_mul (Nat.pow_pos (by omega)),Nat.mul_comm,<-hpow];exact hM
 have hp:(2:Nat)^(8*(i%4))=256^(i%4):=by rw[Nat.pow_mul]
 have hpi:(2:Int)^(8*(i%4))=((256^(i%4):Nat):Int):=by rw[<-hp];simp
 have hp3:256^(i%4)<=256^3:=Nat.pow_le_pow_right (by omega) (by omega)
 have hbb:(b+1)*256^(i%4)<=256*256^(i%4):=Nat.mul_le_mul_right _ (by omega)
 rw[Nat.add_mul,Nat.one_mul]at hbb
 have hval:IntKind.u32.wrap ((BitVec.ofInt IntKind.u32.bits ((M/4294967296^(i/4)%4294967296:Nat):Int) ||| BitVec.ofInt IntKind.u32.bits (IntKind.u32.wrap (IntKind.u32.wrap (b:Int)*(2:Int)^(8*(i%4))))).toNat:Int)=
   ((M/4294967296^(i/4)%4294967296+b*256^(i%4):Nat):Int):=by
  have w1:IntKind.u32.wrap (b:Int)=b:=w32 (by omega) (by omega)
  have hbi:(b:Int)*((256^(i%4):Nat):Int)=((b*256^(i%4):Nat):Int):=by simp
  have w2:IntKind.u32.wrap ((b:Int)*(2:Int)^(8*(i%4)))=(b:Int)*(2:Int)^(8*(i%4)):=by
   rw[hpi,hbi];exact w32 (by omega) (by omega)
  rw[w1,w2,or32c (8*(i%4)) b _ (by omega) (by omega) (by rw[hpi];omega) (by rw[hpi,hbi];omega),hpi,hbi]
  omega
 have hadd:=pd_add (c:=256) (e:=4) (L:=(a.size+3)/4) (M:=M) (b:=b) (i:=i) (by omega) (by omega) hM hb hk
 rw[<-hB]at hadd
 rw[hval,hadd,hnext]
include hG in
theorem loop117:qz prog G f110.ntmps 0 [0,3,14,15] b117 l117:=by
 intro ls K x hm h
 unfold l117 at h
 split at h
 case h_2=>cases h
 rename_i a len n i xs
 obtain⟨hc,hr⟩:=k8 h
 simp only[kD,kE,kH]at hc
 obtain⟨⟨⟨⟨rfl,rfl⟩,rfl⟩,rfl⟩,hs⟩:=hc
 have h0:List.replicate ((a.size+3)/4) 0=pd 4294967296 ((a.size+3)/4) (bv a.data.toList%256^0):=by
  rw[Nat.pow_zero,Nat.mod_one,pd_zero]
 have hN:bv a.data.toList%256^a.size=bv a.data.toList:=by
  have:=bv_lt a.data.toList
  rw[ba_len]at this
  exact Nat.mod_eq_of_lt this
 rw[h0]
 refine⟨_,_,qx (Goes.count (fun i=>⟨[.s a,.sl 0 1 0 ((a.size+3)/4),.i .i64 a.size,.i .i64 i],[some ⟨1,.ints .u32 (pd 4294967296 ((a.size+3)/4) (bv a.data.toList%256^i))⟩]⟩) (e:=.exit 0) (by simp) a.size 0 (fun j h1 h2 => ?_) ?_),hr⟩
 ·exact qb hG OrcOK.nil mix (L:=[]) (pol:=pol117) (O:=[]) (kA (by kernel_rfl)) (Nat.zero_le _) (step117 a j (by omega) hs)
 ·refine qb hG OrcOK.nil mix (L:=[]) (pol:=pol117) (O:=[]) (kA (by kernel_rfl)) (Nat.zero_le _) ?_
  rw[r117,k6 (kG (by omega)),k7,Nat.zero_add,hN]
def s117:Spec:=fun args hs K=>match args,hs with
 | [.s a],[]=>.br (Nat.ble a.size 1073741824) (K (.fr 1 (.ints .u32 (dg 4294967296 (bv a.data.toList)))) []) (.no 1)
 | _,_=>.no 1
include hG in
theorem ok117:qc prog G 110 s117:=by
 intro args hs K x h
 unfold s117 at h
 split at h
 case h_2=>cases h
 rename_i a
 obtain⟨hc,hr⟩:=k8 h
 simp only[kH]at hc
 refine⟨_,_,qj hG (orc114 hG) mix enter117 (hs:=[]) (L:=[(4,l117)]) (pol:=pol117) (qN (b:=b117) (live:=[0,3,14,15]) (sp:=l117) (m:=0) (by kernel_rfl) (by kernel_rfl) (by kernel_rfl) (loop117 hG)) ?_,hr⟩
 have hsz:(nb (bv a.data.toList)).size<=a.size:=by
  rw[nb_size,nbl_bv,<-ba_len]
  exact(List.dropWhile_sublist _).length_le
 have hbv:bv (nb (bv a.data.toList)).data.toList=bv a.data.toList:=by rw[nb_data,bv_nbl]
 have ht:(((nb (bv a.data.toList)).size:Int)+3).tdiv 4=((((nb (bv a.data.toList)).size+3)/4:Nat):Int):=by
  have:=tdiv_nat ((nb (bv a.data.toList)).size+3) 4
  simpa using this
 have hdl:((nb (bv a.data.toList)).size+3)/4=(dg 4294967296 (bv a.data.toList)).length:=by
  rw[nb_size]
  have hB:(4294967296:Nat)=256^4:=by decide
  by_cases h0:bv a.data.toList=0
  ·rw[h0];rfl
  ·have h1:=nbl_lt (bv a.data.toList)
   have h2:=nbl_le h0
   have h3:=dg_lt (B:=4294967296) (by omega) (bv a.data.toList)
   have h4:=dg_le (B:=4294967296) (by omega) h0
   rw[hB,<-Nat.pow_mul]at h3 h4
   have h5:=(Nat.pow_lt_pow_iff_right (show 1<256 by omega)).1 (Nat.lt_of_le_of_lt h2 h3)
   have h6:=(Nat.pow_lt_pow_iff_right (show 1<256 by omega)).1 (Nat.lt_of_le_of_lt h4 h1)
   have h7:(nbl (bv a.data.toList)).length≠0:=fun h=>h0 (nbl_eq_nil.1 (List.eq_nil_of_length_eq_zero h))
   rw[hB]
   omega
 rw[e117]
 simp only[ht,hbv,Int.toNat_natCast]
 rw[k5 (by simp only[kD,kE];omega),k5 (by simp only[kD,kE,kK,kM];omega),
  k5 (by rw[show(prog.types[158].bytes.ble 1024)=true by kernel_rfl];simp only[kD,kE,eq_self,true_and,and_true,decide_true,Bool.true_and,Bool.and_true];omega),
  k5 (by simp only[kD,kE,kH,eq_self,true_and,and_true,decide_true,Bool.true_and,Bool.and_true];omega)]
 have hnb:bv (qa (bv a.data.toList) (bv a.data.toList) []).toArray.toList=bv a.data.toList:=hbv
 rw[k5 (by rw[qn];simp),k7,List.drop_zero,List.take_of_length_le (by rw[qn];exact Nat.le_refl _),hdl,pd_dg (by omega)]
def b118:Code:=(qi (qd f111)).getD 0 .skip
def pol118:Pol:={live:=[(3,[0,3,11,12,13])]}
theorem enter118:Enters prog 111 f111 (qd f111):=⟨func111,by kernel_rfl,rfl⟩
theorem r118 (n i:Int) (ws xs:List Int) (len:Nat):qe prog [] [] pol118 f111.ntmps 0 [0,3,11,12,13] b118 ⟨[.lst 1 (.ints .u32 ws),.sl 0 1 0 len,.lst 1 (.ints .u32 ws),.i .i64 n,.i .i64 i],[some ⟨1,.ints .u8 xs⟩]⟩=
 Tr.br (decide (i<n)) (.br (ix (i) ((ws.length:Int))) (.br (ib ((ws.length:Int)-1)) (.br (ib ((ws.length:Int)-1-i)) (.br (ib ((4:Int)*((ws.length:Int)-1-i))) (.br (ib ((4:Int)*((ws.length:Int)-1-i)+1)) (.br (ib ((4:Int)*((ws.length:Int)-1-i)+2)) (.br (ib ((4:Int)*((ws.length:Int)-1-i)+3)) (.br (decide ((0:Int)<=24)) (.br (decide ((0:Int)<=16)) (.br (decide ((0:Int)<=8)) (.br (ix ((4:Int)*((ws.length:Int)-1-i)) ((len:Int))) (.br (((0:Nat)+((4:Int)*((ws.length:Int)-1-i)).toNat+1).ble xs.length) (.br (ix ((4:Int)*((ws.length:Int)-1-i)+1) ((len:Int))) (.br (((0:Nat)+((4:Int)*((ws.length:Int)-1-i)+1).toNat+1).ble (xs.set ((0:Nat)+((4:Int)*((ws.length:Int)-1-i)).toNat) (IntKind.u8.wrap ((ws.getD i.toNat 0).fdiv ((2:Int)^min (Int.toNat 24) IntKind.u32.bits)))).length) (.br (ix ((4:Int)*((ws.length:Int)-1-i)+2) ((len:Int))) (.br (((0:Nat)+((4:Int)*((ws.length:Int)-1-i)+2).toNat+1).ble ((xs.set ((0:Nat)+((4:Int)*((ws.length:Int)-1-i)).toNat) (IntKind.u8.wrap ((ws.getD i.toNat 0).fdiv ((2:Int)^min (Int.toNat 24) IntKind.u32.bits)))).set ((0:Nat)+((4:Int)*((ws.length:Int)-1-i)+1).toNat) (IntKind.u8.wrap ((ws.getD i.toNat 0).fdiv ((2:Int)^min (Int.toNat 16) IntKind.u32.bits)))).length) (.br (ix ((4:Int)*((ws.length:Int)-1-i)+3) ((len:Int))) (.br (((0:Nat)+((4:Int)*((ws.length:Int)-1-i)+3).toNat+1).ble (((xs.set ((0:Nat)+((4:Int)*((ws.length:Int)-1-i)).toNat) (IntKind.u8.wrap ((ws.getD i.toNat 0).fdiv ((2:Int)^min (Int.toNat 24) IntKind.u32.bits)))).set ((0:Nat)+((4:Int)*((ws.length:Int)-1-i)+1).toNat) (IntKind.u8.wrap ((ws.getD i.toNat 0).fdiv ((2:Int)^min (Int.toNat 16) IntKind.u32.bits)))).set ((0:Nat)+((4:Int)*((ws.length:Int)-1-i)+2).toNat) (IntKind.u8.wrap ((ws.getD i.toNat 0).fdiv ((2:Int)^min (Int.toNat 8) IntKind.u32.bits)))).length) (.br (ib (i+1)) (.ok (.out .normal (LS.mk [.lst 1 (.ints .u32 ws),.sl 0 1 0 len,.lst 1 (.ints .u32 ws),.i .i64 n,.i .i64 (i+1)] [some (.mk 1 (.ints .u8 ((((xs.set ((0:Nat)+((4:Int)*((ws.length:Int)-1-i)).toNat) (IntKind.u8.wrap ((ws.getD i.toNat 0).fdiv ((2:Int)^min (Int.toNat 24) IntKind.u32.bits)))).set ((0:Nat)+((4:Int)*((ws.length:Int)-1-i)+1).toNat) (IntKind.u8.wrap ((ws.getD i.toNat 0).fdiv ((2:Int)^min (Int.toNat 16) IntKind.u32.bits)))).set ((0:Nat)+((4:Int)*((ws.length:Int)-1-i)+2).toNat) (IntKind.u8.wrap ((ws.getD i.toNat 0).fdiv ((2:Int)^min (Int.toNat 8) IntKind.u32.bits)))).set ((0:Nat)+((4:Int)*((ws.length:Int)-1-i)+3).toNat) (IntKind.u8.wrap (ws.getD i.toNat 0)))))]))) (.no 8002)) (.no 7001)) (.no 7002)) (.no 7003)) (.no 7004)) (.no 7005)) (.no 7006)) (.no 7007)) (.no 7008)) (.no 7012)) (.no 7015)) (.no 7018)) (.no 7020)) (.no 7023)) (.no 7026)) (.no 6002)) (.no 6003)) (.no 6005)) (.no 5004)) (.ok (.out (.exit 0) (LS.mk [.lst 1 (.ints .u32 ws),.sl 0 1 0 len,.lst 1 (.ints .u32 ws),.i .i64 n,.i .i64 i] [some (.mk 1 (.ints .u8 xs))]))):=by kernel_rfl
def st118 (ws:List Int) (i:Nat):LS:=⟨[.lst 1 (.ints .u32 ws),.sl 0 1 0 (4*ws.length),.lst 1 (.ints .u32 ws),.i .i64 ws.length,.i .i64 i],[some ⟨1,.ints .u8 (pd 256 (4*ws.length) (lv 4294967296 ws%256^(4*i))).reverse⟩]⟩
theorem u8_fdiv (w k:Nat):IntKind.u8.wrap ((w:Int).fdiv ((2:Int)^k))=((w/2^k%256:Nat):Int):=by
 rw[fdiv_nat,IntKind.wrap_u8'];simp
theorem step118 (ws:List Int) (hws:∀ x∈ws,0<=x/\x<(4294967296:Int)) (hL:ws.length<=268435456) (i:Nat) (hi:i<ws.length):
  (qe prog [] [] pol118 f111.ntmps 0 [0,3,11,12,13] b118 (st118 ws i)).run=some (.out .normal (st118 ws (i+1))):=by
 unfold st118
 rw[r118]
 repeat rw[k5 (by simp only[kD,kE,kH,qn,List.length_reverse,List.length_set];omega)]
 rw[k7]
 have e0:((i:Int)).toNat=i:=Int.toNat_natCast i
 have e1:0+((4:Int)*((ws.length:Int)-1-(i:Int))).toNat=4*(ws.length-1-i):=by omega
 have e2:0+((4:Int)*((ws.length:Int)-1-(i:Int))+1).toNat=4*(ws.length-1-i)+1:=by omega
 have e3:0+((4:Int)*((ws.length:Int)-1-(i:Int))+2).toNat=4*(ws.length-1-i)+2:=by omega
 have e4:0+((4:Int)*((ws.length:Int)-1-(i:Int))+3).toNat=4*(ws.length-1-i)+3:=by omega
 have m1:min (Int.toNat 24) IntKind.u32.bits=24:=rfl
 have m2:min (Int.toNat 16) IntKind.u32.bits=16:=rfl
 have m3:min (Int.toNat 8) IntKind.u32.bits=8:=rfl
 have hlen:(Cont.ints IntKind.u32 ws).len=ws.length:=rfl
 have e5:((i:Int)+1)=((i+1:Nat):Int):=by simp
 have hB:(4294967296:Nat)=256^4:=by decide
 have hpow:(256:Nat)^(4*i)=4294967296^i:=by rw[hB,Nat.pow_mul]
 have hget:=lv_get (B:=4294967296) (by omega) hws hi
 have hw:lv 4294967296 ws/4294967296^i%4294967296<4294967296:=Nat.mod_lt _ (by omega)
 have hM:lv 4294967296 ws%256^(4*i)<256^(4*i):=Nat.mod_lt _ (Nat.pow_pos (by omega))
 have hnext:lv 4294967296 ws%256^(4*(i+1))=lv 4294967296 ws%256^(4*i)+lv 4294967296 ws/4294967296^i%4294967296*256^(4*i):=by
  rw[Nat.pow_mul,<-hB,hpow,Nat.mod_pow_succ,Nat.mul_comm]
 rw[hnext]
 simp only[hlen,e0,e1,e2,e3,e4,e5,m1,m2,m3,hget]
 generalize lv 4294967296 ws/4294967296^i%4294967296=w at hw ⊢
 generalize lv 4294967296 ws%256^(4*i)=M at hM ⊢
 rw[u8_fdiv,u8_fdiv,u8_fdiv]
 have hl:IntKind.u8.wrap (w:Int)=((w%256:Nat):Int):=by rw[IntKind.wrap_u8'];simp
 rw[hl]
 rw[rev_set _ _ _ (by rw[qn];omega),rev_set _ _ _ (by simp only[List.length_set,qn];omega),rev_set _ _ _ (by simp only[List.length_set,qn];omega),rev_set _ _ _ (by simp only[List.length_set,qn];omega)]
 simp only[List.length_set,qn]
 rw[show 4*ws.length-1-4*(ws.length-1-i)=4*i+3 by omega,show 4*ws.length-1-(4*(ws.length-1-i)+1)=4*i+2 by omega,
  show 4*ws.length-1-(4*(ws.length-1-i)+2)=4*i+1 by omega,show 4*ws.length-1-(4*(ws.length-1-i)+3)=4*i by omega,set4_swap]
 have:=pd_set4 (L:=4*ws.length) (i:=4*i) hM hw (by omega)
 rw[show(2:Nat)^24=16777216 by decide,show(2:Nat)^16=65536 by decide,show(2:Nat)^8=256 by decide,this]
def l118:qA:=fun ls K=>match ls with
 | ⟨[.lst 1 (.ints .u32 ws),.sl 0 1 0 len,.lst 1 (.ints .u32 ws'),.i .i64 n,.i .i64 i],[some ⟨1,.ints .u8 xs⟩]⟩=>
   .br (decide (i=0)&&decide (ws'=ws)&&decide (n=ws.length)&&decide (len=4*ws.length)&&decide (xs=List.replicate len 0)&&Nat.ble ws.length 268435456&&ws.all (fun x=>decide (0<=x)&&decide (x<4294967296)))
   (K (.exit 0) ⟨[.lst 1 (.ints .u32 ws),.sl 0 1 0 len,.lst 1 (.ints .u32 ws),.i .i64 n,.i .i64 n],[some ⟨1,.ints .u8 (pd 256 (4*ws.length) (lv 4294967296 ws)).reverse⟩]⟩) (.no 1)
 | _=>.no 1
theorem e118 (ws:List Int):evF prog [(106,s114)] [(3,l118)] pol118 f111 [.lst 1 (.ints .u32 ws)] [] ql=
 Tr.br (ib ((4:Int)*(ws.length:Int))) (.br (decide ((4:Int)*(ws.length:Int)=4*(ws.length:Int))&&decide ((0:Int)<=4*(ws.length:Int))&&decide ((4:Int)*(ws.length:Int)<=4294967296)&&prog.types[(5:Nat)].bytes.ble 1024) (.br (decide ((0:Int)=0)&&decide (ws=ws)&&decide ((ws.length:Int)=(ws.length:Int))&&decide (((4:Int)*(ws.length:Int)).toNat=4*ws.length)&&decide (List.replicate ((4:Int)*(ws.length:Int)).toNat (0:Int)=List.replicate ((4:Int)*(ws.length:Int)).toNat (0:Int))&&ws.length.ble 268435456&&ws.all fun(x:Int)=>ix (x) ((4294967296:Int))) (.br (((0:Nat)+((4:Int)*(ws.length:Int)).toNat).ble (pd (256:Nat) ((4:Nat)*ws.length) (lv (4294967296:Nat) ws)).reverse.length) (.ok (.ret (.s (nb (bv (List.map (fun(n:Int)=>UInt8.ofNat n.toNat) (List.take ((4:Int)*(ws.length:Int)).toNat (List.drop 0 (pd (256:Nat) ((4:Nat)*ws.length) (lv (4294967296:Nat) ws)).reverse))).toArray.toList))) [])) (.no 9003)) (.no 1)) (.no 2002)) (.no 2003):=by kernel_rfl
include hG in
theorem loop118:qz prog G f111.ntmps 0 [0,3,11,12,13] b118 l118:=by
 intro ls K x hm h
 unfold l118 at h
 split at h
 case h_2=>cases h
 rename_i ws len ws' n i xs
 obtain⟨hc,hr⟩:=k8 h
 simp only[kD,kE,kH,List.all_eq_true]at hc
 obtain⟨⟨⟨⟨⟨⟨rfl,rfl⟩,rfl⟩,rfl⟩,rfl⟩,hs⟩,hws⟩:=hc
 have h0:(⟨[.lst 1 (.ints .u32 ws'),.sl 0 1 0 (4*ws'.length),.lst 1 (.ints .u32 ws'),.i .i64 ws'.length,.i .i64 0],[some ⟨1,.ints .u8 (List.replicate (4*ws'.length) 0)⟩]⟩:LS)=st118 ws' 0:=by
  simp[st118,Nat.mod_one,pd_zero]
 have hN:lv 4294967296 ws'%256^(4*ws'.length)=lv 4294967296 ws':=by
  have:=lv_lt (B:=4294967296) (xs:=ws') fun x hx=>by have:=hws x hx;omega
  rw[Nat.pow_mul]
  exact Nat.mod_eq_of_lt this
 rw[h0]
 refine⟨_,_,qx (Goes.count (st118 ws') (e:=.exit 0) (by simp) ws'.length 0 (fun j h1 h2 => ?_) ?_),hr⟩
 ·exact qb hG OrcOK.nil mix (L:=[]) (pol:=pol118) (O:=[]) (kA (by kernel_rfl)) (Nat.zero_le _) (step118 ws' hws hs j (by omega))
 ·refine qb hG OrcOK.nil mix (L:=[]) (pol:=pol118) (O:=[]) (kA (by kernel_rfl)) (Nat.zero_le _) ?_
  rw[Nat.zero_add]
  unfold st118
  rw[r118,k6 (kG (by omega)),k7,hN]
def s118:Spec:=fun args hs K=>match args,hs with
 | [.lst 1 (.ints .u32 ws)],[]=>.br (Nat.ble ws.length 268435456&&ws.all (fun x=>decide (0<=x)&&decide (x<4294967296))) (K (.s (nb (lv 4294967296 ws))) []) (.no 1)
 | _,_=>.no 1
include hG in
theorem ok118:qc prog G 111 s118:=by
 intro args hs K x h
 unfold s118 at h
 split at h
 case h_2=>cases h
 rename_i ws
 obtain⟨hc,hr⟩:=k8 h
 simp only[kD,kH]at hc
 have hws:∀ x∈ws,0<=x/\x<(4294967296:Int):=by
  intro x hx
  have:=List.all_eq_true.1 hc.2 x hx
  simpa using this
 refine⟨_,_,qj hG (orc114 hG) mix enter118 (hs:=[]) (L:=[(3,l118)]) (pol:=pol118) (qN (b:=b118) (live:=[0,3,11,12,13]) (sp:=l118) (m:=0) (by kernel_rfl) (by kernel_rfl) (by kernel_rfl) (loop118 hG)) ?_,hr⟩
 have hn:((4:Int)*(ws.length:Int)).toNat=4*ws.length:=by omega
 have hlt:lv 4294967296 ws<256^(4*ws.length):=by
  have:=lv_lt (B:=4294967296) (xs:=ws) fun x hx=>by have:=hws x hx;omega
  rw[Nat.pow_mul]
  exact this
 rw[e118,hn]
 rw[k5 (by simp only[kD,kE];omega),
  k5 (by rw[show(prog.types[5].bytes.ble 1024)=true by kernel_rfl];simp only[kD,kE,true_and,and_true,decide_true,Bool.true_and,Bool.and_true];omega),
  k5 (by rw[hc.2];simp only[kD,kE,kH,true_and,and_true,decide_true,Bool.true_and,Bool.and_true];omega),
  k5 (by simp only[kH,List.length_reverse,qn];omega),k7,List.drop_zero,List.take_of_length_le (by rw[List.length_reverse,qn];exact Nat.le_refl _)]
 have:=bv_pd (4*ws.length) (lv 4294967296 ws) hlt
 simp only[this]
theorem enter107:Enters prog 100 f100 (qd f100):=⟨func100,by kernel_rfl,rfl⟩
theorem e107 (n:Int):evF prog [(108,s115)] [] {} f100 [.i .i64 n] [] ql=
 Tr.br (decide (n<1)) (.ok (.ret (.s (ByteArray.mk #[])) [])) (.br (ix (IntKind.u64.wrap n) ((18446744073709551616:Int))) (.ok (.ret (.s (nb (IntKind.u64.wrap n).toNat)) [])) (.no 1)):=by kernel_rfl
def s107:Spec:=fun args hs K=>match args,hs with
 | [.i .i64 n],[]=>.br (decide (n<=9223372036854775807)) (K (.s (nb n.toNat)) []) (.no 1)
 | _,_=>.no 1
include hG in
theorem ok107:qc prog G 100 s107:=by
 intro args hs K x h
 unfold s107 at h
 split at h
 case h_2=>cases h
 rename_i n
 obtain⟨hc,hr⟩:=k8 h
 simp only[kE]at hc
 refine⟨_,_,qj hG (.cons (ok115 hG) .nil) mix enter107 (hs:=[]) (L:=[]) (pol:={}) (kA (by kernel_rfl)) ?_,hr⟩
 rw[e107]
 by_cases h1:n<1
 ·rw[k5 (kF h1),k7,show n.toNat=0 by omega];rfl
 ·rw[k6 (kG h1),w64 (by omega) (by omega),k5 (by simp only[kD,kE];omega),k7]

def b128:Code:=(qi (qd f148)).getD 0 .skip
def pol128:Pol:={live:=[(1,[0,1])]}
theorem enter128:Enters prog 148 f148 (qd f148):=⟨func148,by kernel_rfl,rfl⟩
theorem r128 (x y:Int):qe prog [] [] pol128 f148.ntmps 0 [0,1] b128 ⟨[.i .u64 x,.i .u64 y],[]⟩=
 Tr.br (decide (0<y)) (.br (!decide (y=0)) (.ok (.out .normal (LS.mk [.i .u64 y,.i .u64 (x.tmod y)] []))) (.no 3003)) (.ok (.out (.exit 0) (LS.mk [.i .u64 x,.i .u64 y] []))):=by kernel_rfl
def l128:qA:=fun ls K=>match ls with
 | ⟨[.i .u64 x,.i .u64 y],[]⟩=>.br (decide (0<=x)&&decide (0<=y)) (K (.exit 0) ⟨[.i .u64 (Nat.gcd x.toNat y.toNat),.i .u64 0],[]⟩) (.no 1)
 | _=>.no 1
theorem e128 (x y:Int):evF prog [] [(1,l128)] pol128 f148 [.i .u64 x,.i .u64 y] [] ql=
 Tr.br (decide (0<=x)&&decide (0<=y)) (.ok (.ret (.i .u64 (↑(x.toNat.gcd y.toNat):Int)) [])) (.no 1):=by kernel_rfl
include hG in
theorem goes128:∀ (y x:Nat),Goes (Rnd prog G f148.ntmps 0 [0,1] b128) ⟨[.i .u64 x,.i .u64 y],[]⟩ (.exit 0) ⟨[.i .u64 (Nat.gcd x y),.i .u64 0],[]⟩:=by
 intro y
 induction y using Nat.strongRecOn with
 | _ y ih=>
  intro x
  by_cases h:y=0
  ·subst h
   refine .last _ _ _ (qb hG OrcOK.nil mix (L:=[]) (pol:=pol128) (O:=[]) (kA (by kernel_rfl)) (Nat.zero_le _) ?_) (by simp)
   rw[r128,k6 (by decide),k7,Nat.gcd_zero_right];rfl
  ·refine .more _ ⟨[.i .u64 y,.i .u64 (x%y:Nat)],[]⟩ _ _ (qb hG OrcOK.nil mix (L:=[]) (pol:=pol128) (O:=[]) (kA (by kernel_rfl)) (Nat.zero_le _) ?_) ?_
   ·rw[r128,k5 (kF (by omega)),k5 (by rw[kG (by omega)];rfl),k7,tmod_nat]
   ·have:=ih (x%y) (Nat.mod_lt _ (by omega)) y
    rwa[Nat.gcd_comm y,<-Nat.gcd_rec,Nat.gcd_comm y]at this
def s128:Spec:=fun args hs K=>match args,hs with
 | [.i .u64 x,.i .u64 y],[]=>.br (decide (0<=x)&&decide (0<=y)) (K (.i .u64 (Nat.gcd x.toNat y.toNat)) []) (.no 1)
 | _,_=>.no 1
include hG in
theorem ok128:qc prog G 148 s128:=by
 intro args hs K x h
 unfold s128 at h
 split at h
 case h_2=>cases h
 rename_i x y
 obtain⟨hc,hr⟩:=k8 h
 refine⟨_,_,qj hG OrcOK.nil mix enter128 (hs:=[]) (L:=[(1,l128)]) (pol:=pol128) (O:=[]) (qN (b:=b128) (live:=[0,1]) (sp:=l128) (m:=0) (by kernel_rfl) (by kernel_rfl) (by kernel_rfl) ?_) (by rw[e128,k5 hc];rfl),hr⟩
 intro ls K x hm h
 unfold l128 at h
 split at h
 case h_2=>cases h
 rename_i x y
 obtain⟨hc,hr⟩:=k8 h
 simp only[kD,kE]at hc
 obtain⟨a,rfl⟩:=Int.eq_ofNat_of_zero_le hc.1
 obtain⟨b,rfl⟩:=Int.eq_ofNat_of_zero_le hc.2
 exact⟨_,_,qx (goes128 hG b a),hr⟩
end
section
open Go
set_option maxRecDepth 100000
variable {G:World->(Nat->Prop)->Prop} (hG:GOk G)
theorem pc_extern {P:Program} {g:Nat} {fn:Func} {e:Array Value->Sem Value} (hf:P.funcs[g]? = some fn) (hname:(fn.name=="runtime.NumGoroutine")=false) (hb:fn.body=none)
  (hx:Extern.findNext fn=none) (he:Extern.find fn=some e) {args:List PV} {r:PV} (hr:unfr 0 r=(r,[]))
  (h:∀ (w:World) (S:Nat->Prop) (μ:Mu) (vs:List Value),RepVL w S μ args vs->∃ v,(e vs.toArray).run P w=.ok v w/\RepV w S μ r v):PC P G g args [] r []:=by
 intro w S μ vs _ hrep hh hmu o a K Q hK
 obtain⟨v,h1,h2⟩:=h w S μ vs hrep
 have hn:fn.name≠"runtime.NumGoroutine":=by simpa using hname
 have:(callFunc g vs.toArray).run P w=.ok (.value v) w:=by
  simp[callFunc,hf,hn,hb,hx,he,h1]
 rw[this,Oper.upon_value]
 refine hK v w ⟨S,μ,⟨rfl,rfl,rfl,Nat.le_refl _,fun _ _ _=>rfl,fun _ h=>h,fun _ h=>.inl h,fun _ _=>rfl,?_,fun j k hj=>by simp at hj,fun j k hj => ?_,fun j j' a z z' hj => ?_⟩⟩
 ·simp only[kJ,hr];exact h2
 ·simp only[kJ,hr]at hj;simp at hj
 ·simp only[kJ,hr]at hj;simp at hj
theorem repVL_two {w:World} {S:Nat->Prop} {μ:Mu} {u v:PV} {vs:List Value} (h:RepVL w S μ [u,v] vs):∃ x y,vs=[x,y]/\RepV w S μ u x/\RepV w S μ v y:=by
 cases h with|cons _ _ _ x xs h1 h2=>cases h2 with|cons _ _ _ y ys h3 h4=>cases h4;exact⟨x,y,rfl,h1,h3⟩
theorem repVL_three {w:World} {S:Nat->Prop} {μ:Mu} {u v t:PV} {vs:List Value} (h:RepVL w S μ [u,v,t] vs):∃ x y z,vs=[x,y,z]/\RepV w S μ u x/\RepV w S μ v y/\RepV w S μ t z:=by
 cases h with|cons _ _ _ x xs h1 h2=>obtain⟨y,z,rfl,h3,h4⟩:=repVL_two h2;exact⟨x,y,z,rfl,h1,h3,h4⟩

def s145:Spec:=fun args hs K=>match args,hs with
 | [.s a,.s b],[]=>K (.i .i64 (Extern.BytealgCompare.cmp a b)) []
 | _,_=>.no 1
theorem ok145:qc Tryz.prog G 180 s145:=by
 intro args hs K x h
 unfold s145 at h
 split at h
 case h_2=>cases h
 rename_i a b
 refine⟨_,_,pc_extern (e:=Extern.BytealgCompare.compare) Tryz.func180 (by kernel_rfl) (by rfl) (by kernel_rfl) (by kernel_rfl) rfl (fun w S μ vs hv => ?_),h⟩
 obtain⟨x,y,rfl,h1,h2⟩:=repVL_two hv
 rw[repV_s h1,repV_s h2]
 refine⟨_,?_,qC _ _⟩
 rfl
end
section
open Go
def sg (neg:Bool) (n:Nat):Int:=match neg with|true => -(n:Int)|false=>n
theorem sg_natAbs (neg:Bool) (n:Nat):(sg neg n).natAbs=n:=by cases neg<;>simp[sg]
theorem sg_num (x:Rat):sg (qo x) x.num.natAbs=x.num:=by
 unfold sg qo
 by_cases h:x.num<0
 ·rw[kF h];show -((x.num.natAbs:Int))=_;omega
 ·rw[kG h];show((x.num.natAbs:Int))=_;omega
theorem rnum_eq (x:Rat):qt x=nb x.num.natAbs:=rfl
theorem rden_eq (x:Rat):qu x=nb x.den:=rfl
theorem nb_zero:nb 0=⟨#[]⟩:=rfl
theorem nb_eq_empty {n:Nat}:nb n=⟨#[]⟩↔n=0:=⟨fun h=>nb_inj (h.trans nb_zero.symm),fun h=>by rw[h];rfl⟩
theorem nb_onev:nb 1=⟨#[1]⟩:=rfl
theorem nb_eq_one {n:Nat}:nb n=⟨#[1]⟩↔n=1:=⟨fun h=>nb_inj (h.trans nb_onev.symm),fun h=>by rw[h];rfl⟩
theorem qE (n:Nat):bv (nb n).data.toList=n:=by rw[nb_data,bv_nbl]
theorem nb_size_le {n k:Nat} (h:n<256^k):(nb n).size<=k:=by rw[nb_size];exact nbl_length_le h
theorem nb_lt {n k:Nat} (h:(nb n).size<=k):n<256^k:=by
 have:=nbl_lt n
 rw[nb_size]at h
 exact Nat.lt_of_lt_of_le this (Nat.pow_le_pow_right (by omega) h)
theorem nb_size_pos {n:Nat} (h:n≠0):0<(nb n).size:=by
 rw[nb_size]
 rcases Nat.eq_zero_or_pos (nbl n).length with h1|h1
 ·exact absurd (nbl_eq_nil.1 (List.eq_nil_of_length_eq_zero h1)) h
 ·exact h1
theorem nbl_head {n:Nat} (h:n≠0):(nbl n).getD 0 0≠0:=by
 have h1:=nbl_bv (nbl n)
 rw[bv_nbl]at h1
 cases hl:nbl n with
 | nil=>exact absurd (nbl_eq_nil.1 hl) h
 | cons b l=>
  rw[hl]at h1
  simp only[List.getD_cons_zero]
  intro hb
  subst hb
  have:((0:UInt8)::l).dropWhile (· == 0)=l.dropWhile (· == 0):=by simp[List.dropWhile]
  rw[this]at h1
  have h2:=(List.dropWhile_sublist (l:=l) (· == (0:UInt8))).length_le
  rw[<-h1]at h2
  simp at h2
  omega
theorem nb_head {n:Nat} (h:n≠0):¬ (((nb n).data.toList.getD 0 0).toNat:Int)=0:=by
 rw[nb_data]
 intro h1
 exact nbl_head h (UInt8.toNat_inj.1 (by rw[show((nbl n).getD 0 0).toNat=0 by omega];rfl))

def mkz (neg:Bool) (n d:Nat):Rat:=mkRat (sg neg n) d
theorem mkz_num {neg:Bool} {n d:Nat} (hd:d≠0):(mkz neg n d).num=sg neg (n/n.gcd d):=by
 unfold mkz
 rw[Rat.num_mkRat,if_neg hd,sg_natAbs,Nat.gcd_comm]
 cases neg with
 | false=>rfl
 | true=>
  show -(n:Int)/((n.gcd d:Nat):Int) = -(((n/n.gcd d:Nat)):Int)
  rw[Int.neg_ediv_of_dvd (by exact_mod_cast Nat.gcd_dvd_left n d)]
  simp
theorem mkz_den {neg:Bool} {n d:Nat} (hd:d≠0):(mkz neg n d).den=d/n.gcd d:=by
 unfold mkz
 rw[Rat.den_mkRat,if_neg hd,sg_natAbs,Nat.gcd_comm]
theorem mkz_natAbs {neg:Bool} {n d:Nat} (hd:d≠0):(mkz neg n d).num.natAbs=n/n.gcd d:=by rw[mkz_num hd,sg_natAbs]
theorem mkz_rneg {neg:Bool} {n d:Nat} (hd:d≠0) (hn:n≠0):qo (mkz neg n d)=neg:=by
 unfold qo
 rw[mkz_num hd]
 have h1:0<n/n.gcd d:=Nat.div_pos (Nat.le_of_dvd (by omega) (Nat.gcd_dvd_left n d)) (Nat.gcd_pos_of_pos_left _ (by omega))
 cases neg with
 | true=>exact kF (show -(((n/n.gcd d:Nat)):Int)<0 by omega)
 | false=>exact kG (show ¬ (((n/n.gcd d:Nat)):Int)<0 by omega)
theorem mkz_zero (neg:Bool) (d:Nat):mkz neg 0 d=0:=by cases neg<;>simp[mkz,sg]
theorem rat_mul_mkz (x y:Rat):x*y=mkz (qo x != qo y) (x.num.natAbs*y.num.natAbs) (x.den*y.den):=by
 rw[Rat.mul_def']
 unfold mkz
 congr 1
 rw[<-sg_num x,<-sg_num y,sg_natAbs,sg_natAbs]
 cases qo x<;>cases qo y<;>simp[sg,Int.neg_mul,Int.mul_neg]
def sgn2 (neg:Bool) (a:Nat) (minus:Bool) (b:Nat):Bool × Nat:=
 match neg==minus with
 | true=>(neg,a+b)
 | false=>if b<=a then (neg,a-b)else (minus,b-a)
theorem sgn2_eq (neg:Bool) (a:Nat) (minus:Bool) (b:Nat):sg (sgn2 neg a minus b).1 (sgn2 neg a minus b).2=sg neg a+sg minus b:=by
 unfold sgn2
 cases neg<;>cases minus
 ·show((a+b:Nat):Int)=(a:Int)+(b:Int);omega
 ·show sg (if b<=a then (false,a-b)else (true,b-a)).1 (if b<=a then (false,a-b)else (true,b-a)).2=(a:Int) + -(b:Int)
  split
  ·show((a-b:Nat):Int)=_;omega
  ·show -((b-a:Nat):Int)=_;omega
 ·show sg (if b<=a then (true,a-b)else (false,b-a)).1 (if b<=a then (true,a-b)else (false,b-a)).2 = -(a:Int)+(b:Int)
  split
  ·show -((a-b:Nat):Int)=_;omega
  ·show((b-a:Nat):Int)=_;omega
 ·show -((a+b:Nat):Int) = -(a:Int) + -(b:Int);omega
theorem rat_add_mkz (x y:Rat):x+y=mkz (sgn2 (qo x) (x.num.natAbs*y.den) (qo y) (y.num.natAbs*x.den)).1 (sgn2 (qo x) (x.num.natAbs*y.den) (qo y) (y.num.natAbs*x.den)).2 (x.den*y.den):=by
 rw[Rat.add_def']
 unfold mkz
 rw[sgn2_eq]
 congr 1
 have h:∀ (b:Bool) (n m:Nat),sg b (n*m)=sg b n*m:=by intro b n m;cases b<;>simp[sg,Int.neg_mul]
 rw[h,h,sg_num,sg_num]
theorem rat_add_same (x y:Rat) (h:x.den=y.den):x+y=mkz (sgn2 (qo x) x.num.natAbs (qo y) y.num.natAbs).1 (sgn2 (qo x) x.num.natAbs (qo y) y.num.natAbs).2 x.den:=by
 rw[Rat.add_def']
 unfold mkz
 rw[sgn2_eq,sg_num,sg_num,<-h,<-Int.add_mul,Rat.mkRat_mul_right x.den_nz]

def ncmp (n m:Nat):Int:=if n<m then -1 else if m<n then 1 else 0
def rcmp (x y:Rat):Int:=if x<y then -1 else if y<x then 1 else 0
theorem rcmp_cross (x y:Rat):rcmp x y=if x.num*y.den<y.num*x.den then -1 else if y.num*x.den<x.num*y.den then 1 else 0:=by
 unfold rcmp
 simp only[Rat.lt_iff]
theorem rcmp_lt {x y:Rat}:rcmp x y<0↔x<y:=by
 unfold rcmp
 have := @Rat.lt_irrefl x
 split<;>simp_all
 split<;>simp_all
theorem rcmp_gt {x y:Rat}:0<rcmp x y↔y<x:=by
 unfold rcmp
 split
 ·rename_i h;simp;exact Rat.not_lt.2 (Rat.le_of_lt h)
 ·split<;>simp_all
theorem rcmp_le {x y:Rat}:rcmp x y<=0↔x<=y:=by
 rw[<-Int.not_lt,rcmp_gt,Rat.not_lt]
theorem rcmp_ge {x y:Rat}:0<=rcmp x y↔y<=x:=by
 rw[<-Int.not_lt,rcmp_lt,Rat.not_lt]

theorem sz_le {x:Rat} {k:Nat} (h1:x.num.natAbs<2^k) (h2:x.den<2^k) (hk:0<k):sz x<=k:=by
 unfold sz
 have a:x.num.natAbs.log2<k:=by
  by_cases h:x.num.natAbs=0
  ·rw[h];simpa using hk
  ·exact(Nat.log2_lt h).2 h1
 have b:x.den.log2<k:=(Nat.log2_lt x.den_nz).2 h2
 omega
theorem mkRat_den_le (n:Int) {d:Nat} (hd:d≠0):(mkRat n d).den<=d:=by
 rw[Rat.den_mkRat,if_neg hd];exact Nat.div_le_self _ _
theorem mkRat_num_le (n:Int) {d:Nat} (hd:d≠0):(mkRat n d).num.natAbs<=n.natAbs:=by
 rw[Rat.num_mkRat,if_neg hd]
 have h:((d.gcd n.natAbs:Nat):Int)∣n:=by
  rw[<-Int.dvd_natAbs];exact_mod_cast Nat.gcd_dvd_right d n.natAbs
 rw[Int.natAbs_ediv_of_dvd h]
 exact Nat.div_le_self _ _
theorem rat_small {x:Rat} {n:Int} {d:Nat} (hd:d≠0) (h:x=mkRat n d):x.num.natAbs<=n.natAbs/\x.den<=d:=by
 subst h;exact⟨mkRat_num_le n hd,mkRat_den_le n hd⟩

theorem vle_q {nv:PV} {x:Rat} {n:Nat} (h:bof nv=some (qo x)) (hs:sz x<=n):VLe (.agg [nv,.s (qt x),.s (qu x)]) (.q x n):=by
 have key:∀ (w:World) (S:Nat->Prop) (μ:Mu) (cs:List Value),RepC w S μ (.agg [nv,.s (qt x),.s (qu x)]) cs->RepC w S μ (.q x n) cs:=by
  intro w S μ cs hc
  cases hc with
  | agg _ _ _ hl=>
  cases hl with
  | cons _ _ _ c1 d1 h1 hl=>
  cases hl with
  | cons _ _ _ c2 d2 h2 hl=>
  cases hl with
  | cons _ _ _ c3 d3 h3 hl=>
  cases hl
  cases h2;cases h3
  have e1:c1=[.bool (qo x)]:=by
   cases nv<;>simp[bof]at h<;>subst h<;>cases h1<;>rfl
  subst e1
  exact .q _ _ _ hs
 refine⟨rfl,fun w S μ=>⟨key w S μ,fun v hv => ?_⟩⟩
 cases hv with
 | cell _ _ _ hv h=>simp[isAgg]at hv
 | agg _ _ cs hv h=>exact .agg _ _ _ rfl (key w S μ cs h)
theorem rle_q {nv:PV} {x:Rat} {n:Nat} (h:bof nv=some (qo x)) (hs:sz x<=n):RLe (.agg [nv,.s (qt x),.s (qu x)]) (.q x n):=by
 have hu:∀ m,unfr m (.agg [nv,.s (qt x),.s (qu x)])=(.agg [nv,.s (qt x),.s (qu x)],[]):=by
  intro m
  cases nv<;>simp[bof]at h<;>rfl
 refine⟨fun m => ?_,fun m => ?_⟩
 ·rw[hu];exact vle_q h hs
 ·rw[hu];exact .refl _
theorem vle_qq {x:Rat} {n m:Nat} (hs:sz x<=m):VLe (.q x n) (.q x m):=by
 have key:∀ (w:World) (S:Nat->Prop) (μ:Mu) (cs:List Value),RepC w S μ (.q x n) cs->RepC w S μ (.q x m) cs:=by
  intro w S μ cs hc
  cases hc
  exact .q _ _ _ hs
 refine⟨rfl,fun w S μ=>⟨key w S μ,fun v hv => ?_⟩⟩
 cases hv with
 | cell _ _ _ hv h=>simp[isAgg]at hv
 | agg _ _ cs hv h=>exact .agg _ _ _ rfl (key w S μ cs h)
theorem rle_qq {x:Rat} {n m:Nat} (hs:sz x<=m):RLe (.q x n) (.q x m):=⟨fun _=>vle_qq hs,fun _=>.refl _⟩
theorem bs_get (l:List UInt8) (i:Nat):(bs l)[i]! = l.getD i 0:=by
 by_cases h:i<(bs l).size
 ·rw[getElem!_pos (bs l) i h]
  have h':i<l.length:=by rwa[bs_size]at h
  simp[List.getD_eq_getElem?_getD,h']
  rfl
 ·rw[getElem!_neg (bs l) i h]
  have h':l.length<=i:=by rw[bs_size]at h;omega
  simp[List.getD_eq_getElem?_getD,h']
  rfl
theorem bv_split (l:List UInt8) (i:Nat) (h:i<l.length):bv l=bv (l.take i)*256^(l.length-i)+((l.getD i 0).toNat*256^(l.length-i-1)+bv (l.drop (i+1))):=by
 have h1:l=l.take i++(l[i]::l.drop (i+1)):=by rw[List.getElem_cons_drop,List.take_append_drop]
 have h2:l.getD i 0=l[i]:=by simp[List.getD_eq_getElem?_getD,h]
 have h3:(l.drop (i+1)).length=l.length-i-1:=by simp;omega
 have h4:(l[i]::l.drop (i+1)).length=l.length-i:=by simp
 conv=>lhs;rw[h1,bv_append,bv_cons,h3,h4]
 rw[h2]
theorem bv_lt_of (l m:List UInt8) (i:Nat) (hlen:l.length=m.length) (h:i<l.length) (hp:l.take i=m.take i) (hlt:(l.getD i 0).toNat<(m.getD i 0).toNat):bv l<bv m:=by
 rw[bv_split l i h,bv_split m i (by omega),hp,hlen]
 have h1:bv (l.drop (i+1))<256^(m.length-i-1):=by
  have:=bv_lt (l.drop (i+1))
  rw[List.length_drop]at this
  rwa[show l.length-(i+1)=m.length-i-1 by omega]at this
 have h2:((l.getD i 0).toNat+1)*256^(m.length-i-1)<=(m.getD i 0).toNat*256^(m.length-i-1):=Nat.mul_le_mul_right _ hlt
 rw[Nat.add_mul,Nat.one_mul]at h2
 omega
theorem cmp_bs {l m:List UInt8} (h:l.length=m.length):Extern.BytealgCompare.cmp (bs l) (bs m)=ncmp (bv l) (bv m):=by
 unfold Extern.BytealgCompare.cmp
 have hs:min (bs l).size (bs m).size=l.length:=by rw[bs_size,bs_size];omega
 rw[hs]
 split
 ·rename_i i hi
  rw[List.find?_range_eq_some]at hi
  obtain⟨h1,h2,h3⟩:=hi
  have h2:i<l.length:=by simpa using h2
  rw[bs_get,bs_get]at h1 ⊢
  have hp:l.take i=m.take i:=by
   apply List.ext_getElem
   ·simp;omega
   ·intro j a b
    have hj:j<i:=by simp at a;omega
    have:=h3 j hj
    rw[bs_get,bs_get]at this
    simp[List.getD_eq_getElem?_getD,show j<l.length by omega,show j<m.length by omega]at this
    simpa using this
  have hne:(l.getD i 0).toNat≠(m.getD i 0).toNat:=by
   intro e
   have:=UInt8.toNat_inj.1 e
   rw[this]at h1
   simp at h1
  by_cases hlt:(l.getD i 0).toNat<(m.getD i 0).toNat
  ·rw[if_pos (UInt8.lt_iff_toNat_lt.2 hlt)]
   unfold ncmp
   rw[if_pos (bv_lt_of l m i h h2 hp hlt)]
  ·rw[if_neg (fun h=>hlt (UInt8.lt_iff_toNat_lt.1 h))]
   have h4:=bv_lt_of m l i h.symm (by omega) hp.symm (by omega)
   unfold ncmp
   rw[if_neg (by omega),if_pos h4]
 ·rename_i hi
  rw[List.find?_eq_none]at hi
  have e:l=m:=by
   apply List.ext_getElem h
   intro j a b
   have:=hi j (by simpa using a)
   rw[bs_get,bs_get]at this
   simp[List.getD_eq_getElem?_getD,a,b]at this
   exact this
  subst e
  simp[ncmp]
theorem ncmp_len {n m:Nat} (h:(nb n).size<(nb m).size):n<m:=by
 rw[nb_size,nb_size]at h
 have h1:=nbl_lt n
 have h2:=nbl_le (n:=m) (fun e=>by subst e;simp[nbl_zero]at h)
 have:256^(nbl n).length<=256^((nbl m).length-1):=Nat.pow_le_pow_right (by omega) (by omega)
 omega
theorem cmp_nb {n m:Nat} (h:(nb n).size=(nb m).size):Extern.BytealgCompare.cmp (nb n) (nb m)=ncmp n m:=by
 rw[nb_bs,nb_bs,cmp_bs (by rwa[nb_size,nb_size]at h),bv_nbl,bv_nbl]

def unr (P:Program) (O:Orc) (L:Lps) (pol:Pol) (n m:Nat) (live:List Nat) (a:Code):Nat->qA
 | 0,_,_=>.no 16
 | k+1,ls,K=>evC P O L pol n m a (fun e s=>match saveS m live s with
  | some ls'=>match e with
   | .normal=>unr P O L pol n m live a k ls' K
   | e=>K e ls'
  | none=>.no 14) (loadS n live ls)
theorem unr_goes {P:Program} {G:World->(Nat->Prop)->Prop} {O:Orc} {L:Lps} {pol:Pol} {n m:Nat} {live:List Nat} {a:Code} (hG:GOk G) (hO:OrcOK P G O) (hmix:P.follows .mixedOrders=true) (hl:LpsOK P G pol n m L a):
  ∀ (k:Nat) (ls:LS) (K:Exit->LS->Tr) (x:Res),m<=ls.h.length->(unr P O L pol n m live a k ls K).run=some x->∃ e ls',Goes (Rnd P G n m live a) ls e ls'/\(K e ls').run=some x
 | 0,_,_,_,_,h=>by cases h
 | k+1,ls,K,x,hm,h=>by
  unfold unr at h
  obtain⟨e,s1,h1,h2⟩:=evC_ok hG hO hmix a _ _ _ hl loadS_len (by simpa [loadS]using hm) h
  split at h2
  case h_2=>cases h2
  rename_i ls1 hls
  have hr:Rnd P G n m live a ls e ls1:=⟨loadS_len,by simpa [loadS]using save_len hls,fun E hE Q act w hQ hi=>h1.wp E hE Q act w (fun a w h=>hQ a w (save_ok (by rw[hE];exact hls) h1.len h)) hi⟩
  split at h2
  ·obtain⟨e2,ls2,h3,h4⟩:=unr_goes hG hO hmix hl k ls1 K x (save_len hls) h2
   exact⟨e2,ls2,.more _ _ _ _ hr h3,h4⟩
  ·rename_i hne
   exact⟨e,ls1,.last _ _ _ hr (fun he=>hne he),h2⟩
theorem unr_ok {P:Program} {G:World->(Nat->Prop)->Prop} {O:Orc} {L:Lps} {pol:Pol} {n m:Nat} {live:List Nat} {a:Code} (hG:GOk G) (hO:OrcOK P G O) (hmix:P.follows .mixedOrders=true) (hl:LpsOK P G pol n m L a) (k:Nat):
  qz P G n m live a (unr P O L pol n m live a k):=by
 intro ls K x hm h
 obtain⟨e,ls',h1,h2⟩:=unr_goes hG hO hmix hl k ls K x hm h
 exact⟨e,ls',qx h1,h2⟩
def qg (p:Prop):Bool := @decide p (Classical.propDecidable p)
theorem decP_iff {p:Prop}:qg p=true↔p:=by unfold qg;simp
theorem qq {P:Program} {G:World->(Nat->Prop)->Prop} (hG:GOk G) {O:Orc} (hO:OrcOK P G O) (hmix:P.follows .mixedOrders=true) {g:Nat} {fn:Func} {c:Code} (hg:Enters P g fn c) {L:Lps} {pol:Pol} {sp:Spec}
  (H:∀ args hs K x,(sp args hs K).run=some x->LpsOK P G pol fn.ntmps hs.length L c/\∃ r r' hs',(evF P O L pol fn args hs ql).run=some (.ret r hs')/\RLe r r'/\(K r' hs').run=some x):qc P G g sp:=by
 intro args hs K x h
 obtain⟨hl,r,r',hs',h1,h2,h3⟩:=H args hs K x h
 exact⟨r',hs',(qj hG hO hmix hg hl h1).le h2 (.refl _),h3⟩
def ArgsLe (us vs:List PV):Prop:=∀ (w:World) (S:Nat->Prop) (μ:Mu) (xs:List Value),RepVL w S μ us xs->RepVL w S μ vs xs
theorem ArgsLe.refl (us:List PV):ArgsLe us us:=fun _ _ _ _ h=>h
theorem ArgsLe.nil:ArgsLe [] []:=.refl _
theorem ArgsLe.cons {u v:PV} {us vs:List PV} (h:VLe u v) (h':ArgsLe us vs):ArgsLe (u::us) (v::vs):=by
 intro w S μ xs hx
 cases hx with
 | cons _ _ _ x xs h1 h2=>exact .cons _ _ _ _ _ ((h.2 w S μ).2 _ h1) (h' w S μ _ h2)
theorem PC.args {P:Program} {G:World->(Nat->Prop)->Prop} {g:Nat} {args args':List PV} {hs hs':List Blk} {r:PV} (h:ArgsLe args args') (hpc:PC P G g args' hs r hs'):PC P G g args hs r hs':=
 fun w S μ vs hg hr hh hmu=>hpc w S μ vs hg (h w S μ vs hr) hh hmu
theorem VLe.aggC {u v:PV} (hu:isAgg u=true) (hv:isAgg v=true) (hnt:∀ vs,u ≠ .tup vs) (h:∀ (w:World) (S:Nat->Prop) (μ:Mu) (cs:List Value),RepC w S μ u cs->RepC w S μ v cs):VLe u v:=by
 refine⟨hv.trans hu.symm,fun w S μ=>⟨h w S μ,fun x hx => ?_⟩⟩
 cases hx with
 | cell _ _ _ hv' _=>rw[hu]at hv';cases hv'
 | agg _ _ cs _ hc=>exact .agg _ _ _ hv (h w S μ cs hc)
 | tup _ vs=>exact absurd rfl (hnt _)
 | und=>cases hu
 | any=>cases hu
def VLeL (us vs:List PV):Prop:=us.length=vs.length/\∀ (j:Nat) (u v:PV),us[j]? = some u->vs[j]? = some v->VLe u v
theorem VLe.agg {us vs:List PV} (h:VLeL us vs):VLe (.agg us) (.agg vs):=by
 refine VLe.aggC rfl rfl (fun _ h=>by cases h) fun w S μ cs hc => ?_
 cases hc with
 | agg _ _ _ hl=>
  refine .agg _ _ _ ?_
  obtain⟨h1,h2⟩:=h
  induction us generalizing vs cs with
  | nil=>
   cases vs with
   | nil=>exact hl
   | cons=>simp at h1
  | cons u us ih=>
   cases vs with
   | nil=>simp at h1
   | cons v vs=>
    cases hl with
    | cons _ _ _ c1 c2 a b=>
     exact .cons _ _ _ _ _ (((h2 0 u v rfl rfl).2 w S μ).1 _ a) (ih (vs:=vs) c2 b (by simpa using h1) (fun j u' v' e1 e2=>h2 (j+1) u' v' (by simpa using e1) (by simpa using e2)))
theorem VLeL.nil:VLeL [] []:=⟨rfl,fun j u v h=>by simp at h⟩
theorem VLeL.cons {u v:PV} {us vs:List PV} (h:VLe u v) (h':VLeL us vs):VLeL (u::us) (v::vs):=by
 refine⟨by simp[h'.1],fun j a b e1 e2 => ?_⟩
 cases j with
 | zero=>simp at e1 e2;subst e1;subst e2;exact h
 | succ j=>exact h'.2 j a b (by simpa using e1) (by simpa using e2)
theorem VLe.lst {e:Nat} {c d:Cont} (hl:c.len=d.len) (h:∀ i,i<c.len->VLe (c.get i) (d.get i)):VLe (.lst e c) (.lst e d):=by
 have key:∀ (w:World) (S:Nat->Prop) (μ:Mu) (cs:List Value),RepC w S μ (.lst e c) cs->RepC w S μ (.lst e d) cs:=by
  intro w S μ cs hc
  cases hc with
  | lst _ _ _ a o cap cs hcap hS hr hlen hcell=>
   rw[hl]
   exact .lst _ e d a o cap cs (by rw[<-hl];exact hcap) hS (fun i hi=>((h i (by rw[hl];exact hi)).2 w S qR).1 _ (hr i (by rw[hl];exact hi))) (fun i hi=>hlen i (by rw[hl];exact hi)) (fun i j hi hj=>hcell i j (by rw[hl];exact hi) hj)
 refine⟨rfl,fun w S μ=>⟨key w S μ,fun x hx => ?_⟩⟩
 cases hx with
 | cell _ _ _ hv hc=>exact .cell _ _ _ rfl (key w S μ _ hc)
 | agg _ _ _ hv=>cases hv
theorem KLe.fn {e:Nat} {vs:List PV} {n:Nat} {f:Nat->PV} (hl:vs.length=n) (h:∀ (i:Nat) (v:PV),vs[i]? = some v->noRef 8 v=true/\VLe v (f i)):KLe ⟨e,.vals vs⟩ ⟨e,.fn n f⟩:=by
 intro w S μ a z hb
 obtain⟨c,T,cs,h1,h2,h3,h4,h5,h6⟩:=hb
 refine⟨c,T,cs,h1,h2,by simpa [Cont.len,hl]using h3,fun i hi => ?_,fun i hi=>h5 i (by simpa [Cont.len,hl]using hi),fun i j hi hj=>h6 i j (by simpa [Cont.len,hl]using hi) hj⟩
 have hi':i<vs.length:=by simpa [Cont.len,hl]using hi
 have hv:vs[i]? = some (vs[i]'hi'):=List.getElem?_eq_getElem _
 have h7:=h4 i (by simpa [Cont.len]using hi')
 simp only[Cont.get,List.getD_eq_getElem?_getD,hv,Option.getD_some,qD]at h7 ⊢
 obtain⟨n1,n2⟩:=h i _ hv
 exact(n2.2 w S qR).1 _ ((noRef_rep 8 μ _ n1).1 _ h7)
def fbad (ok:Nat->Bool):Nat->Nat->Nat
 | 0,i=>i
 | f+1,i=>match ok i with
  | true=>fbad ok f (i+1)
  | false=>i
theorem Goes.search {R:LS->Exit->LS->Prop} (st bad:Nat->LS) (ok:Nat->Bool) (n:Nat) {e0 e1:Exit} {fin:LS} (h0:e0 ≠ .normal) (h1:e1 ≠ .normal) (hstep:∀ j,j<n->ok j=true->R (st j) .normal (st (j+1)))
  (hbad:∀ j,j<n->ok j=false->R (st j) e1 (bad j)) (hend:R (st n) e0 fin):∀ (f i:Nat),i+f=n->
  ((∀ j,i<=j->j<n->ok j=true)->Goes R (st i) e0 fin)/\(¬ (∀ j,i<=j->j<n->ok j=true)->Goes R (st i) e1 (bad (fbad ok f i)))
 | 0,i,hi=>by
  have:i=n:=by omega
  subst this
  exact⟨fun _=>.last _ _ _ hend h0,fun h=>(h fun j a b=>by omega).elim⟩
 | f+1,i,hi=>by
  obtain⟨a,b⟩:=Goes.search st bad ok n h0 h1 hstep hbad hend f (i+1) (by omega)
  cases hok:ok i with
  | true=>
   refine⟨fun h=>.more _ _ _ _ (hstep i (by omega) hok) (a fun j x y=>h j (by omega) y),fun h => ?_⟩
   have:fbad ok (f+1) i=fbad ok f (i+1):=by simp[fbad,hok]
   rw[this]
   refine .more _ _ _ _ (hstep i (by omega) hok) (b fun h'=>h fun j x y => ?_)
   rcases Nat.lt_or_ge i j with g|g
   ·exact h' j g y
   ·have:j=i:=by omega
    subst this;exact hok
  | false=>
   refine⟨fun h=>absurd (h i (Nat.le_refl _) (by omega)) (by rw[hok];decide),fun _ => ?_⟩
   have:fbad ok (f+1) i=i:=by simp[fbad,hok]
   rw[this]
   exact .last _ _ _ (hbad i (by omega) hok) h1
theorem okW_noRef {v:PV} (h:okW v=true):noRef 8 v=true/\isAgg v=false:=by
 rcases okW_cases h with rfl|⟨xs,rfl⟩<;>exact⟨rfl,rfl⟩
theorem vle_w_out {v:PV} (h:okW v=true):VLe (.w v) v:=by
 have hk:=okW_noRef h
 have key:∀ (w:World) (S:Nat->Prop) (μ:Mu) (cs:List Value),RepC w S μ (.w v) cs->RepC w S μ v cs:=by
  intro w S μ cs hc
  cases hc with
  | w _ _ x hx=>exact hx.mono (Mono.refl' w S) _ (MuLe.none _)
 refine⟨hk.2,fun w S μ=>⟨key w S μ,fun x hx => ?_⟩⟩
 cases hx with
 | cell _ _ _ hv hc=>exact .cell _ _ _ hk.2 (key w S μ _ hc)
 | agg _ _ _ hv=>cases hv
theorem vle_w_in {v:PV} (h:okW v=true):VLe v (.w v):=by
 have hk:=okW_noRef h
 have key:∀ (w:World) (S:Nat->Prop) (μ:Mu) (cs:List Value),RepC w S μ v cs->RepC w S μ (.w v) cs:=by
  intro w S μ cs hc
  have h2:=(noRef_rep 8 μ v hk.1).1 _ hc
  rcases okW_cases h with rfl|⟨xs,rfl⟩
  ·cases h2;exact .w _ _ _ (.nil _)
  ·cases h2 with
   | lst _ _ _ a o cap cs h1 h3 h4 h5 h6=>exact .w _ _ _ (.lst _ _ _ a o cap cs h1 h3 h4 h5 h6)
 refine⟨hk.2.symm,fun w S μ=>⟨key w S μ,fun x hx => ?_⟩⟩
 cases hx with
 | cell _ _ _ hv hc=>exact .cell _ _ _ rfl (key w S μ _ hc)
 | agg _ _ _ hv=>rw[hk.2]at hv;cases hv
 | tup _ vs=>simp[okW]at h
 | und=>simp[okW]at h
 | any=>simp[okW]at h
theorem KLe.vals {e:Nat} {vs us:List PV} (h:VLeL vs us):KLe ⟨e,.vals vs⟩ ⟨e,.vals us⟩:=by
 intro w S μ a z hb
 obtain⟨c,T,cs,h1,h2,h3,h4,h5,h6⟩:=hb
 obtain⟨hl,hv⟩:=h
 refine⟨c,T,cs,h1,h2,by simpa [Cont.len,hl]using h3,fun i hi => ?_,fun i hi=>h5 i (by simpa [Cont.len,hl]using hi),fun i j hi hj=>h6 i j (by simpa [Cont.len,hl]using hi) hj⟩
 have hi':i<us.length:=by simpa [Cont.len]using hi
 have h7:=h4 i (by simpa [Cont.len,hl]using hi')
 have e1:vs[i]? = some (vs[i]'(by omega)):=List.getElem?_eq_getElem _
 have e2:us[i]? = some (us[i]'hi'):=List.getElem?_eq_getElem _
 simp only[Cont.get,List.getD_eq_getElem?_getD,e1,e2,Option.getD_some,qD]at h7 ⊢
 exact((hv i _ _ e1 e2).2 w S μ).1 _ h7
theorem KsLe.one {k k':Blk} (h:KLe k k'):KsLe [k] [k']:=by
 refine⟨rfl,fun j a b h1 h2 => ?_⟩
 cases j with
 | zero=>simp at h1 h2;subst h1;subst h2;exact h
 | succ j=>simp at h1
theorem PC.blocks {P:Program} {G:World->(Nat->Prop)->Prop} {g:Nat} {args:List PV} {hs ks hs':List Blk} {r:PV} (h:KsLe hs ks) (hpc:PC P G g args ks r hs'):PC P G g args hs r hs':=by
 intro w S μ vs hg hr hh hmu
 obtain⟨hl,hk⟩:=h
 rw[hl]
 have hget':∀ (l:List Blk) (b:Nat),hget (l.map some) b=l[b]? := by
  intro l b
  unfold hget
  rw[List.getElem?_map]
  cases l[b]? <;> rfl
 have conv:∀ (b:Nat) (k:Blk),hget (ks.map some) b=some k->∃ k0,hget (hs.map some) b=some k0/\KLe k0 k:=by
  intro b k hb
  rw[hget']at hb
  have hlt:=(List.getElem?_eq_some_iff.1 hb).1
  have e:hs[b]? = some (hs[b]'(by omega)):=List.getElem?_eq_getElem _
  exact⟨_,by rw[hget'];exact e,hk b _ _ e hb⟩
 refine hpc w S μ vs hg hr ⟨fun b k hb => ?_,fun b k a z hb hm => ?_,fun b b' k k' a z z' hb hb' h1 h2 => ?_,hh.lt⟩ (by rw[<-hl];exact hmu)
 ·obtain⟨k0,h0,hk0⟩:=conv b k hb
  obtain⟨a,z,h1,h2⟩:=hh.blk b k0 h0
  exact⟨a,z,h1,hk0 _ _ _ _ _ h2⟩
 ·obtain⟨k0,h0,_⟩:=conv b k hb
  exact hh.sep b k0 a z h0 hm
 ·obtain⟨k0,h0,_⟩:=conv b k hb
  obtain⟨k1,h1',_⟩:=conv b' k' hb'
  exact hh.inj b b' k0 k1 a z z' h0 h1' h1 h2
end
section
open Go Tryz
set_option maxRecDepth 100000
variable {G:World->(Nat->Prop)->Prop} (hG:GOk G)
theorem enter132:Enters prog 146 f146 (qd f146):=⟨func146,by kernel_rfl,rfl⟩
def s132:Spec:=evF prog [(180,s145)] [] {} f146
include hG in
theorem ok132:qc prog G 146 s132:=spec_ev hG (.cons ok145 .nil) mix enter132 (fun _=>kA (by kernel_rfl))
theorem enter120:Enters prog 107 f107 (qd f107):=⟨func107,by kernel_rfl,rfl⟩
def s120:Spec:=evF prog [(146,s132)] [] {} f107
include hG in
theorem ok120:qc prog G 107 s120:=spec_ev hG (.cons (ok132 hG) .nil) mix enter120 (fun _=>kA (by kernel_rfl))

theorem enter82:Enters prog 59 f59 (qd f59):=⟨func59,by kernel_rfl,rfl⟩
theorem e82 (a b:ByteArray):evF prog [(106,s114),(107,s120)] [] {} f59 [.s a,.s b] [] ql=
 Tr.br (decide ((↑(nb (bv a.1.toList)).size:Int)<(↑(nb (bv b.1.toList)).size:Int))) (.ok (.ret (.i .i64 (-1)) [])) (.br (decide ((↑(nb (bv b.1.toList)).size:Int)<(↑(nb (bv a.1.toList)).size:Int))) (.ok (.ret (.i .i64 1) [])) (.ok (.ret (.i .i64 (Extern.BytealgCompare.cmp (nb (bv a.1.toList)) (nb (bv b.1.toList)))) []))):=by kernel_rfl
def s82:Spec:=fun args hs K=>match args,hs with
 | [.s a,.s b],[]=>K (.i .i64 (ncmp (bv a.data.toList) (bv b.data.toList))) []
 | _,_=>.no 1
include hG in
theorem ok82:qc prog G 59 s82:=by
 refine qq hG (.cons (ok114 hG) (.cons (ok120 hG) .nil)) mix enter82 (L:=[]) (pol:={}) fun args hs K x h=>⟨kA (by kernel_rfl),?_⟩
 unfold s82 at h
 split at h
 case h_2=>cases h
 rename_i a b
 refine⟨_,_,_,?_,.refl _,h⟩
 rw[e82]
 by_cases h1:(nb (bv a.data.toList)).size<(nb (bv b.data.toList)).size
 ·rw[k5 (kF (by omega)),k7]
  have:=ncmp_len h1
  unfold ncmp
  rw[if_pos this]
 ·rw[k6 (kG (by omega))]
  by_cases h2:(nb (bv b.data.toList)).size<(nb (bv a.data.toList)).size
  ·rw[k5 (kF (by omega)),k7]
   have:=ncmp_len h2
   unfold ncmp
   rw[if_neg (by omega),if_pos this]
  ·rw[k6 (kG (by omega)),k7,cmp_nb (by omega)]
theorem bv_nb' (n:Nat):bv (qa n n []).toArray.toList=n:=bv_nbl n
theorem bv_nb2 (n:Nat):bv (qa n n [])=n:=bv_nbl n
theorem nb_size8 {n:Nat} (h:n<18446744073709551616):(nb n).size<=8:=nb_size_le (k:=8) (by omega)
theorem ba_empty_left (a:ByteArray):(⟨#[]⟩:ByteArray)++a=a:=by
 apply ByteArray.ext
 simp
theorem ba_empty_right (a:ByteArray):a++(⟨#[]⟩:ByteArray)=a:=by
 apply ByteArray.ext
 simp
theorem mul_fit {n m:Nat} (h:(nb n).size+(nb m).size<=8):n*m<18446744073709551616:=by
 have h1:=nb_lt (n:=n) (Nat.le_refl _)
 have h2:=nb_lt (n:=m) (Nat.le_refl _)
 have h3:n*m<256^((nb n).size+(nb m).size):=by
  rw[Nat.pow_add]
  rcases Nat.eq_zero_or_pos m with h0|h0
  ·subst h0
   rw[Nat.mul_zero]
   exact Nat.mul_pos (Nat.pow_pos (by omega)) (Nat.pow_pos (by omega))
  ·exact Nat.lt_of_le_of_lt (Nat.mul_le_mul_right m (Nat.le_of_lt h1)) (Nat.mul_lt_mul_of_pos_left h2 (Nat.pow_pos (by omega)))
 have h4:256^((nb n).size+(nb m).size)<=256^8:=Nat.pow_le_pow_right (by omega) h
 omega
include hG in
theorem orc9:OrcOK prog G [(106,s114),(108,s115),(109,s116)]:=.cons (ok114 hG) (.cons (ok115 hG) (.cons (ok116 hG) .nil))
theorem enter108:Enters prog 101 f101 (qd f101):=⟨func101,by kernel_rfl,rfl⟩
theorem e108 (a b:ByteArray):evF prog [(106,s114),(108,s115),(109,s116)] [] {} f101 [.s a,.s b] [] ql=
 Tr.br (decide ((↑(nb (bv a.1.toList)).size:Int)<8)) (.br (decide ((↑(nb (bv b.1.toList)).size:Int)<8)) (.br ((nb (bv a.1.toList)).size.ble 8) (.br ((nb (bv b.1.toList)).size.ble 8) (.br (decide (0<=(↑(bv (qa (bv a.1.toList) (bv a.1.toList) []).toArray.toList):Int)+(↑(bv (qa (bv b.1.toList) (bv b.1.toList) []).toArray.toList):Int))&&decide ((↑(bv (qa (bv a.1.toList) (bv a.1.toList) []).toArray.toList):Int)+(↑(bv (qa (bv b.1.toList) (bv b.1.toList) []).toArray.toList):Int)<=18446744073709551615)) (.br (ix ((↑(bv (qa (bv a.1.toList) (bv a.1.toList) []).toArray.toList):Int)+(↑(bv (qa (bv b.1.toList) (bv b.1.toList) []).toArray.toList):Int)) ((18446744073709551616:Int))) (.ok (.ret (.s (nb ((↑(bv (qa (bv a.1.toList) (bv a.1.toList) []).toArray.toList):Int)+(↑(bv (qa (bv b.1.toList) (bv b.1.toList) []).toArray.toList):Int)).toNat)) [])) (.no 1)) (.no 4003)) (.no 1)) (.no 1)) (.no 5005)) (.no 5005):=by kernel_rfl
def s108:Spec:=fun args hs K=>match args,hs with
 | [.s a,.s b],[]=>.br (decide (bv a.data.toList<72057594037927936)&&decide (bv b.data.toList<72057594037927936)) (K (.s (nb (bv a.data.toList+bv b.data.toList))) []) (.no 1)
 | _,_=>.no 1
include hG in
theorem ok108:qc prog G 101 s108:=by
 refine qq hG (orc9 hG) mix enter108 (L:=[]) (pol:={}) fun args hs K x h => ?_
 unfold s108 at h
 split at h
 case h_2=>cases h
 rename_i a b
 obtain⟨hc,hr⟩:=k8 h
 simp only[kD,kE]at hc
 refine⟨?_,_,_,_,?_,.refl _,hr⟩
 ·intro c hc live sp _ h2;cases h2
 rw[e108]
 have h1:=nb_size_le (k:=7) (show bv a.data.toList<256^7 by omega)
 have h2:=nb_size_le (k:=7) (show bv b.data.toList<256^7 by omega)
 simp only[bv_nb',bv_nb2]
 repeat rw[k5 (by simp only[kD,kE,kH];omega)]
 rw[k7,<-Int.natCast_add,Int.toNat_natCast]
theorem enter77:Enters prog 60 f60 (qd f60):=⟨func60,by kernel_rfl,rfl⟩
theorem e77 (a b:ByteArray):evF prog [(106,s114),(108,s115),(109,s116)] [] {} f60 [.s a,.s b] [] ql=
 Tr.br (ib ((↑(nb (bv a.1.toList)).size:Int)+(↑(nb (bv b.1.toList)).size:Int))) (.br (decide ((↑(nb (bv a.1.toList)).size:Int)+(↑(nb (bv b.1.toList)).size:Int)<=8)) (.br ((nb (bv a.1.toList)).size.ble 8) (.br ((nb (bv b.1.toList)).size.ble 8) (.br (decide (0<=(↑(bv (qa (bv a.1.toList) (bv a.1.toList) []).toArray.toList):Int)*(↑(bv (qa (bv b.1.toList) (bv b.1.toList) []).toArray.toList):Int))&&decide ((↑(bv (qa (bv a.1.toList) (bv a.1.toList) []).toArray.toList):Int)*(↑(bv (qa (bv b.1.toList) (bv b.1.toList) []).toArray.toList):Int)<=18446744073709551615)) (.br (ix ((↑(bv (qa (bv a.1.toList) (bv a.1.toList) []).toArray.toList):Int)*(↑(bv (qa (bv b.1.toList) (bv b.1.toList) []).toArray.toList):Int)) ((18446744073709551616:Int))) (.ok (.ret (.s (nb ((↑(bv (qa (bv a.1.toList) (bv a.1.toList) []).toArray.toList):Int)*(↑(bv (qa (bv b.1.toList) (bv b.1.toList) []).toArray.toList):Int)).toNat)) [])) (.no 1)) (.no 4003)) (.no 1)) (.no 1)) (.no 5005)) (.no 3002):=by kernel_rfl
def s77:Spec:=fun args hs K=>match args,hs with
 | [.s a,.s b],[]=>.br (decide ((nb (bv a.data.toList)).size+(nb (bv b.data.toList)).size<=8)) (K (.s (nb (bv a.data.toList*bv b.data.toList))) []) (.no 1)
 | _,_=>.no 1
include hG in
theorem ok77:qc prog G 60 s77:=by
 refine qq hG (orc9 hG) mix enter77 (L:=[]) (pol:={}) fun args hs K x h => ?_
 unfold s77 at h
 split at h
 case h_2=>cases h
 rename_i a b
 obtain⟨hc,hr⟩:=k8 h
 simp only[kE]at hc
 refine⟨?_,_,_,_,?_,.refl _,hr⟩
 ·intro c hc live sp _ h2;cases h2
 rw[e77]
 have h1:=mul_fit hc
 simp only[bv_nb',bv_nb2,<-Int.natCast_mul]
 repeat rw[k5 (by simp only[kD,kE,kH];omega)]
 rw[k7,Int.toNat_natCast]
theorem enter113:Enters prog 114 f114 (qd f114):=⟨func114,by kernel_rfl,rfl⟩
theorem e113 (a b:ByteArray):evF prog [(106,s114),(108,s115),(109,s116)] [] {} f114 [.s a,.s b] [] ql=
 Tr.br (decide (nb (bv b.1.toList)=ByteArray.mk #[])) (.ok (.ret (.tup [.s (ByteArray.mk #[]),.s (ByteArray.mk #[]),.i .i64 12]) [])) (.br (decide ((↑(nb (bv a.1.toList)).size:Int)<=8)) (.br (decide ((↑(nb (bv b.1.toList)).size:Int)<=8)) (.br ((nb (bv a.1.toList)).size.ble 8) (.br ((nb (bv b.1.toList)).size.ble 8) (.br (!decide ((↑(bv (qa (bv b.1.toList) (bv b.1.toList) []).toArray.toList):Int)=0)) (.br (ix (IntKind.u64.wrap ((↑(bv (qa (bv a.1.toList) (bv a.1.toList) []).toArray.toList):Int).tdiv (↑(bv (qa (bv b.1.toList) (bv b.1.toList) []).toArray.toList):Int))) ((18446744073709551616:Int))) (.br ((nb (bv a.1.toList)).size.ble 8) (.br ((nb (bv b.1.toList)).size.ble 8) (.br (!decide ((↑(bv (qa (bv b.1.toList) (bv b.1.toList) []).toArray.toList):Int)=0)) (.br (ix ((↑(bv (qa (bv a.1.toList) (bv a.1.toList) []).toArray.toList):Int).tmod (↑(bv (qa (bv b.1.toList) (bv b.1.toList) []).toArray.toList):Int)) ((18446744073709551616:Int))) (.ok (.ret (.tup [.s (nb (IntKind.u64.wrap ((↑(bv (qa (bv a.1.toList) (bv a.1.toList) []).toArray.toList):Int).tdiv (↑(bv (qa (bv b.1.toList) (bv b.1.toList) []).toArray.toList):Int))).toNat),.s (nb ((↑(bv (qa (bv a.1.toList) (bv a.1.toList) []).toArray.toList):Int).tmod (↑(bv (qa (bv b.1.toList) (bv b.1.toList) []).toArray.toList):Int)).toNat),.i .i64 0]) [])) (.no 1)) (.no 6005)) (.no 1)) (.no 1)) (.no 1)) (.no 6011)) (.no 1)) (.no 1)) (.no 7003)) (.no 7003)):=by kernel_rfl
def s113:Spec:=fun args hs K=>match args,hs with
 | [.s a,.s b],[]=>.br (decide (bv a.data.toList<18446744073709551616)&&decide (bv b.data.toList<18446744073709551616)&&decide (0<bv b.data.toList))
   (K (.tup [.s (nb (bv a.data.toList/bv b.data.toList)),.s (nb (bv a.data.toList%bv b.data.toList)),.i .i64 0]) []) (.no 1)
 | _,_=>.no 1
include hG in
theorem ok113:qc prog G 114 s113:=by
 refine qq hG (orc9 hG) mix enter113 (L:=[]) (pol:={}) fun args hs K x h => ?_
 unfold s113 at h
 split at h
 case h_2=>cases h
 rename_i a b
 obtain⟨hc,hr⟩:=k8 h
 simp only[kD,kE]at hc
 refine⟨?_,_,_,_,?_,.refl _,hr⟩
 ·intro c hc live sp _ h2;cases h2
 rw[e113]
 have h1:=nb_size8 hc.1.1
 have h2:=nb_size8 hc.1.2
 have h3:bv a.data.toList/bv b.data.toList<=bv a.data.toList:=Nat.div_le_self _ _
 have h4:bv a.data.toList%bv b.data.toList<bv b.data.toList:=Nat.mod_lt _ hc.2
 simp only[bv_nb',bv_nb2,tdiv_nat,tmod_nat]
 have h5:=hc.1.1
 have h6:=hc.1.2
 generalize bv a.data.toList/bv b.data.toList=q at h3 ⊢
 generalize bv a.data.toList%bv b.data.toList=r at h4 ⊢
 have hw:=w64 (n:=(q:Int)) (by omega) (by omega)
 simp only[hw]
 rw[k6 (kG (fun h=>by have:=nb_eq_empty.1 h;omega))]
 repeat rw[k5 (by simp only[kD,kE,kH,kK,kM];omega)]
 rw[k7,Int.toNat_natCast,Int.toNat_natCast]
def b112:Code:=(qi (qd f113)).getD 0 .skip
def pol112:Pol:={live:=[(2,[0,1,4])]}
def O112:Orc:=[(106,s114),(108,s115),(109,s116),(148,s128)]
def l112:qA:=unr prog O112 [] pol112 f113.ntmps 0 [0,1,4] b112 1
theorem enter112:Enters prog 113 f113 (qd f113):=⟨func113,by kernel_rfl,rfl⟩
theorem e112 (a b:ByteArray):evF prog O112 [(2,l112)] pol112 f113 [.s a,.s b] [] ql=
 Tr.br (!decide (nb (bv a.1.toList)=ByteArray.mk #[])) (.br (!decide (nb (bv b.1.toList)=ByteArray.mk #[])) (.br (decide ((↑(nb (bv a.1.toList)).size:Int)<(↑(nb (bv b.1.toList)).size:Int))) (.br (decide ((↑(nb (bv b.1.toList)).size:Int)<=8)) (.br ((nb (bv b.1.toList)).size.ble 8) (.br ((nb (bv a.1.toList)).size.ble 8) (.br (decide (0<=(↑(bv (qa (bv b.1.toList) (bv b.1.toList) []).toArray.toList):Int))&&decide (0<=(↑(bv (qa (bv a.1.toList) (bv a.1.toList) []).toArray.toList):Int))) (.br (ix ((↑((↑(bv (qa (bv b.1.toList) (bv b.1.toList) []).toArray.toList):Int).toNat.gcd (↑(bv (qa (bv a.1.toList) (bv a.1.toList) []).toArray.toList):Int).toNat):Int)) ((18446744073709551616:Int))) (.ok (.ret (.s (nb (↑((↑(bv (qa (bv b.1.toList) (bv b.1.toList) []).toArray.toList):Int).toNat.gcd (↑(bv (qa (bv a.1.toList) (bv a.1.toList) []).toArray.toList):Int).toNat):Int).toNat)) [])) (.no 1)) (.no 1)) (.no 1)) (.no 1)) (.br (ib ((↑(nb (bv a.1.toList)).size:Int)+8)) (.br (decide ((↑(nb (bv b.1.toList)).size:Int)<=(↑(nb (bv a.1.toList)).size:Int)+8)) (.no 9002) (.no 10008)) (.no 8003))) (.br (decide ((↑(nb (bv a.1.toList)).size:Int)<=8)) (.br ((nb (bv a.1.toList)).size.ble 8) (.br ((nb (bv b.1.toList)).size.ble 8) (.br (decide (0<=(↑(bv (qa (bv a.1.toList) (bv a.1.toList) []).toArray.toList):Int))&&decide (0<=(↑(bv (qa (bv b.1.toList) (bv b.1.toList) []).toArray.toList):Int))) (.br (ix ((↑((↑(bv (qa (bv a.1.toList) (bv a.1.toList) []).toArray.toList):Int).toNat.gcd (↑(bv (qa (bv b.1.toList) (bv b.1.toList) []).toArray.toList):Int).toNat):Int)) ((18446744073709551616:Int))) (.ok (.ret (.s (nb (↑((↑(bv (qa (bv a.1.toList) (bv a.1.toList) []).toArray.toList):Int).toNat.gcd (↑(bv (qa (bv b.1.toList) (bv b.1.toList) []).toArray.toList):Int).toNat):Int).toNat)) [])) (.no 1)) (.no 1)) (.no 1)) (.no 1)) (.br (ib ((↑(nb (bv b.1.toList)).size:Int)+8)) (.br (decide ((↑(nb (bv a.1.toList)).size:Int)<=(↑(nb (bv b.1.toList)).size:Int)+8)) (.no 9002) (.no 10008)) (.no 8003)))) (.br (((nb (bv a.1.toList)).size+(nb (bv b.1.toList)).size).ble 1099511627776) (.ok (.ret (.s (nb (bv a.1.toList)++nb (bv b.1.toList))) [])) (.no 12002))) (.br (((nb (bv a.1.toList)).size+(nb (bv b.1.toList)).size).ble 1099511627776) (.ok (.ret (.s (nb (bv a.1.toList)++nb (bv b.1.toList))) [])) (.no 12002)):=by kernel_rfl
def s112:Spec:=fun args hs K=>match args,hs with
 | [.s a,.s b],[]=>.br (decide (bv a.data.toList<18446744073709551616)&&decide (bv b.data.toList<18446744073709551616)) (K (.s (nb (Nat.gcd (bv a.data.toList) (bv b.data.toList)))) []) (.no 1)
 | _,_=>.no 1
include hG in
theorem orc112:OrcOK prog G O112:=.cons (ok114 hG) (.cons (ok115 hG) (.cons (ok116 hG) (.cons (ok128 hG) .nil)))
include hG in
theorem ok112:qc prog G 113 s112:=by
 refine qq hG (orc112 hG) mix enter112 (L:=[(2,l112)]) (pol:=pol112) fun args hs K x h => ?_
 unfold s112 at h
 split at h
 case h_2=>cases h
 rename_i a b
 obtain⟨hc,hr⟩:=k8 h
 simp only[kD,kE]at hc
 refine⟨qN (b:=b112) (live:=[0,1,4]) (sp:=l112) (by kernel_rfl) (by kernel_rfl) (by kernel_rfl) (unr_ok hG (orc112 hG) mix (kA (by kernel_rfl)) 1),_,_,_,?_,.refl _,hr⟩
 rw[e112]
 have h1:=nb_size8 hc.1
 have h2:=nb_size8 hc.2
 simp only[bv_nb',bv_nb2]
 by_cases ha:bv a.data.toList=0
 ·rw[k6 (by rw[ha];rfl),k5 (by rw[kH];omega),k7,ha,nb_zero,Nat.gcd_zero_left,ba_empty_left]
 rw[k5 (by rw[kK,kM,nb_eq_empty];exact ha)]
 by_cases hb:bv b.data.toList=0
 ·rw[k6 (by rw[hb];rfl),k5 (by rw[kH];omega),k7,hb,nb_zero,Nat.gcd_zero_right,ba_empty_right]
 rw[k5 (by rw[kK,kM,nb_eq_empty];exact hb)]
 have hg:Nat.gcd (bv a.data.toList) (bv b.data.toList)<=bv b.data.toList:=Nat.le_of_dvd (by omega) (Nat.gcd_dvd_right _ _)
 simp only[Int.toNat_natCast]
 by_cases hl:(nb (bv a.data.toList)).size<(nb (bv b.data.toList)).size
 ·rw[k5 (kF (by omega))]
  have e:=Nat.gcd_comm (bv b.data.toList) (bv a.data.toList)
  simp only[e]
  repeat rw[k5 (by simp only[kD,kE,kH];omega)]
  rw[k7]
 ·rw[k6 (kG (by omega))]
  repeat rw[k5 (by simp only[kD,kE,kH];omega)]
  rw[k7]
def b127:Code:=(qi (qd f147)).getD 0 .skip
def pol127:Pol:={live:=[(2,[0,1,4,8,9,10])]}
theorem enter127:Enters prog 147 f147 (qd f147):=⟨func147,by kernel_rfl,rfl⟩
theorem r127 (n:Nat) (xs ys:List Int) (c len i:Int):qe prog [] [] pol127 f147.ntmps 1 [0,1,4,8,9,10] b127 ⟨[.sl 0 1 0 n,.lst 1 (.ints .u32 ys),.i .u64 c,.sl 0 1 0 n,.i .i64 len,.i .i64 i],[some ⟨1,.ints .u32 xs⟩]⟩=
 Tr.br (decide (i<len)) (.br (ix (i) ((n:Int))) (.br ((0+i.toNat+1).ble xs.length) (.br (decide (i<(ys.length:Int))) (.br (ix (i) ((ys.length:Int))) (.br (decide ((0:Int)<=63)) (.br (ix (i) ((n:Int))) (.br ((0+i.toNat+1).ble xs.length) (.br (ib (i+1)) (.ok (.out .normal (LS.mk [.sl 0 1 0 n,.lst 1 (.ints .u32 ys),.i .u64 ((IntKind.u64.wrap (IntKind.u64.wrap (IntKind.u64.wrap (xs.getD (0+i.toNat) (0:Int))-c)-IntKind.u64.wrap (ys.getD i.toNat 0))).fdiv ((2:Int)^min (Int.toNat 63) IntKind.u64.bits)),.sl 0 1 0 n,.i .i64 len,.i .i64 (i+1)] [some (.mk 1 (.ints .u32 (xs.set (0+i.toNat) (IntKind.u32.wrap (IntKind.u64.wrap (IntKind.u64.wrap (IntKind.u64.wrap (xs.getD (0+i.toNat) (0:Int))-c)-IntKind.u64.wrap (ys.getD i.toNat 0)))))))]))) (.no 9002)) (.no 8002)) (.no 8003)) (.no 8004)) (.no 7005)) (.br (decide ((0:Int)<=63)) (.br (ix (i) ((n:Int))) (.br ((0+i.toNat+1).ble xs.length) (.br (ib (i+1)) (.ok (.out .normal (LS.mk [.sl 0 1 0 n,.lst 1 (.ints .u32 ys),.i .u64 ((IntKind.u64.wrap (IntKind.u64.wrap (xs.getD (0+i.toNat) (0:Int))-c)).fdiv ((2:Int)^min (Int.toNat 63) IntKind.u64.bits)),.sl 0 1 0 n,.i .i64 len,.i .i64 (i+1)] [some (.mk 1 (.ints .u32 (xs.set (0+i.toNat) (IntKind.u32.wrap (IntKind.u64.wrap (IntKind.u64.wrap (xs.getD (0+i.toNat) (0:Int))-c))))))]))) (.no 9002)) (.no 8002)) (.no 8003)) (.no 8004))) (.no 4003)) (.no 4004)) (.ok (.out (.exit 0) (LS.mk [.sl 0 1 0 n,.lst 1 (.ints .u32 ys),.i .u64 c,.sl 0 1 0 n,.i .i64 len,.i .i64 i] [some (.mk 1 (.ints .u32 xs))]))):=by kernel_rfl
def subL:Int->List Int->List Int->List Int
 | _,[],_=>[]
 | c,x::xs,ys=>((x-c-ys.headD 0)%4294967296)::subL (if x-c-ys.headD 0<0 then 1 else 0) xs ys.tail
def subC:Int->List Int->List Int->Int
 | c,[],_=>c
 | c,x::xs,ys=>subC (if x-c-ys.headD 0<0 then 1 else 0) xs ys.tail
def isD (xs:List Int):Prop:=∀ x∈xs,0<=x/\x<4294967296
theorem isD.tail {xs:List Int} (h:isD xs):isD xs.tail:=fun x hx=>h x (List.mem_of_mem_tail hx)
theorem isD.head {xs:List Int} (h:isD xs):0<=xs.headD 0/\xs.headD 0<4294967296:=by
 cases xs with
 | nil=>exact⟨by decide,by decide⟩
 | cons x xs=>exact h x (by simp)
theorem lv_head (xs:List Int):lv 4294967296 xs=(xs.headD 0).toNat+4294967296*lv 4294967296 xs.tail:=by
 cases xs<;>rfl
theorem subL_dig:∀ (xs ys:List Int) (c:Int),isD (subL c xs ys)
 | [],_,_=>fun x hx=>by cases hx
 | x::xs,ys,c=>fun z hz=>by
  simp only[subL,List.mem_cons]at hz
  rcases hz with rfl|hz
  ·omega
  ·exact subL_dig xs _ _ z hz
theorem subL_len:∀ (xs ys:List Int) (c:Int),(subL c xs ys).length=xs.length
 | [],_,_=>rfl
 | x::xs,ys,c=>by simp[subL,subL_len xs]
theorem subC_01:∀ (xs ys:List Int) (c:Int),0<=c->c<=1->0<=subC c xs ys/\subC c xs ys<=1
 | [],_,_,h0,h1=>⟨h0,h1⟩
 | x::xs,ys,c,_,_=>by
  refine subC_01 xs _ _ ?_ ?_<;>split<;>omega
theorem subL_val:∀ (xs ys:List Int) (c:Int),0<=c->c<=1->isD xs->isD ys->ys.length<=xs.length->
  (lv 4294967296 (subL c xs ys):Int)=lv 4294967296 xs-lv 4294967296 ys-c+subC c xs ys*((4294967296^xs.length:Nat):Int)
 | [],ys,c,h0,h1,hx,hy,hl=>by
  have:ys=[]:=List.eq_nil_of_length_eq_zero (by simpa using hl)
  subst this
  simp[subL,subC,lv]
  omega
 | x::xs,ys,c,h0,h1,hx,hy,hl=>by
  have ih:=subL_val xs ys.tail (if x-c-ys.headD 0<0 then 1 else 0) (by split<;>omega) (by split<;>omega) hx.tail hy.tail (by simp at hl ⊢;omega)
  have hxx:=hx x (by simp)
  have hyy:=hy.head
  rw[lv_head ys]
  show((((x-c-ys.headD 0)%4294967296).toNat+4294967296*lv 4294967296 (subL (if x-c-ys.headD 0<0 then 1 else 0) xs ys.tail):Nat):Int)=((x.toNat+4294967296*lv 4294967296 xs:Nat):Int)-_-c+subC (if x-c-ys.headD 0<0 then 1 else 0) xs ys.tail*((4294967296^(xs.length+1):Nat):Int)
  have hp:subC (if x-c-ys.headD 0<0 then 1 else 0) xs ys.tail*((4294967296^(xs.length+1):Nat):Int)=4294967296*(subC (if x-c-ys.headD 0<0 then 1 else 0) xs ys.tail*((4294967296^xs.length:Nat):Int)):=by
   rw[Nat.pow_succ,Int.natCast_mul,Int.mul_comm (((4294967296^xs.length:Nat)):Int),<-Int.mul_assoc,<-Int.mul_assoc,Int.mul_comm (subC _ _ _)]
   rfl
  rw[hp]
  generalize subC (if x-c-ys.headD 0<0 then 1 else 0) xs ys.tail*((4294967296^xs.length:Nat):Int)=T at ih ⊢
  generalize lv 4294967296 (subL (if x-c-ys.headD 0<0 then 1 else 0) xs ys.tail)=R at ih ⊢
  generalize ys.headD 0=y at*
  split at ih<;>omega
theorem subL_ok {xs ys:List Int} (hx:isD xs) (hy:isD ys) (hl:ys.length<=xs.length) (h:lv 4294967296 ys<=lv 4294967296 xs):lv 4294967296 (subL 0 xs ys)=lv 4294967296 xs-lv 4294967296 ys:=by
 have h1:=subL_val xs ys 0 (by omega) (by omega) hx hy hl
 have h2:=subC_01 xs ys 0 (by omega) (by omega)
 have h3:lv 4294967296 (subL 0 xs ys)<4294967296^xs.length:=by
  rw[<-subL_len xs ys 0]
  exact lv_lt fun x hx=>by have:=subL_dig xs ys 0 x hx;omega
 have h4:subC 0 xs ys=0:=by
  rcases(show subC 0 xs ys=0\/subC 0 xs ys=1 by omega)with h|h
  ·exact h
  ·rw[h,Int.one_mul]at h1;omega
 rw[h4,Int.zero_mul]at h1
 omega
theorem getD_app (pre:List Int) (x:Int) (xs:List Int):(pre++x::xs).getD pre.length 0=x:=by simp[List.getD_eq_getElem?_getD]
theorem set_app (pre:List Int) (x v:Int) (xs:List Int):(pre++x::xs).set pre.length v=pre++v::xs:=by simp
theorem drop_head (ys:List Int) (i:Nat):(ys.drop i).headD 0=ys.getD i 0:=by
 simp[List.getD_eq_getElem?_getD,List.headD_eq_head?_getD]
theorem sub_digit {x c y:Int} (hx:0<=x/\x<4294967296) (hc:0<=c/\c<=1) (hy:0<=y/\y<4294967296):
  IntKind.u32.wrap (IntKind.u64.wrap (IntKind.u64.wrap (IntKind.u64.wrap x-c)-IntKind.u64.wrap y))=(x-c-y)%4294967296/\
  (IntKind.u64.wrap (IntKind.u64.wrap (IntKind.u64.wrap x-c)-IntKind.u64.wrap y)).fdiv ((2:Int)^min (Int.toNat (63:Int)) IntKind.u64.bits)=if x-c-y<0 then 1 else 0:=by
 have e:(2:Int)^min (Int.toNat (63:Int)) IntKind.u64.bits=9223372036854775808:=by decide
 rw[e,Int.fdiv_eq_ediv_of_nonneg _ (by omega)]
 simp only[IntKind.wrap_u32',IntKind.wrap_u64]
 constructor
 ·omega
 ·split<;>omega
theorem sub_digit0 {x c:Int} (hx:0<=x/\x<4294967296) (hc:0<=c/\c<=1):
  IntKind.u32.wrap (IntKind.u64.wrap (IntKind.u64.wrap x-c))=(x-c-0)%4294967296/\
  (IntKind.u64.wrap (IntKind.u64.wrap x-c)).fdiv ((2:Int)^min (Int.toNat (63:Int)) IntKind.u64.bits)=if x-c-0<0 then 1 else 0:=by
 have e:(2:Int)^min (Int.toNat (63:Int)) IntKind.u64.bits=9223372036854775808:=by decide
 rw[e,Int.fdiv_eq_ediv_of_nonneg _ (by omega)]
 simp only[IntKind.wrap_u32',IntKind.wrap_u64]
 constructor
 ·omega
 ·split<;>omega
def st127 (n:Nat) (ys:List Int) (xs:List Int) (c:Int) (i:Nat):LS:=⟨[.sl 0 1 0 n,.lst 1 (.ints .u32 ys),.i .u64 c,.sl 0 1 0 n,.i .i64 n,.i .i64 i],[some ⟨1,.ints .u32 xs⟩]⟩
theorem step127 (pre xs ys:List Int) (x c:Int) (n:Nat) (hn:n=(pre++x::xs).length) (hs:n<=1073741824) (hx:0<=x/\x<4294967296) (hy:isD ys) (hc:0<=c/\c<=1):
  (qe prog [] [] pol127 f147.ntmps 1 [0,1,4,8,9,10] b127 (st127 n ys (pre++x::xs) c pre.length)).run=
   some (.out .normal (st127 n ys ((pre++[(x-c-(ys.drop pre.length).headD 0)%4294967296])++xs) (if x-c-(ys.drop pre.length).headD 0<0 then 1 else 0) (pre++[(x-c-(ys.drop pre.length).headD 0)%4294967296]).length)):=by
 have hlen:(pre++x::xs).length=pre.length+1+xs.length:=by simp;omega
 unfold st127
 rw[r127]
 have e0:0+((pre.length:Nat):Int).toNat=pre.length:=by rw[Int.toNat_natCast];omega
 have e1:((pre.length:Nat):Int)+1=(((pre++[(x-c-(ys.drop pre.length).headD 0)%4294967296]).length:Nat):Int):=by simp
 rw[e0,getD_app]
 rw[k5 (kF (by omega)),k5 (by simp only[kD,kE];omega),k5 (by rw[kH];omega)]
 by_cases h:pre.length<ys.length
 ·have hd:=sub_digit (y:=(ys.drop pre.length).headD 0) hx hc (isD.head (fun z hz=>hy z (List.mem_of_mem_drop hz)))
  rw[drop_head]at hd
  rw[k5 (kF (by omega))]
  repeat rw[k5 (by simp only[kD,kE,kH];omega)]
  rw[k7,Int.toNat_natCast,hd.1,hd.2,set_app,e1,drop_head]
  simp
 ·have hd:=sub_digit0 hx hc
  have h0:(ys.drop pre.length).headD 0=0:=by rw[List.drop_eq_nil_of_le (by omega)];rfl
  rw[k6 (kG (by omega))]
  repeat rw[k5 (by simp only[kD,kE,kH];omega)]
  rw[k7,hd.1,hd.2,set_app,e1,h0]
  simp
include hG in
theorem goes127 (ys:List Int) (n:Nat) (hs:n<=1073741824) (hy:isD ys):∀ (xs pre:List Int) (c:Int),n=(pre++xs).length->isD xs->0<=c/\c<=1->
  Goes (Rnd prog G f147.ntmps 1 [0,1,4,8,9,10] b127) (st127 n ys (pre++xs) c pre.length) (.exit 0) (st127 n ys (pre++subL c xs (ys.drop pre.length)) (subC c xs (ys.drop pre.length)) n)
 | [],pre,c,hn,_,_=>by
  refine .last _ _ _ (qb hG OrcOK.nil mix (L:=[]) (pol:=pol127) (O:=[]) (kA (by kernel_rfl)) (Nat.le_refl _) ?_) (by simp)
  simp only[List.append_nil]at hn
  unfold st127
  rw[r127,k6 (kG (by omega)),k7,hn]
  rfl
 | x::xs,pre,c,hn,hx,hc=>by
  refine .more _ _ _ _ (qb hG OrcOK.nil mix (L:=[]) (pol:=pol127) (O:=[]) (kA (by kernel_rfl)) (Nat.le_refl _) (step127 pre xs ys x c n hn hs (hx x (by simp)) hy hc)) ?_
  have ih:=goes127 ys n hs hy xs (pre++[(x-c-(ys.drop pre.length).headD 0)%4294967296]) (if x-c-(ys.drop pre.length).headD 0<0 then 1 else 0) (by rw[hn];simp) (fun z hz=>hx z (by simp[hz])) (by split<;>omega)
  have ed:ys.drop (pre++[(x-c-(ys.drop pre.length).headD 0)%4294967296]).length=(ys.drop pre.length).tail:=by
   rw[List.length_append,List.tail_drop];rfl
  rw[ed]at ih
  have e2:pre++subL c (x::xs) (ys.drop pre.length)=(pre++[(x-c-(ys.drop pre.length).headD 0)%4294967296])++subL (if x-c-(ys.drop pre.length).headD 0<0 then 1 else 0) xs (ys.drop pre.length).tail:=by
   simp[subL]
  rw[e2]
  exact ih
def allD (xs:List Int):Bool:=xs.all (fun x=>decide (0<=x)&&decide (x<4294967296))
theorem allD_iff {xs:List Int}:allD xs=true↔isD xs:=by simp[allD,isD]
def l127:qA:=fun ls K=>match ls with
 | ⟨[.sl 0 1 0 n,.lst 1 (.ints .u32 ys),.i .u64 c,.sl 0 1 0 n',.i .i64 len,.i .i64 i],[some ⟨1,.ints .u32 xs⟩]⟩=>.br (decide (c=0)&&decide (i=0)&&decide (n'=n)&&decide (len=n)&&decide (n=xs.length)&&decide (n<=1073741824)&&allD xs&&allD ys)
   (K (.exit 0) (st127 n ys (subL 0 xs ys) (subC 0 xs ys) n)) (.no 1)
 | _=>.no 1
theorem e127 (n:Nat) (xs ys:List Int):evF prog [] [(2,l127)] pol127 f147 [.sl 0 1 0 n,.lst 1 (.ints .u32 ys)] [⟨1,.ints .u32 xs⟩] ql=
 Tr.br (decide ((0:Int)=0)&&decide ((0:Int)=0)&&decide (n=n)&&decide ((n:Int)=(n:Int))&&decide (n=xs.length)&&decide (n<=1073741824)&&allD xs&&allD ys) (.ok (.ret (.tup []) [Blk.mk 1 (.ints .u32 (subL (0:Int) xs ys))])) (.no 1):=by kernel_rfl
def s127:Spec:=fun args hs K=>match args,hs with
 | [.sl 0 1 0 n,.lst 1 (.ints .u32 ys)],[⟨1,.ints .u32 xs⟩]=>.br (decide (n=xs.length)&&decide (n<=1073741824)&&allD xs&&allD ys) (K (.tup []) [⟨1,.ints .u32 (subL 0 xs ys)⟩]) (.no 1)
 | _,_=>.no 1
include hG in
theorem ok127:qc prog G 147 s127:=by
 refine qq hG OrcOK.nil mix enter127 (L:=[(2,l127)]) (pol:=pol127) fun args hs K x h => ?_
 unfold s127 at h
 split at h
 case h_2=>cases h
 rename_i n ys xs
 obtain⟨hc,hr⟩:=k8 h
 refine⟨qN (b:=b127) (live:=[0,1,4,8,9,10]) (sp:=l127) (m:=1) (by kernel_rfl) (by kernel_rfl) (by kernel_rfl) ?_,_,_,_,?_,.refl _,hr⟩
 ·intro ls K x hm h
  unfold l127 at h
  split at h
  case h_2=>cases h
  obtain⟨hc,hr⟩:=k8 h
  simp only[kD,kE,allD_iff]at hc
  obtain⟨⟨⟨⟨⟨⟨⟨rfl,rfl⟩,rfl⟩,rfl⟩,hn⟩,hs⟩,hx⟩,hy⟩:=hc
  exact⟨_,_,qx (goes127 hG _ _ hs hy _ [] 0 hn hx (by omega)),hr⟩
 ·rw[e127,k5 (by simpa using hc)];rfl

theorem enter111:Enters prog 112 f112 (qd f112):=⟨func112,by kernel_rfl,rfl⟩
def pol111:Pol:={own:=[13],wr:=[(147,[0])]}
def O111:Orc:=[(59,s82),(110,s117),(111,s118),(147,s127)]
theorem e111 (a b:ByteArray):evF prog O111 [] pol111 f112 [.s a,.s b] [] ql=
 Tr.br (decide (ncmp (bv a.1.toList) (bv b.1.toList)<0)) (.ok (.ret (.tup [.s (ByteArray.mk #[]),.i .i64 1]) [])) (.br (a.size.ble 1073741824) (.br (b.size.ble 1073741824) (.br ((0+(dg (4294967296:Nat) (bv b.1.toList)).length).ble (dg (4294967296:Nat) (bv b.1.toList)).length) (.br (decide ((dg (4294967296:Nat) (bv a.1.toList)).length=(dg (4294967296:Nat) (bv a.1.toList)).length)&&decide ((dg (4294967296:Nat) (bv a.1.toList)).length<=1073741824)&&allD (dg (4294967296:Nat) (bv a.1.toList))&&allD (tk0 (dg (4294967296:Nat) (bv b.1.toList)))) (.br ((0+(dg (4294967296:Nat) (bv a.1.toList)).length).ble (subL (0:Int) (dg (4294967296:Nat) (bv a.1.toList)) (tk0 (dg (4294967296:Nat) (bv b.1.toList)))).length) (.br ((List.take (dg (4294967296:Nat) (bv a.1.toList)).length (List.drop 0 (subL (0:Int) (dg (4294967296:Nat) (bv a.1.toList)) (tk0 (dg (4294967296:Nat) (bv b.1.toList)))))).length.ble 268435456&&(List.take (dg (4294967296:Nat) (bv a.1.toList)).length (List.drop 0 (subL (0:Int) (dg (4294967296:Nat) (bv a.1.toList)) (tk0 (dg (4294967296:Nat) (bv b.1.toList)))))).all fun(x:Int)=>ix (x) ((4294967296:Int))) (.ok (.ret (.tup [.s (nb (lv (4294967296:Nat) (List.take (dg (4294967296:Nat) (bv a.1.toList)).length (List.drop 0 (subL (0:Int) (dg (4294967296:Nat) (bv a.1.toList)) (tk0 (dg (4294967296:Nat) (bv b.1.toList)))))))),.i .i64 0]) [])) (.no 1)) (.no 6003)) (.no 1)) (.no 4003)) (.no 1)) (.no 1)):=by kernel_rfl
def s111:Spec:=fun args hs K=>match args,hs with
 | [.s a,.s b],[]=>.br (decide (a.size<=1048576)&&decide (b.size<=1048576))
   (.br (decide (bv b.data.toList<=bv a.data.toList)) (K (.tup [.s (nb (bv a.data.toList-bv b.data.toList)),.i .i64 0]) []) (K (.tup [.s (nb 0),.i .i64 1]) [])) (.no 1)
 | _,_=>.no 1
theorem dg_isD (n:Nat):isD (dg 4294967296 n):=dg_mem (by omega) n
theorem dg_len_size (a:ByteArray):(dg 4294967296 (bv a.data.toList)).length<=a.size:=by
 refine dg_length_le (by omega) ?_
 have h:=bv_lt a.data.toList
 rw[ba_len]at h
 exact Nat.lt_of_lt_of_le h (Nat.pow_le_pow_left (by omega) _)
theorem dg_len_mono {n m:Nat} (h:n<=m):(dg 4294967296 n).length<=(dg 4294967296 m).length:=
 dg_length_le (by omega) (Nat.lt_of_le_of_lt h (dg_lt (by omega) m))
theorem ncmp_lt0 {n m:Nat}:ncmp n m<0↔n<m:=by
 unfold ncmp
 split
 ·simp;assumption
 ·split<;>simp<;>omega
include hG in
theorem orc111:OrcOK prog G O111:=.cons (ok82 hG) (.cons (ok117 hG) (.cons (ok118 hG) (.cons (ok127 hG) .nil)))
include hG in
theorem ok111:qc prog G 112 s111:=by
 refine qq hG (orc111 hG) mix enter111 (L:=[]) (pol:=pol111) fun args hs K x h => ?_
 unfold s111 at h
 split at h
 case h_2=>cases h
 rename_i a b
 obtain⟨hc,hr⟩:=k8 h
 simp only[kD,kE]at hc
 refine⟨?_,?_⟩
 ·intro c hc live sp _ h2;cases h2
 rw[e111];try unfold tk0
 by_cases hle:bv b.data.toList<=bv a.data.toList
 ·rw[k5 (kF hle)]at hr
  refine⟨_,_,_,?_,.refl _,hr⟩
  have l1:=dg_len_size a
  have l2:=dg_len_size b
  have l3:=dg_len_mono hle
  have l4:=subL_len (dg 4294967296 (bv a.data.toList)) (dg 4294967296 (bv b.data.toList)) 0
  have t1:List.take (dg 4294967296 (bv a.data.toList)).length (subL 0 (dg 4294967296 (bv a.data.toList)) (dg 4294967296 (bv b.data.toList)))=subL 0 (dg 4294967296 (bv a.data.toList)) (dg 4294967296 (bv b.data.toList)):=
   List.take_of_length_le (by omega)
  have v:=subL_ok (dg_isD (bv a.data.toList)) (dg_isD (bv b.data.toList)) l3 (by rw[lv_dg (by omega),lv_dg (by omega)];exact hle)
  rw[lv_dg (by omega),lv_dg (by omega)]at v
  have d1:=allD_iff.2 (dg_isD (bv a.data.toList))
  have d2:=allD_iff.2 (dg_isD (bv b.data.toList))
  have d3:=allD_iff.2 (subL_dig (dg 4294967296 (bv a.data.toList)) (dg 4294967296 (bv b.data.toList)) 0)
  unfold allD at d3
  simp only[List.drop_zero,List.take_length,t1,d1,d2,d3,v,Bool.and_true,decide_true,Bool.true_and]
  rw[k6 (kG (by rw[ncmp_lt0];omega))]
  repeat rw[k5 (by simp only[kD,kE,kH];omega)]
  rw[k7]
 ·rw[k6 (kG hle)]at hr
  refine⟨_,_,_,?_,.refl _,hr⟩
  rw[k5 (kF (ncmp_lt0.2 (by omega)))]
  rfl
end
section
open Go
def isA (as':List PV) (C:Prop) (args:List PV):Prop:=args=as'/\C
def cst (as':List PV) (C:Prop) (r:PV):Spec:=fun args hs K=>match hs with
 | []=>.br (qg (isA as' C args)) (K r []) (.no 1)
 | _=>.no 1
theorem cst_ok {P:Program} {G:World->(Nat->Prop)->Prop} {g:Nat} {as':List PV} {C:Prop} {r:PV} (h:C->PC P G g as' [] r []):qc P G g (cst as' C r):=by
 intro args hs K x hh
 unfold cst at hh
 split at hh
 case h_2=>cases hh
 obtain⟨hc,hr⟩:=k8 hh
 obtain⟨rfl,hC⟩:=decP_iff.1 hc
 exact⟨_,_,h hC,hr⟩
theorem pc_spec {P:Program} {G:World->(Nat->Prop)->Prop} {g:Nat} {sp:Spec} (h:qc P G g sp) {args:List PV} {hs hs':List Blk} {r:PV} (e:(sp args hs ql).run=some (.ret r hs')):PC P G g args hs r hs':=by
 obtain⟨r1,hs1,h1,h2⟩:=h _ _ _ _ e
 simp[ql,Tr.run]at h2
 obtain⟨rfl,rfl⟩:=h2
 exact h1
def isLS (st ls:LS):Prop:=ls=st
def qy (st:LS) (e:Exit) (fin:LS):qA:=fun ls K=>.br (qg (isLS st ls)) (K e fin) (.no 1)
theorem qv {P:Program} {G:World->(Nat->Prop)->Prop} {n m:Nat} {live:List Nat} {b:Code} {st fin:LS} {e:Exit} (h:Goes (Rnd P G n m live b) st e fin):qz P G n m live b (qy st e fin):=by
 intro ls K x hm hh
 obtain⟨hc,hr⟩:=k8 hh
 obtain rfl:=decP_iff.1 hc
 exact⟨_,_,qx h,hr⟩
theorem qK {st:LS}:qg (isLS st st)=true:=decP_iff.2 rfl
theorem Goes.build {α:Type} {R:LS->Exit->LS->Prop} {nst:LS} {xst:List α->Nat->LS} (f:Nat->α) {e:Exit} {fin:LS} (he:e ≠ .normal) (n:Nat) (h1:1<=n) (h0:R nst .normal (xst [f 0] 1))
  (hs:∀ ys j,ys.length=j->1<=j->j<n->R (xst ys j) .normal (xst (ys++[f j]) (j+1))) (hl:R (xst ((List.range n).map f) n) e fin):Goes R nst e fin:=by
 have key:∀ k j,j+k=n->1<=j->Goes R (xst ((List.range j).map f) j) e fin:=by
  intro k
  induction k with
  | zero=>intro j hj _;rw[show j=n by omega];exact .last _ _ _ hl he
  | succ k ih=>
   intro j hj h1
   refine .more _ _ _ _ (hs _ j (by simp) h1 (by omega)) ?_
   have:=ih (j+1) (by omega) (by omega)
   rwa[List.range_succ,List.map_append]at this
 exact .more _ _ _ _ h0 (key (n-1) 1 (by omega) (Nat.le_refl _))
theorem lps2 {P:Program} {G:World->(Nat->Prop)->Prop} {pol:Pol} {n m:Nat} {L:Lps} {c b1 b2:Code} {live1 live2:List Nat} {sp1 sp2:qA} (hc:qi c=[b1,b2])
  (e1:assoc (qr b1) pol.live=some live1) (e2:Lps.look (qr b1) L=some sp1) (e3:assoc (qr b2) pol.live=some live2) (e4:Lps.look (qr b2) L=some sp2)
  (h1:qz P G n m live1 b1 sp1) (h2:qz P G n m live2 b2 sp2):LpsOK P G pol n m L c:=by
 refine LpsOK.of hc fun a ha live' sp' g1 g2 => ?_
 simp at ha
 rcases ha with rfl|rfl
 ·rw[e1]at g1;rw[e2]at g2;cases g1;cases g2;exact h1
 ·rw[e3]at g1;rw[e4]at g2;cases g1;cases g2;exact h2
theorem lps1n {P:Program} {G:World->(Nat->Prop)->Prop} {pol:Pol} {n m:Nat} {L:Lps} {c b b':Code} {live:List Nat} {sp:qA} (hc:qi c=[b,b']) (e1:assoc (qr b) pol.live=some live)
  (e2:Lps.look (qr b) L=some sp) (e3:Lps.look (qr b') L=none) (h:qz P G n m live b sp):LpsOK P G pol n m L c:=by
 refine LpsOK.of hc fun a ha live' sp' g1 g2 => ?_
 simp at ha
 rcases ha with rfl|rfl
 ·rw[e1]at g1;rw[e2]at g2;cases g1;cases g2;exact h
 ·rw[e3]at g2;cases g2
end
section
open Go Tryz
set_option maxRecDepth 100000
variable {G:World->(Nat->Prop)->Prop} (hG:GOk G)
theorem pdB_set {B L M b i:Nat} (hB:2<=B) (hM:M<B^i) (hb:b<B) (hi:i<L):(pd B L M).set i ((b:Nat):Int)=pd B L (M+b*B^i):=by
 have h:=pd_add (c:=B) (e:=1) (L:=L) (M:=M) (b:=b) (i:=i) hB (by omega) hM hb (by omega)
 rw[Nat.pow_one,Nat.div_one,Nat.mod_one,Nat.pow_zero,Nat.mul_one,Nat.div_eq_of_lt hM,Nat.zero_mod,Nat.zero_add]at h
 exact h
theorem dg_get {B n i:Nat} (hB:2<=B) (h:i<(dg B n).length):(dg B n).getD i 0=((n/B^i%B:Nat):Int):=by
 have e:=pd_dg (n:=n) hB
 rw[<-e,pd_getD h]
theorem dg_high {B n i:Nat} (hB:2<=B) (h:(dg B n).length<=i):n/B^i=0:=by
 have h1:=dg_lt hB n
 have h2:B^(dg B n).length<=B^i:=Nat.pow_le_pow_right (by omega) h
 exact Nat.div_eq_of_lt (by omega)
theorem qJ {n:Nat} (h:n<18446744073709551616):IntKind.u64.wrap ((n:Nat):Int)=((n:Nat):Int):=w64 (by omega) (by omega)
theorem wrap_u32_nat (n:Nat):IntKind.u32.wrap ((n:Nat):Int)=((n%4294967296:Nat):Int):=by rw[IntKind.wrap_u32'];simp
theorem fdiv32 (n:Nat):((n:Nat):Int).fdiv ((2:Int)^min (Int.toNat (32:Int)) IntKind.u64.bits)=((n/4294967296:Nat):Int):=by
 have:min (Int.toNat (32:Int)) IntKind.u64.bits=32:=rfl
 rw[this,fdiv_nat]
def b108:Code:=(qi (qd f101)).getD 0 .skip
def pol108:Pol:={live:=[(10,[5,6,7,8,44,45,46])]}
def t108 (xs ys zs:List Int) (l:Nat) (c n i:Int):LS:=⟨[.lst 1 (.ints .u32 xs),.lst 1 (.ints .u32 ys),.sl 0 1 0 l,.i .u64 c,.lst 1 (.ints .u32 xs),.i .i64 n,.i .i64 i],[some ⟨1,.ints .u32 zs⟩]⟩
theorem q108 (xs ys zs:List Int) (l:Nat) (c n i:Int):qe prog [] [] pol108 f101.ntmps 0 [5,6,7,8,44,45,46] b108 (t108 xs ys zs l c n i)=
 Tr.br (decide (i<n)) (.br (ix (i) ((xs.length:Int))) (.br (decide (0<=c+IntKind.u64.wrap (xs.getD i.toNat 0))&&decide (c+IntKind.u64.wrap (xs.getD i.toNat 0)<=18446744073709551615)) (.br (decide (i<(ys.length:Int))) (.br (ix (i) ((ys.length:Int))) (.br (decide (0<=c+IntKind.u64.wrap (xs.getD i.toNat 0)+IntKind.u64.wrap (ys.getD i.toNat 0))&&decide (c+IntKind.u64.wrap (xs.getD i.toNat 0)+IntKind.u64.wrap (ys.getD i.toNat 0)<=18446744073709551615)) (.br (ix (i) ((l:Int))) (.br ((0+i.toNat+1).ble zs.length) (.br (decide ((0:Int)<=32)) (.br (ib (i+1)) (.ok (.out .normal (LS.mk [.lst 1 (.ints .u32 xs),.lst 1 (.ints .u32 ys),.sl 0 1 0 l,.i .u64 ((c+IntKind.u64.wrap (xs.getD i.toNat 0)+IntKind.u64.wrap (ys.getD i.toNat 0)).fdiv ((2:Int)^min (Int.toNat 32) IntKind.u64.bits)),.lst 1 (.ints .u32 xs),.i .i64 n,.i .i64 (i+1)] [some (.mk 1 (.ints .u32 (zs.set (0+i.toNat) (IntKind.u32.wrap (c+IntKind.u64.wrap (xs.getD i.toNat 0)+IntKind.u64.wrap (ys.getD i.toNat 0))))))]))) (.no 18002)) (.no 17002)) (.no 16001)) (.no 16002)) (.no 15002)) (.no 15005)) (.br (ix (i) ((l:Int))) (.br ((0+i.toNat+1).ble zs.length) (.br (decide ((0:Int)<=32)) (.br (ib (i+1)) (.ok (.out .normal (LS.mk [.lst 1 (.ints .u32 xs),.lst 1 (.ints .u32 ys),.sl 0 1 0 l,.i .u64 ((c+IntKind.u64.wrap (xs.getD i.toNat 0)).fdiv ((2:Int)^min (Int.toNat 32) IntKind.u64.bits)),.lst 1 (.ints .u32 xs),.i .i64 n,.i .i64 (i+1)] [some (.mk 1 (.ints .u32 (zs.set (0+i.toNat) (IntKind.u32.wrap (c+IntKind.u64.wrap (xs.getD i.toNat 0))))))]))) (.no 18002)) (.no 17002)) (.no 16001)) (.no 16002))) (.no 13002)) (.no 12004)) (.ok (.out (.exit 0) (LS.mk [.lst 1 (.ints .u32 xs),.lst 1 (.ints .u32 ys),.sl 0 1 0 l,.i .u64 c,.lst 1 (.ints .u32 xs),.i .i64 n,.i .i64 i] [some (.mk 1 (.ints .u32 zs))]))):=by kernel_rfl
def sA (X Y i:Nat):Nat:=X%4294967296^i+Y%4294967296^i
theorem sA_succ (X Y i:Nat):sA X Y (i+1)=sA X Y i+(X/4294967296^i%4294967296+Y/4294967296^i%4294967296)*4294967296^i:=by
 unfold sA
 rw[Nat.mod_pow_succ,Nat.mod_pow_succ,Nat.add_mul,Nat.mul_comm (4294967296^i),Nat.mul_comm (4294967296^i)]
 omega
theorem sA_lt (X Y i:Nat):sA X Y i<2*4294967296^i:=by
 have hp:0<4294967296^i:=Nat.pow_pos (by omega)
 have h1:=Nat.mod_lt X hp
 have h2:=Nat.mod_lt Y hp
 unfold sA;omega
def a108 (X Y i:Nat):LS:=t108 (dg 4294967296 X) (dg 4294967296 Y) (pd 4294967296 ((dg 4294967296 X).length+1) (sA X Y i%4294967296^i)) ((dg 4294967296 X).length+1) ((sA X Y i/4294967296^i:Nat):Int) ((dg 4294967296 X).length:Nat) (i:Nat)
theorem step108 (X Y i:Nat) (hi:i<(dg 4294967296 X).length) (hs:(dg 4294967296 X).length<=1073741824):
  (qe prog [] [] pol108 f101.ntmps 0 [5,6,7,8,44,45,46] b108 (a108 X Y i)).run=some (.out .normal (a108 X Y (i+1))):=by
 have hp:0<4294967296^i:=Nat.pow_pos (by omega)
 have hc:sA X Y i/4294967296^i<2:=by rw[Nat.div_lt_iff_lt_mul hp];exact sA_lt X Y i
 have hM:sA X Y i%4294967296^i<4294967296^i:=Nat.mod_lt _ hp
 have hdm:=Nat.div_add_mod (sA X Y i) (4294967296^i)
 have hsucc:=sA_succ X Y i
 have hx:X/4294967296^i%4294967296<4294967296:=Nat.mod_lt _ (by omega)
 have hy:Y/4294967296^i%4294967296<4294967296:=Nat.mod_lt _ (by omega)
 have key:∀ d:Nat,d=sA X Y i/4294967296^i+X/4294967296^i%4294967296+Y/4294967296^i%4294967296->
   (pd 4294967296 ((dg 4294967296 X).length+1) (sA X Y i%4294967296^i)).set i (((d%4294967296:Nat)):Int)=pd 4294967296 ((dg 4294967296 X).length+1) (sA X Y (i+1)%4294967296^(i+1))/\d/4294967296=sA X Y (i+1)/4294967296^(i+1):=by
  intro d hd
  have e:sA X Y (i+1)=sA X Y i%4294967296^i+d*4294967296^i:=by
   rw[hsucc,hd]
   simp only[Nat.add_mul]
   rw[Nat.mul_comm (4294967296^i)]at hdm
   omega
  have e1:sA X Y (i+1)/4294967296^i=d:=by
   rw[e,Nat.add_mul_div_right _ _ hp,Nat.div_eq_of_lt hM,Nat.zero_add]
  have e2:sA X Y (i+1)%4294967296^i=sA X Y i%4294967296^i:=by
   rw[e,Nat.add_mul_mod_self_right,Nat.mod_mod]
  constructor
  ·rw[pdB_set (by omega) hM (Nat.mod_lt _ (by omega)) (by omega),Nat.mod_pow_succ,e1,e2,Nat.mul_comm (4294967296^i)]
  ·rw[Nat.pow_succ,<-Nat.div_div_eq_div_mul,e1]
 have gx:=dg_get (B:=4294967296) (n:=X) (by omega) hi
 unfold a108 t108
 generalize sA X Y i/4294967296^i=c at hc key ⊢
 generalize X/4294967296^i%4294967296=x at hx gx key
 have ei:((i:Nat):Int)+1=((i+1:Nat):Int):=by omega
 have e0:0+i=i:=by omega
 have hq:=q108 (dg 4294967296 X) (dg 4294967296 Y) (pd 4294967296 ((dg 4294967296 X).length+1) (sA X Y i%4294967296^i)) ((dg 4294967296 X).length+1) ((c:Nat):Int) ((dg 4294967296 X).length:Nat) (i:Nat)
 unfold t108 at hq
 rw[hq,Int.toNat_natCast,gx,qJ (n:=x) (by omega),e0,ei]
 rw[k5 (kF (by omega)),k5 (by simp only[kD,kE];omega),k5 (by simp only[kD,kE];omega)]
 by_cases h:i<(dg 4294967296 Y).length
 ·have gy:=dg_get (B:=4294967296) (n:=Y) (by omega) h
  generalize Y/4294967296^i%4294967296=y at hy gy key
  obtain⟨k1,k2⟩:=key (c+x+y) rfl
  rw[gy,qJ (n:=y) (by omega),k5 (kF (by omega))]
  repeat rw[k5 (by simp only[kD,kE,kH,qn];omega)]
  have es:(c:Int)+(x:Int)+(y:Int)=((c+x+y:Nat):Int):=by omega
  rw[k7,es,wrap_u32_nat,fdiv32,k1,k2]
 ·have gy:=dg_high (B:=4294967296) (n:=Y) (i:=i) (by omega) (by omega)
  rw[gy]at key
  obtain⟨k1,k2⟩:=key (c+x) (by omega)
  rw[k6 (kG (by omega))]
  repeat rw[k5 (by simp only[kD,kE,kH,qn];omega)]
  have es:(c:Int)+(x:Int)=((c+x:Nat):Int):=by omega
  rw[k7,es,wrap_u32_nat,fdiv32,k1,k2]
include hG in
theorem goes108 (X Y:Nat) (hs:(dg 4294967296 X).length<=1073741824):Goes (Rnd prog G f101.ntmps 0 [5,6,7,8,44,45,46] b108) (a108 X Y 0) (.exit 0) (a108 X Y (dg 4294967296 X).length):=by
 refine Goes.count (a108 X Y) (e:=.exit 0) (by simp) (dg 4294967296 X).length 0 (fun j _ hj => ?_) ?_
 ·exact qb hG OrcOK.nil mix (L:=[]) (pol:=pol108) (O:=[]) (kA (by kernel_rfl)) (Nat.zero_le _) (step108 X Y j (by omega) hs)
 ·refine qb hG OrcOK.nil mix (L:=[]) (pol:=pol108) (O:=[]) (kA (by kernel_rfl)) (Nat.zero_le _) ?_
  rw[Nat.zero_add]
  unfold a108
  rw[q108,k6 (kG (by omega)),k7]
  rfl
def hide {α:Type} (x:α):α:=Classical.choose (⟨x,rfl⟩:∃ y,y=x)
theorem qh {α:Type} (x:α):hide x=x:=Classical.choose_spec (⟨x,rfl⟩:∃ y,y=x)
def tr (a:ByteArray):ByteArray:=hide (nb (bv a.data.toList))
def wd (a:ByteArray):List Int:=hide (dg 4294967296 (bv a.data.toList))
def tx (ws:List Int):ByteArray:=hide (nb (lv 4294967296 ws))
def val (a:ByteArray):Nat:=hide (bv a.data.toList)
theorem tr_eq (a:ByteArray):tr a=nb (bv a.data.toList):=qh _
theorem wd_eq (a:ByteArray):wd a=dg 4294967296 (bv a.data.toList):=qh _
theorem tx_eq (ws:List Int):tx ws=nb (lv 4294967296 ws):=qh _
theorem val_eq (a:ByteArray):val a=bv a.data.toList:=qh _
def h114:Spec:=fun args hs K=>match args,hs with
 | [.s a],[]=>K (.s (tr a)) []
 | _,_=>.no 1
def h116:Spec:=fun args hs K=>match args,hs with
 | [.s a],[]=>.br (Nat.ble a.size 8) (K (.i .u64 (val a)) []) (.no 1)
 | _,_=>.no 1
def h117:Spec:=fun args hs K=>match args,hs with
 | [.s a],[]=>.br (Nat.ble a.size 1073741824) (K (.fr 1 (.ints .u32 (wd a))) []) (.no 1)
 | _,_=>.no 1
def h118:Spec:=fun args hs K=>match args,hs with
 | [.lst 1 (.ints .u32 ws)],[]=>.br (Nat.ble ws.length 268435456&&allD ws) (K (.s (tx ws)) []) (.no 1)
 | _,_=>.no 1
include hG in
theorem hk114:qc prog G 106 h114:=by
 intro args hs K x h
 unfold h114 at h
 split at h
 case h_2=>cases h
 rw[tr_eq]at h
 exact ok114 hG _ _ K x h
include hG in
theorem hk116:qc prog G 109 h116:=by
 intro args hs K x h
 unfold h116 at h
 split at h
 case h_2=>cases h
 rw[val_eq]at h
 exact ok116 hG _ _ K x h
include hG in
theorem hk117:qc prog G 110 h117:=by
 intro args hs K x h
 unfold h117 at h
 split at h
 case h_2=>cases h
 rw[wd_eq]at h
 exact ok117 hG _ _ K x h
include hG in
theorem hk118:qc prog G 111 h118:=by
 intro args hs K x h
 unfold h118 at h
 split at h
 case h_2=>cases h
 rw[tx_eq]at h
 exact ok118 hG _ _ K x h
def zA (xs ys:List Int):List Int:=hide (pd 4294967296 (xs.length+1) (sA (lv 4294967296 xs) (lv 4294967296 ys) xs.length%4294967296^xs.length))
def cA (xs ys:List Int):Nat:=hide (sA (lv 4294967296 xs) (lv 4294967296 ys) xs.length/4294967296^xs.length)
def Q108 (xs ys xs' zs:List Int) (l:Nat) (c n i:Int):Prop:=(∃ X Y,xs=dg 4294967296 X/\ys=dg 4294967296 Y)/\xs'=xs/\zs=List.replicate (xs.length+1) 0/\l=xs.length+1/\c=0/\n=xs.length/\i=0/\xs.length<=1073741824
def l108:qA:=fun ls K=>match ls with
 | ⟨[.lst 1 (.ints .u32 xs),.lst 1 (.ints .u32 ys),.sl 0 1 0 l,.i .u64 c,.lst 1 (.ints .u32 xs'),.i .i64 n,.i .i64 i],[some ⟨1,.ints .u32 zs⟩]⟩=>
  .br (qg (Q108 xs ys xs' zs l c n i)) (K (.exit 0) (t108 xs ys (zA xs ys) l (cA xs ys:Nat) n n)) (.no 1)
 | _=>.no 1
include hG in
theorem loop108:qz prog G f101.ntmps 0 [5,6,7,8,44,45,46] b108 l108:=by
 intro ls K x hm h
 unfold l108 at h
 split at h
 case h_2=>cases h
 rename_i xs ys l c xs' n i zs
 obtain⟨hc,hr⟩:=k8 h
 obtain⟨⟨X,Y,rfl,rfl⟩,rfl,rfl,rfl,rfl,rfl,rfl,hl⟩:=decP_iff.1 hc
 have g:=goes108 hG X Y hl
 have e0:a108 X Y 0=t108 (dg 4294967296 X) (dg 4294967296 Y) (List.replicate ((dg 4294967296 X).length+1) 0) ((dg 4294967296 X).length+1) 0 ((dg 4294967296 X).length:Nat) 0:=by
  unfold a108 sA
  rw[Nat.pow_zero,Nat.mod_one,Nat.mod_one,Nat.mod_one,pd_zero]
  rfl
 have e1:a108 X Y (dg 4294967296 X).length=t108 (dg 4294967296 X) (dg 4294967296 Y) (zA (dg 4294967296 X) (dg 4294967296 Y)) ((dg 4294967296 X).length+1) (cA (dg 4294967296 X) (dg 4294967296 Y):Nat) ((dg 4294967296 X).length:Nat) ((dg 4294967296 X).length:Nat):=by
  unfold a108 zA cA
  rw[qh,qh,lv_dg (by omega),lv_dg (by omega)]
 rw[e0,e1]at g
 exact⟨_,_,qx g,hr⟩
def O108:Orc:=[(106,h114),(108,s115),(109,h116),(110,h117),(111,h118)]
abbrev zp1081 (a b:ByteArray):Tr:=Tr.br ((tr a).size.ble 1073741824) (.br (((0:Nat)+(wd (tr a)).length).ble (wd (tr a)).length) (.br ((tr b).size.ble 1073741824) (.br (((0:Nat)+(wd (tr b)).length).ble (wd (tr b)).length) (.br (decide ((↑(tk0 (wd (tr a))).length:Int)<(↑(tk0 (wd (tr b))).length:Int))) (.br (ib ((↑(tk0 (wd (tr b))).length:Int)+(1:Int))) (.br (decide ((↑(tk0 (wd (tr b))).length:Int)+(1:Int)=(↑(tk0 (wd (tr b))).length:Int)+(1:Int))&&decide ((0:Int)<=(↑(tk0 (wd (tr b))).length:Int)+(1:Int))&&decide ((↑(tk0 (wd (tr b))).length:Int)+(1:Int)<=(4294967296:Int))&&prog.types[(158:Nat)].bytes.ble 1024) (.br (qg (Q108 (tk0 (wd (tr b))) (tk0 (wd (tr a))) (tk0 (wd (tr b))) (List.replicate ((↑(tk0 (wd (tr b))).length:Int)+(1:Int)).toNat (0:Int)) ((↑(tk0 (wd (tr b))).length:Int)+(1:Int)).toNat (0:Int) (↑(tk0 (wd (tr b))).length:Int) (0:Int))) (.br (ix ((↑(tk0 (wd (tr b))).length:Int)) ((↑((↑(tk0 (wd (tr b))).length:Int)+(1:Int)).toNat:Int))) (.br (((0:Nat)+(↑(tk0 (wd (tr b))).length:Int).toNat+(1:Nat)).ble (zA (tk0 (wd (tr b))) (tk0 (wd (tr a)))).length) (.br (((0:Nat)+((↑(tk0 (wd (tr b))).length:Int)+(1:Int)).toNat).ble ((zA (tk0 (wd (tr b))) (tk0 (wd (tr a)))).set ((0:Nat)+(↑(tk0 (wd (tr b))).length:Int).toNat) (IntKind.u32.wrap (↑(cA (tk0 (wd (tr b))) (tk0 (wd (tr a)))):Int))).length) (.br ((List.take ((↑(tk0 (wd (tr b))).length:Int)+(1:Int)).toNat (List.drop (0:Nat) ((zA (tk0 (wd (tr b))) (tk0 (wd (tr a)))).set ((0:Nat)+(↑(tk0 (wd (tr b))).length:Int).toNat) (IntKind.u32.wrap (↑(cA (tk0 (wd (tr b))) (tk0 (wd (tr a)))):Int))))).length.ble 268435456&&allD (List.take ((↑(tk0 (wd (tr b))).length:Int)+(1:Int)).toNat (List.drop (0:Nat) ((zA (tk0 (wd (tr b))) (tk0 (wd (tr a)))).set ((0:Nat)+(↑(tk0 (wd (tr b))).length:Int).toNat) (IntKind.u32.wrap (↑(cA (tk0 (wd (tr b))) (tk0 (wd (tr a)))):Int)))))) (.ok (.ret (.s (tx (List.take ((↑(tk0 (wd (tr b))).length:Int)+(1:Int)).toNat (List.drop (0:Nat) ((zA (tk0 (wd (tr b))) (tk0 (wd (tr a)))).set ((0:Nat)+(↑(tk0 (wd (tr b))).length:Int).toNat) (IntKind.u32.wrap (↑(cA (tk0 (wd (tr b))) (tk0 (wd (tr a)))):Int))))))) [])) (.no 1)) (.no 20002)) (.no 19001)) (.no 19002)) (.no 1)) (.no 8002)) (.no 8003)) (.br (ib ((↑(tk0 (wd (tr a))).length:Int)+(1:Int))) (.br (decide ((↑(tk0 (wd (tr a))).length:Int)+(1:Int)=(↑(tk0 (wd (tr a))).length:Int)+(1:Int))&&decide ((0:Int)<=(↑(tk0 (wd (tr a))).length:Int)+(1:Int))&&decide ((↑(tk0 (wd (tr a))).length:Int)+(1:Int)<=(4294967296:Int))&&prog.types[(158:Nat)].bytes.ble 1024) (.br (qg (Q108 (tk0 (wd (tr a))) (tk0 (wd (tr b))) (tk0 (wd (tr a))) (List.replicate ((↑(tk0 (wd (tr a))).length:Int)+(1:Int)).toNat (0:Int)) ((↑(tk0 (wd (tr a))).length:Int)+(1:Int)).toNat (0:Int) (↑(tk0 (wd (tr a))).length:Int) (0:Int))) (.br (ix ((↑(tk0 (wd (tr a))).length:Int)) ((↑((↑(tk0 (wd (tr a))).length:Int)+(1:Int)).toNat:Int))) (.br (((0:Nat)+(↑(tk0 (wd (tr a))).length:Int).toNat+(1:Nat)).ble (zA (tk0 (wd (tr a))) (tk0 (wd (tr b)))).length) (.br (((0:Nat)+((↑(tk0 (wd (tr a))).length:Int)+(1:Int)).toNat).ble ((zA (tk0 (wd (tr a))) (tk0 (wd (tr b)))).set ((0:Nat)+(↑(tk0 (wd (tr a))).length:Int).toNat) (IntKind.u32.wrap (↑(cA (tk0 (wd (tr a))) (tk0 (wd (tr b)))):Int))).length) (.br ((List.take ((↑(tk0 (wd (tr a))).length:Int)+(1:Int)).toNat (List.drop (0:Nat) ((zA (tk0 (wd (tr a))) (tk0 (wd (tr b)))).set ((0:Nat)+(↑(tk0 (wd (tr a))).length:Int).toNat) (IntKind.u32.wrap (↑(cA (tk0 (wd (tr a))) (tk0 (wd (tr b)))):Int))))).length.ble 268435456&&allD (List.take ((↑(tk0 (wd (tr a))).length:Int)+(1:Int)).toNat (List.drop (0:Nat) ((zA (tk0 (wd (tr a))) (tk0 (wd (tr b)))).set ((0:Nat)+(↑(tk0 (wd (tr a))).length:Int).toNat) (IntKind.u32.wrap (↑(cA (tk0 (wd (tr a))) (tk0 (wd (tr b)))):Int)))))) (.ok (.ret (.s (tx (List.take ((↑(tk0 (wd (tr a))).length:Int)+(1:Int)).toNat (List.drop (0:Nat) ((zA (tk0 (wd (tr a))) (tk0 (wd (tr b)))).set ((0:Nat)+(↑(tk0 (wd (tr a))).length:Int).toNat) (IntKind.u32.wrap (↑(cA (tk0 (wd (tr a))) (tk0 (wd (tr b)))):Int))))))) [])) (.no 1)) (.no 20002)) (.no 19001)) (.no 19002)) (.no 1)) (.no 8002)) (.no 8003))) (.no 5003)) (.no 1)) (.no 5005)) (.no 1)
theorem p108 (a b:ByteArray):evF prog O108 [(10,l108)] pol108 f101 [.s a,.s b] [] ql=
 Tr.br (decide ((↑(tr a).size:Int)<8)) (.br (decide ((↑(tr b).size:Int)<8)) (.br ((tr a).size.ble 8) (.br ((tr b).size.ble 8) (.br (decide (0<=(↑(val (tr a)):Int)+(↑(val (tr b)):Int))&&decide ((↑(val (tr a)):Int)+(↑(val (tr b)):Int)<=18446744073709551615)) (.br (ix ((↑(val (tr a)):Int)+(↑(val (tr b)):Int)) ((18446744073709551616:Int))) (.ok (.ret (.s (nb ((↑(val (tr a)):Int)+(↑(val (tr b)):Int)).toNat)) [])) (.no 1)) (.no 4003)) (.no 1)) (.no 1)) (zp1081 a b)) (zp1081 a b):=by kernel_rfl
def bz (a:ByteArray):Bool:=decide (a.size<=131072)
def g108:Spec:=fun args hs K=>match args,hs with
 | [.s a,.s b],[]=>.br (bz a&&bz b) (K (.s (nb (bv a.data.toList+bv b.data.toList))) []) (.no 1)
 | _,_=>.no 1
theorem nb_sz (a:ByteArray):(nb (bv a.data.toList)).size<=a.size:=by
 rw[nb_size,nbl_bv,<-ba_len]
 exact(List.dropWhile_sublist _).length_le
theorem tr_size (a:ByteArray):(tr a).size<=a.size:=by rw[tr_eq];exact nb_sz a
theorem val_tr (a:ByteArray):val (tr a)=bv a.data.toList:=by rw[val_eq,tr_eq,nb_data,bv_nbl]
theorem wd_tr (a:ByteArray):wd (tr a)=dg 4294967296 (bv a.data.toList):=by rw[wd_eq,tr_eq,nb_data,bv_nbl]
theorem u32_ty:prog.types[(158:Nat)].bytes.ble (1024:Nat)=true:=by kernel_rfl
theorem zA_len (xs ys:List Int):(zA xs ys).length=xs.length+1:=by unfold zA;rw[qh,qn]
theorem lv_set (B:Nat):∀ (xs:List Int) (i:Nat) (v:Int),i<xs.length->lv B (xs.set i v)+(xs.getD i 0).toNat*B^i=lv B xs+v.toNat*B^i
 | [],i,v,h=>by simp at h
 | x::xs,0,v,h=>by simp[lv];omega
 | x::xs,i+1,v,h=>by
  have ih:=lv_set B xs i v (by simpa using h)
  simp only[List.set_cons_succ,lv,List.getD_cons_succ,Nat.pow_succ]
  have e1:B*(lv B (xs.set i v)+(xs.getD i 0).toNat*B^i)=B*(lv B xs+v.toNat*B^i):=by rw[ih]
  simp only[Nat.mul_add]at e1
  have e2:∀ z:Nat,B*(z*B^i)=z*(B^i*B):=fun z=>by rw[Nat.mul_left_comm,Nat.mul_comm B]
  rw[e2,e2]at e1
  omega
theorem sumA (X Y:Nat) (h:(dg 4294967296 Y).length<=(dg 4294967296 X).length):
  (zA (dg 4294967296 X) (dg 4294967296 Y)).set (dg 4294967296 X).length (IntKind.u32.wrap (cA (dg 4294967296 X) (dg 4294967296 Y):Nat))=pd 4294967296 ((dg 4294967296 X).length+1) (X+Y):=by
 have hp:0<4294967296^(dg 4294967296 X).length:=Nat.pow_pos (by omega)
 have hx:=dg_lt (B:=4294967296) (by omega) X
 have hy:=dg_lt (B:=4294967296) (by omega) Y
 have hle:4294967296^(dg 4294967296 Y).length<=4294967296^(dg 4294967296 X).length:=Nat.pow_le_pow_right (by omega) h
 have hs:sA X Y (dg 4294967296 X).length=X+Y:=by
  unfold sA
  rw[Nat.mod_eq_of_lt hx,Nat.mod_eq_of_lt (by omega)]
 have hc:(X+Y)/4294967296^(dg 4294967296 X).length<2:=by rw[Nat.div_lt_iff_lt_mul hp];omega
 unfold zA cA
 rw[qh,qh,lv_dg (by omega),lv_dg (by omega),hs,wrap_u32_nat,Nat.mod_eq_of_lt (a:=(X+Y)/_) (by omega),pdB_set (by omega) (Nat.mod_lt _ hp) (by omega) (by omega)]
 congr 1
 rw[Nat.mul_comm,Nat.add_comm,Nat.div_add_mod]
include hG in
theorem orcN:OrcOK prog G O108:=.cons (hk114 hG) (.cons (ok115 hG) (.cons (hk116 hG) (.cons (hk117 hG) (.cons (hk118 hG) .nil))))
theorem allD_pd (L n:Nat):allD (pd 4294967296 L n)=true:=allD_iff.2 (pd_mem (by omega))
theorem bz_iff {a:ByteArray}:bz a=true↔a.size<=131072:=by simp[bz]
include hG in
theorem gk108:qc prog G 101 g108:=by
 refine qq hG (orcN hG) mix enter108 (L:=[(10,l108)]) (pol:=pol108) fun args hs K x h => ?_
 unfold g108 at h
 split at h
 case h_2=>cases h
 rename_i a b
 obtain⟨hc,hr⟩:=k8 h
 simp only[kD,bz_iff]at hc
 refine⟨qN (b:=b108) (live:=[5,6,7,8,44,45,46]) (sp:=l108) (m:=0) (by kernel_rfl) (by kernel_rfl) (by kernel_rfl) (loop108 hG),_,_,_,?_,.refl _,hr⟩
 have sa:=tr_size a
 have sb:=tr_size b
 have la:=dg_len_size a
 have lb:=dg_len_size b
 rw[p108];try unfold zp1081;try unfold tk0
 simp only[List.drop_zero,List.take_length,wd_tr,val_tr,u32_ty,Bool.and_true]
 by_cases h8:(tr a).size<8/\(tr b).size<8
 ·have h1:=nb_lt (n:=bv a.data.toList) (k:=7) (by rw[<-tr_eq];omega)
  have h2:=nb_lt (n:=bv b.data.toList) (k:=7) (by rw[<-tr_eq];omega)
  repeat rw[k5 (by simp only[kD,kE,kH];omega)]
  rw[k7,<-Int.natCast_add,Int.toNat_natCast]
 ·have key:∀ X Y:Nat,(dg 4294967296 X).length<=131072->(dg 4294967296 Y).length<=(dg 4294967296 X).length->tx (pd 4294967296 ((dg 4294967296 X).length+1) (X+Y))=nb (X+Y):=by
   intro X Y _ hl
   have hx:=dg_lt (B:=4294967296) (by omega) X
   have hy:=dg_lt (B:=4294967296) (by omega) Y
   have hle:4294967296^(dg 4294967296 Y).length<=4294967296^(dg 4294967296 X).length:=Nat.pow_le_pow_right (by omega) hl
   rw[tx_eq,lv_pd (by omega) _ _ (by rw[Nat.pow_succ];omega)]
  have pl:∀ X Y:Nat,(dg 4294967296 X).length<=131072->qg (Q108 (dg 4294967296 X) (dg 4294967296 Y) (dg 4294967296 X) (List.replicate (((dg 4294967296 X).length:Int)+1).toNat 0) (((dg 4294967296 X).length:Int)+1).toNat 0 ((dg 4294967296 X).length:Nat) 0)=true:=by
   intro X Y hl
   have e:(((dg 4294967296 X).length:Int)+1).toNat=(dg 4294967296 X).length+1:=by omega
   rw[e]
   exact decP_iff.2 ⟨⟨X,Y,rfl,rfl⟩,rfl,rfl,rfl,rfl,rfl,rfl,by omega⟩
  have go:∀ X Y:Nat,(dg 4294967296 X).length<=131072->(dg 4294967296 Y).length<=(dg 4294967296 X).length->
    List.take (((dg 4294967296 X).length:Int)+1).toNat ((zA (dg 4294967296 X) (dg 4294967296 Y)).set (0+((dg 4294967296 X).length:Int).toNat) (IntKind.u32.wrap (cA (dg 4294967296 X) (dg 4294967296 Y):Nat)))=pd 4294967296 ((dg 4294967296 X).length+1) (X+Y):=by
   intro X Y _ hl
   have e:(((dg 4294967296 X).length:Int)+1).toNat=(dg 4294967296 X).length+1:=by omega
   rw[e,Int.toNat_natCast,Nat.zero_add,sumA X Y hl,List.take_of_length_le (by rw[qn];omega)]
  have skip:∀ u t:Tr,(Tr.br (decide (((tr a).size:Int)<8)) (Tr.br (decide (((tr b).size:Int)<8)) u t) t).run=t.run:=by
   intro u t
   by_cases h1:(tr a).size<8
   ·rw[k5 (kF (by omega)),k6 (kG (by omega))]
   ·rw[k6 (kG (by omega))]
  rw[skip]
  generalize bv a.data.toList=X at*
  generalize bv b.data.toList=Y at*
  rw[k5 (by rw[kH];omega),k5 (by rw[kH];omega),k5 (by rw[kH];omega),k5 (by rw[kH];omega)]
  by_cases hl:(dg 4294967296 X).length<(dg 4294967296 Y).length
  ·rw[k5 (kF (by omega)),k5 (by simp only[kD,kE];omega),k5 (by simp only[kD,kE,true_and,decide_true,Bool.true_and];omega),k5 (pl Y X (by omega)),
    k5 (by simp only[kD,kE];omega),k5 (by simp only[kH,zA_len];omega),k5 (by simp only[kH,List.length_set,zA_len];omega),go Y X (by omega) (by omega),
    k5 (by rw[allD_pd,Bool.and_true,kH,qn];omega),k7,key Y X (by omega) (by omega),Nat.add_comm]
  ·rw[k6 (kG (by omega)),k5 (by simp only[kD,kE];omega),k5 (by simp only[kD,kE,true_and,decide_true,Bool.true_and];omega),k5 (pl X Y (by omega)),
    k5 (by simp only[kD,kE];omega),k5 (by simp only[kH,zA_len];omega),k5 (by simp only[kH,List.length_set,zA_len];omega),go X Y (by omega) (by omega),
    k5 (by rw[allD_pd,Bool.and_true,kH,qn];omega),k7,key X Y (by omega) (by omega)]
def b77:Code:=(qi (qd f60)).getD 0 .skip
def b77i:Code:=(qi (qd f60)).getD 1 .skip
def pol77:Pol:={live:=[(7,[6,7,39,40,41]),(11,[6,7,8,9,10,39,40,41,46,47,48])]}
def u77 (xs ys zs:List Int) (l:Nat) (i x c n m k:Int):LS:=⟨[.lst 1 (.ints .u32 ys),.sl 0 1 0 l,.i .i64 i,.i .u32 x,.i .u64 c,.lst 1 (.ints .u32 xs),.i .i64 n,.i .i64 i,.lst 1 (.ints .u32 ys),.i .i64 m,.i .i64 k],[some ⟨1,.ints .u32 zs⟩]⟩
theorem q77i (xs ys zs:List Int) (l:Nat) (i x c n m k:Int):qe prog [] [] pol77 f60.ntmps 0 [6,7,8,9,10,39,40,41,46,47,48] b77i (u77 xs ys zs l i x c n m k)=
 Tr.br (decide (k<m)) (.br (ix (k) ((ys.length:Int))) (.br (decide (0<=IntKind.u64.wrap x*IntKind.u64.wrap (ys.getD k.toNat 0))&&decide (IntKind.u64.wrap x*IntKind.u64.wrap (ys.getD k.toNat 0)<=18446744073709551615)) (.br (ib (i+k)) (.br (ix (i+k) ((l:Int))) (.br ((0+(i+k).toNat+1).ble zs.length) (.br (decide (0<=IntKind.u64.wrap x*IntKind.u64.wrap (ys.getD k.toNat 0)+IntKind.u64.wrap (zs.getD (0+(i+k).toNat) (0:Int)))&&decide (IntKind.u64.wrap x*IntKind.u64.wrap (ys.getD k.toNat 0)+IntKind.u64.wrap (zs.getD (0+(i+k).toNat) (0:Int))<=18446744073709551615)) (.br (decide (0<=c+(IntKind.u64.wrap x*IntKind.u64.wrap (ys.getD k.toNat 0)+IntKind.u64.wrap (zs.getD (0+(i+k).toNat) (0:Int))))&&decide (c+(IntKind.u64.wrap x*IntKind.u64.wrap (ys.getD k.toNat 0)+IntKind.u64.wrap (zs.getD (0+(i+k).toNat) (0:Int)))<=18446744073709551615)) (.br (ib (i+k)) (.br (ix (i+k) ((l:Int))) (.br ((0+(i+k).toNat+1).ble zs.length) (.br (decide ((0:Int)<=32)) (.br (ib (k+1)) (.ok (.out .normal (LS.mk [.lst 1 (.ints .u32 ys),.sl 0 1 0 l,.i .i64 i,.i .u32 x,.i .u64 ((c+(IntKind.u64.wrap x*IntKind.u64.wrap (ys.getD k.toNat 0)+IntKind.u64.wrap (zs.getD (0+(i+k).toNat) (0:Int)))).fdiv ((2:Int)^min (Int.toNat 32) IntKind.u64.bits)),.lst 1 (.ints .u32 xs),.i .i64 n,.i .i64 i,.lst 1 (.ints .u32 ys),.i .i64 m,.i .i64 (k+1)] [some (.mk 1 (.ints .u32 (zs.set (0+(i+k).toNat) (IntKind.u32.wrap (c+(IntKind.u64.wrap x*IntKind.u64.wrap (ys.getD k.toNat 0)+IntKind.u64.wrap (zs.getD (0+(i+k).toNat) (0:Int))))))))]))) (.no 17002)) (.no 16002)) (.no 15001)) (.no 15002)) (.no 15005)) (.no 14002)) (.no 14003)) (.no 14005)) (.no 14006)) (.no 14007)) (.no 14011)) (.no 13004)) (.ok (.out (.exit 2) (LS.mk [.lst 1 (.ints .u32 ys),.sl 0 1 0 l,.i .i64 i,.i .u32 x,.i .u64 c,.lst 1 (.ints .u32 xs),.i .i64 n,.i .i64 i,.lst 1 (.ints .u32 ys),.i .i64 m,.i .i64 k] [some (.mk 1 (.ints .u32 zs))]))):=by kernel_rfl
def mulL (x:Int):Int->List Int->List Int->List Int
 | _,[],zs=>zs
 | _,_::_,[]=>[]
 | c,y::ys,z::zs=>((c+(x*y+z))%4294967296)::mulL x ((c+(x*y+z))/4294967296) ys zs
def mulC (x:Int):Int->List Int->List Int->Int
 | c,[],_=>c
 | c,_::_,[]=>c
 | c,y::ys,z::zs=>mulC x ((c+(x*y+z))/4294967296) ys zs
theorem mul_step {x y z c:Int} (hx:0<=x/\x<4294967296) (hy:0<=y/\y<4294967296) (hz:0<=z/\z<4294967296) (hc:0<=c/\c<4294967296):
  0<=x*y/\x*y<=18446744065119617025/\0<=(c+(x*y+z))/4294967296/\(c+(x*y+z))/4294967296<4294967296:=by
 have h1:0<=x*y:=Int.mul_nonneg hx.1 hy.1
 have h2:x*y<=4294967295*4294967295:=Int.mul_le_mul (by omega) (by omega) hy.1 (by omega)
 refine⟨h1,by omega,by omega,by omega⟩
theorem mulL_ok {x:Int} (hx:0<=x/\x<4294967296):∀ (ys zs:List Int) (c:Int),0<=c/\c<4294967296->isD ys->isD zs->ys.length<=zs.length->
  isD (mulL x c ys zs)/\(mulL x c ys zs).length=zs.length/\(0<=mulC x c ys zs/\mulC x c ys zs<4294967296)/\
  lv 4294967296 (mulL x c ys zs)+(mulC x c ys zs).toNat*4294967296^ys.length=lv 4294967296 zs+x.toNat*lv 4294967296 ys+c.toNat
 | [],zs,c,hc,_,hz,_=>by
  refine⟨hz,rfl,hc,?_⟩
  show lv 4294967296 zs+c.toNat*4294967296^0=lv 4294967296 zs+x.toNat*0+c.toNat
  rw[Nat.pow_zero,Nat.mul_one,Nat.mul_zero];omega
 | _::_,[],_,_,_,_,hl=>by simp at hl
 | y::ys,z::zs,c,hc,hy,hz,hl=>by
  have hy0:=hy y (by simp)
  have hz0:=hz z (by simp)
  obtain⟨s1,s2,s3,s4⟩:=mul_step hx hy0 hz0 hc
  obtain⟨i1,i2,i3,i4⟩:=mulL_ok hx ys zs ((c+(x*y+z))/4294967296) ⟨s3,s4⟩ (fun a ha=>hy a (by simp[ha])) (fun a ha=>hz a (by simp[ha])) (by simpa using hl)
  refine⟨?_,by simp[mulL,i2],i3,?_⟩
  ·intro a ha
   simp only[mulL,List.mem_cons]at ha
   rcases ha with rfl|ha
   ·omega
   ·exact i1 a ha
  ·simp only[mulL,mulC,lv,kI,Nat.pow_succ]
   rw[show(mulC x ((c+(x*y+z))/4294967296) ys zs).toNat*(4294967296^ys.length*4294967296)=4294967296*((mulC x ((c+(x*y+z))/4294967296) ys zs).toNat*4294967296^ys.length) by
    rw[<-Nat.mul_assoc,Nat.mul_comm]]
   have e:x.toNat*(y.toNat+4294967296*lv 4294967296 ys)=(x*y).toNat+4294967296*(x.toNat*lv 4294967296 ys):=by
    rw[Nat.mul_add,<-Int.toNat_mul hx.1 hy0.1,Nat.mul_left_comm]
   rw[e]
   generalize x*y=p at*
   generalize (mulC x ((c+(p+z))/4294967296) ys zs).toNat*4294967296^ys.length=q at*
   generalize lv 4294967296 (mulL x ((c+(p+z))/4294967296) ys zs)=r at*
   generalize x.toNat*lv 4294967296 ys=t at*
   omega
theorem mulL_high (x:Int):∀ (ys zs:List Int) (c:Int) (j:Nat),ys.length<=zs.length->ys.length<=j->(mulL x c ys zs).getD j 0=zs.getD j 0
 | [],zs,c,j,_,_=>rfl
 | _::_,[],_,_,hl,_=>by simp at hl
 | y::ys,z::zs,c,0,_,hj=>by simp at hj
 | y::ys,z::zs,c,j+1,hl,hj=>by
  simp only[mulL,List.getD_cons_succ]
  exact mulL_high x ys zs _ j (by simpa using hl) (by simpa using hj)
theorem drop_cons {α:Type} {l:List α} {k:Nat} {y:α} {t:List α} (h:l.drop k=y::t):k<l.length/\l[k]? = some y/\l.drop (k+1)=t:=by
 have h1:k<l.length:=by
  rcases Nat.lt_or_ge k l.length with h2|h2
  ·exact h2
  ·rw[List.drop_eq_nil_of_le h2]at h;cases h
 have h2:=List.drop_eq_getElem_cons h1
 rw[h]at h2
 obtain⟨e1,e2⟩:=List.cons.inj h2
 exact⟨h1,by rw[List.getElem?_eq_getElem h1,<-e1],e2.symm⟩
theorem getD_of {l:List Int} {k:Nat} {y:Int} (h:l[k]? = some y):l.getD k 0=y:=by rw[List.getD_eq_getElem?_getD,h];rfl
theorem u64_id {n:Int} (h0:0<=n) (h1:n<18446744073709551616):IntKind.u64.wrap n=n:=w64 h0 h1
theorem u32_mod {n:Int}:IntKind.u32.wrap n=n%4294967296:=by rw[IntKind.wrap_u32']
theorem fd32 {n:Int}:n.fdiv ((2:Int)^min (Int.toNat (32:Int)) IntKind.u64.bits)=n/4294967296:=by
 have:min (Int.toNat (32:Int)) IntKind.u64.bits=32:=rfl
 rw[this,Int.fdiv_eq_ediv_of_nonneg _ (by decide)]
 rfl
theorem step77i (xs ys pre zs:List Int) (z y:Int) (yt:List Int) (l:Nat) (i k:Nat) (x c n:Int) (hk:ys.drop k=y::yt) (hp:pre.length=i+k) (hl:l=(pre++z::zs).length) (hs:l<=1073741824)
  (hx:0<=x/\x<4294967296) (hy:0<=y/\y<4294967296) (hz:0<=z/\z<4294967296) (hc:0<=c/\c<4294967296) (hys:ys.length<=1073741824):
  (qe prog [] [] pol77 f60.ntmps 0 [6,7,8,9,10,39,40,41,46,47,48] b77i (u77 xs ys (pre++z::zs) l (i:Nat) x c n (ys.length:Nat) (k:Nat))).run=
   some (.out .normal (u77 xs ys ((pre++[(c+(x*y+z))%4294967296])++zs) l (i:Nat) x ((c+(x*y+z))/4294967296) n (ys.length:Nat) ((k+1:Nat):Int))):=by
 obtain⟨hk1,hk2,_⟩:=drop_cons hk
 obtain⟨s1,s2,s3,s4⟩:=mul_step hx hy hz hc
 have hlen:(pre++z::zs).length=i+k+1+zs.length:=by simp[hp];omega
 have e0:0+(((i:Nat):Int)+((k:Nat):Int)).toNat=pre.length:=by omega
 rw[q77i,Int.toNat_natCast,getD_of hk2,e0,getD_app,u64_id hx.1 (by omega),u64_id hy.1 (by omega),u64_id hz.1 (by omega)]
 repeat rw[k5 (by simp only[kD,kE,kH];omega)]
 rw[k7,fd32,u32_mod,set_app]
 unfold u77
 rw[List.append_assoc]
 rfl
include hG in
theorem goes77i (xs ys:List Int) (l i:Nat) (x n:Int) (hs:l<=1073741824) (hx:0<=x/\x<4294967296) (hy:isD ys) (hys:ys.length<=1073741824):∀ (yt:List Int) (pre zs:List Int) (k:Nat) (c:Int),ys.drop k=yt->pre.length=i+k->l=(pre++zs).length->k+yt.length=ys.length->
  isD zs->yt.length<=zs.length->0<=c/\c<4294967296->
  Goes (Rnd prog G f60.ntmps 0 [6,7,8,9,10,39,40,41,46,47,48] b77i) (u77 xs ys (pre++zs) l (i:Nat) x c n (ys.length:Nat) (k:Nat)) (.exit 2) (u77 xs ys (pre++mulL x c yt zs) l (i:Nat) x (mulC x c yt zs) n (ys.length:Nat) (ys.length:Nat))
 | [],pre,zs,k,c,_,_,_,hkl,_,_,_=>by
  refine .last _ _ _ (qb hG OrcOK.nil mix (L:=[]) (pol:=pol77) (O:=[]) (kA (by kernel_rfl)) (Nat.zero_le _) ?_) (by simp)
  simp only[kJ,Nat.add_zero]at hkl
  subst hkl
  rw[q77i,k6 (kG (by omega)),k7]
  rfl
 | y::yt,pre,[],k,c,_,_,_,_,_,hle,_=>by simp at hle
 | y::yt,pre,z::zs,k,c,hk,hp,hl,hkl,hz,hle,hc=>by
  have hz0:=hz z (by simp)
  obtain⟨_,hk2,hk3⟩:=drop_cons hk
  have hy0:=hy y (List.mem_of_getElem? hk2)
  obtain⟨s1,s2,s3,s4⟩:=mul_step hx hy0 hz0 hc
  refine .more _ _ _ _ (qb hG OrcOK.nil mix (L:=[]) (pol:=pol77) (O:=[]) (kA (by kernel_rfl)) (Nat.zero_le _) (step77i xs ys pre zs z y yt l i k x c n hk hp hl hs hx hy0 hz0 hc hys)) ?_
  have ih:=goes77i xs ys l i x n hs hx hy hys yt (pre++[(c+(x*y+z))%4294967296]) zs (k+1) ((c+(x*y+z))/4294967296) hk3 (by simp[hp];omega) (by rw[hl];simp) (by simp only[kI]at hkl;omega) (fun a ha=>hz a (by simp[ha])) (by simpa using hle) ⟨s3,s4⟩
  have e:(pre++[(c+(x*y+z))%4294967296])++mulL x ((c+(x*y+z))/4294967296) yt zs=pre++mulL x c (y::yt) (z::zs):=by simp[mulL]
  rw[e]at ih
  exact ih
def mI (x:Int) (i:Nat) (ys zs:List Int):List Int:=hide (zs.take i++mulL x 0 ys (zs.drop i))
def mK (x:Int) (i:Nat) (ys zs:List Int):Int:=hide (mulC x 0 ys (zs.drop i))
def Q77i (xs ys zs ys':List Int) (l:Nat) (i x c n i' m k:Int):Prop:=ys'=ys/\(∃ j:Nat,i=(j:Int)/\j+ys.length<=zs.length)/\l=zs.length/\l<=1073741824/\(0<=x/\x<4294967296)/\isD ys/\isD zs/\c=0/\i'=i/\m=ys.length/\k=0
def l77i:qA:=fun ls K=>match ls with
 | ⟨[.lst 1 (.ints .u32 ys),.sl 0 1 0 l,.i .i64 i,.i .u32 x,.i .u64 c,.lst 1 (.ints .u32 xs),.i .i64 n,.i .i64 i',.lst 1 (.ints .u32 ys'),.i .i64 m,.i .i64 k],[some ⟨1,.ints .u32 zs⟩]⟩=>
  .br (qg (Q77i xs ys zs ys' l i x c n i' m k)) (K (.exit 2) (u77 xs ys (mI x i.toNat ys zs) l i x (mK x i.toNat ys zs) n m m)) (.no 1)
 | _=>.no 1
include hG in
theorem loop77i:qz prog G f60.ntmps 0 [6,7,8,9,10,39,40,41,46,47,48] b77i l77i:=by
 intro ls K r hm h
 unfold l77i at h
 split at h
 case h_2=>cases h
 rename_i ys l i x c xs n i' ys' m k zs
 obtain⟨hc,hr⟩:=k8 h
 obtain⟨rfl,⟨j,rfl,hj⟩,rfl,hl,hx,hy,hz,rfl,rfl,rfl,rfl⟩:=decP_iff.1 hc
 have g:=goes77i hG xs ys' zs.length j x n hl hx hy (by omega) ys' (zs.take j) (zs.drop j) 0 0 rfl (by rw[List.length_take];omega) (by rw[List.take_append_drop]) (by omega) (fun a ha=>hz a (List.mem_of_mem_drop ha)) (by rw[List.length_drop];omega) ⟨by omega,by omega⟩
 rw[List.take_append_drop]at g
 unfold mI mK at hr
 rw[qh,qh,Int.toNat_natCast]at hr
 exact⟨_,_,qx g,hr⟩
def t77 (xs ys zs:List Int) (l:Nat) (n i:Int):LS:=⟨[.lst 1 (.ints .u32 ys),.sl 0 1 0 l,.lst 1 (.ints .u32 xs),.i .i64 n,.i .i64 i],[some ⟨1,.ints .u32 zs⟩]⟩
theorem q77 (xs ys zs:List Int) (l:Nat) (n i:Int):qe prog [] [(11,l77i)] pol77 f60.ntmps 0 [6,7,39,40,41] b77 (t77 xs ys zs l n i)=
 Tr.br (decide (i<n)) (.br (ix (i) ((xs.length:Int))) (.br (qg (Q77i xs ys zs ys l i (xs.getD i.toNat 0) (0:Int) n i (ys.length:Int) (0:Int))) (.br (ib (i+(ys.length:Int))) (.br (ix (i+(ys.length:Int)) ((l:Int))) (.br ((0+(i+(ys.length:Int)).toNat+1).ble (mI (xs.getD i.toNat 0) i.toNat ys zs).length) (.br (ib (i+1)) (.ok (.out .normal (LS.mk [.lst 1 (.ints .u32 ys),.sl 0 1 0 l,.lst 1 (.ints .u32 xs),.i .i64 n,.i .i64 (i+1)] [some (.mk 1 (.ints .u32 ((mI (xs.getD i.toNat 0) i.toNat ys zs).set (0+(i+(ys.length:Int)).toNat) (IntKind.u32.wrap (mK (xs.getD i.toNat 0) i.toNat ys zs)))))]))) (.no 19002)) (.no 18001)) (.no 18002)) (.no 18005)) (.no 1)) (.no 9004)) (.ok (.out (.exit 0) (LS.mk [.lst 1 (.ints .u32 ys),.sl 0 1 0 l,.lst 1 (.ints .u32 xs),.i .i64 n,.i .i64 i] [some (.mk 1 (.ints .u32 zs))]))):=by kernel_rfl
theorem lv_take_drop (B:Nat) (zs:List Int) (i:Nat) (h:i<=zs.length):lv B zs=lv B (zs.take i)+B^i*lv B (zs.drop i):=by
 have e:=lv_append B (zs.take i) (zs.drop i)
 rw[List.take_append_drop,List.length_take,Nat.min_eq_left h]at e
 exact e
theorem isD_take {zs:List Int} (h:isD zs) (i:Nat):isD (zs.take i):=fun a ha=>h a (List.mem_of_mem_take ha)
theorem isD_drop {zs:List Int} (h:isD zs) (i:Nat):isD (zs.drop i):=fun a ha=>h a (List.mem_of_mem_drop ha)
theorem isD_app {xs ys:List Int} (h:isD xs) (h':isD ys):isD (xs++ys):=fun a ha=>(List.mem_append.1 ha).elim (h a) (h' a)
theorem isD_set {zs:List Int} (h:isD zs) {v:Int} (hv:0<=v/\v<4294967296) (i:Nat):isD (zs.set i v):=fun a ha=>by
 rcases List.mem_or_eq_of_mem_set ha with h1|h1
 ·exact h a h1
 ·rw[h1];exact hv
theorem isD_pd (L n:Nat):isD (pd 4294967296 L n):=pd_mem (by omega)
theorem mul_outer (X Y j:Nat) (hj:j<(dg 4294967296 X).length) (L:Nat) (hL:L=(dg 4294967296 X).length+(dg 4294967296 Y).length):
  (mI ((dg 4294967296 X).getD j 0) j (dg 4294967296 Y) (pd 4294967296 L (X%4294967296^j*Y))).length=L/\
  (mI ((dg 4294967296 X).getD j 0) j (dg 4294967296 Y) (pd 4294967296 L (X%4294967296^j*Y))).set (j+(dg 4294967296 Y).length) (IntKind.u32.wrap (mK ((dg 4294967296 X).getD j 0) j (dg 4294967296 Y) (pd 4294967296 L (X%4294967296^j*Y))))=
   pd 4294967296 L (X%4294967296^(j+1)*Y):=by
 have hx:=dg_get (B:=4294967296) (n:=X) (by omega) hj
 have hxr:X/4294967296^j%4294967296<4294967296:=Nat.mod_lt _ (by omega)
 have hp:0<4294967296^j:=Nat.pow_pos (by omega)
 have hy:=dg_lt (B:=4294967296) (by omega) Y
 have hyD:=dg_isD Y
 have hyv:=lv_dg (B:=4294967296) (by omega) Y
 have hXj:=Nat.mod_lt X hp
 generalize dg 4294967296 Y=ys at*
 rw[hx]
 generalize hA:X%4294967296^j*Y=A
 have hAlt:A<4294967296^(j+ys.length):=by
  rw[<-hA,Nat.pow_add]
  exact Nat.mul_lt_mul_of_lt_of_le hXj (Nat.le_of_lt hy) (Nat.lt_of_le_of_lt (Nat.zero_le _) hy)
 have hpw:4294967296^(j+ys.length)<=4294967296^L:=Nat.pow_le_pow_right (by omega) (by omega)
 have hzD:=isD_pd L A
 have hzl:=qn 4294967296 L A
 have hzv:=lv_pd (B:=4294967296) (by omega) L A (by omega)
 have hz0:(pd 4294967296 L A).getD (j+ys.length) 0=0:=by
  rw[pd_getD (by omega),Nat.div_eq_of_lt hAlt];rfl
 generalize pd 4294967296 L A=zs at*
 have hx0:(0:Int)<=((X/4294967296^j%4294967296:Nat):Int)/\((X/4294967296^j%4294967296:Nat):Int)<4294967296:=by omega
 obtain⟨m1,m2,m3,m4⟩:=mulL_ok hx0 ys (zs.drop j) 0 ⟨by omega,by omega⟩ hyD (isD_drop hzD j) (by rw[List.length_drop];omega)
 have m5:=mulL_high ((X/4294967296^j%4294967296:Nat):Int) ys (zs.drop j) 0 ys.length (by rw[List.length_drop];omega) (Nat.le_refl _)
 unfold mI mK
 rw[qh,qh]
 have hlen:(zs.take j++mulL ((X/4294967296^j%4294967296:Nat):Int) 0 ys (zs.drop j)).length=L:=by
  rw[List.length_append,m2,List.length_take,List.length_drop];omega
 refine⟨hlen,?_⟩
 have hl1:(zs.take j).length=j:=by rw[List.length_take];omega
 have hw:IntKind.u32.wrap (mulC ((X/4294967296^j%4294967296:Nat):Int) 0 ys (zs.drop j))=mulC ((X/4294967296^j%4294967296:Nat):Int) 0 ys (zs.drop j):=by
  rw[u32_mod];omega
 rw[hw]
 have hD:isD ((zs.take j++mulL ((X/4294967296^j%4294967296:Nat):Int) 0 ys (zs.drop j)).set (j+ys.length) (mulC ((X/4294967296^j%4294967296:Nat):Int) 0 ys (zs.drop j))):=
  isD_set (isD_app (isD_take hzD j) m1) m3 _
 rw[<-pd_lv (B:=4294967296) (by omega) hD,List.length_set,hlen]
 congr 1
 have hset:=lv_set 4294967296 (zs.take j++mulL ((X/4294967296^j%4294967296:Nat):Int) 0 ys (zs.drop j)) (j+ys.length) (mulC ((X/4294967296^j%4294967296:Nat):Int) 0 ys (zs.drop j)) (by rw[hlen];omega)
 have hold:(zs.take j++mulL ((X/4294967296^j%4294967296:Nat):Int) 0 ys (zs.drop j)).getD (j+ys.length) 0=0:=by
  rw[List.getD_eq_getElem?_getD,List.getElem?_append_right (by omega),hl1,Nat.add_sub_cancel_left,<-List.getD_eq_getElem?_getD,m5,List.getD_eq_getElem?_getD,List.getElem?_drop,<-List.getD_eq_getElem?_getD,hz0]
 rw[hold,Int.toNat_zero,Nat.zero_mul,Nat.add_zero]at hset
 rw[hset,lv_append,hl1,Nat.pow_add]
 have hsum:lv 4294967296 zs=lv 4294967296 (zs.take j)+4294967296^j*lv 4294967296 (zs.drop j):=lv_take_drop _ _ _ (by omega)
 rw[hyv,Int.toNat_natCast,Int.toNat_zero,Nat.add_zero]at m4
 rw[Nat.mod_pow_succ,Nat.add_mul,hA,<-hzv,hsum]
 generalize mulC ((X/4294967296^j%4294967296:Nat):Int) 0 ys (zs.drop j)=c at*
 generalize lv 4294967296 (mulL ((X/4294967296^j%4294967296:Nat):Int) 0 ys (zs.drop j))=M at*
 generalize lv 4294967296 (zs.drop j)=D at*
 generalize 4294967296^j=p at*
 generalize 4294967296^ys.length=q at*
 generalize X/p%4294967296=x at*
 have e1:p*(M+c.toNat*q)=p*(D+x*Y):=by rw[m4]
 rw[Nat.mul_add,Nat.mul_add]at e1
 rw[show c.toNat*(p*q)=p*(c.toNat*q) by rw[Nat.mul_left_comm],show p*x*Y=p*(x*Y) by rw[Nat.mul_assoc]]
 omega
def a77 (X Y j:Nat):LS:=t77 (dg 4294967296 X) (dg 4294967296 Y) (pd 4294967296 ((dg 4294967296 X).length+(dg 4294967296 Y).length) (X%4294967296^j*Y)) ((dg 4294967296 X).length+(dg 4294967296 Y).length) ((dg 4294967296 X).length:Nat) (j:Nat)
include hG in
theorem lps77 {m:Nat} (hm:m=0):LpsOK prog G pol77 f60.ntmps m [(11,l77i)] b77:=by
 subst hm
 exact qN (b:=b77i) (live:=[6,7,8,9,10,39,40,41,46,47,48]) (sp:=l77i) (by kernel_rfl) (by kernel_rfl) (by kernel_rfl) (loop77i hG)
include hG in
theorem goes77 (X Y:Nat) (hs:(dg 4294967296 X).length+(dg 4294967296 Y).length<=1073741824):Goes (Rnd prog G f60.ntmps 0 [6,7,39,40,41] b77) (a77 X Y 0) (.exit 0) (a77 X Y (dg 4294967296 X).length):=by
 refine Goes.count (a77 X Y) (e:=.exit 0) (by simp) (dg 4294967296 X).length 0 (fun j _ hj => ?_) ?_
 ·refine qb hG OrcOK.nil mix (L:=[(11,l77i)]) (pol:=pol77) (O:=[]) (lps77 hG rfl) (Nat.zero_le _) ?_
  obtain⟨m1,m2⟩:=mul_outer X Y j (by omega) _ rfl
  have hx:=dg_get (B:=4294967296) (n:=X) (i:=j) (by omega) (by omega)
  have hxr:X/4294967296^j%4294967296<4294967296:=Nat.mod_lt _ (by omega)
  have e0:0+(((j:Nat):Int)+((dg 4294967296 Y).length:Int)).toNat=j+(dg 4294967296 Y).length:=by omega
  have hq:qg (Q77i (dg 4294967296 X) (dg 4294967296 Y) (pd 4294967296 ((dg 4294967296 X).length+(dg 4294967296 Y).length) (X%4294967296^j*Y)) (dg 4294967296 Y) ((dg 4294967296 X).length+(dg 4294967296 Y).length) (j:Nat) ((dg 4294967296 X).getD j 0) 0 ((dg 4294967296 X).length:Nat) (j:Nat) ((dg 4294967296 Y).length:Nat) 0)=true:=
   decP_iff.2 ⟨rfl,⟨j,rfl,by rw[qn];omega⟩,(qn _ _ _).symm,hs,by rw[hx];omega,dg_isD _,isD_pd _ _,rfl,rfl,rfl,rfl⟩
  unfold a77
  rw[q77,Int.toNat_natCast,e0,m2,m1,k5 (kF (by omega)),k5 (by simp only[kD,kE];omega),k5 hq]
  repeat rw[k5 (by simp only[kD,kE,kH];omega)]
  rw[k7]
  rfl
 ·refine qb hG OrcOK.nil mix (L:=[(11,l77i)]) (pol:=pol77) (O:=[]) (lps77 hG rfl) (Nat.zero_le _) ?_
  rw[Nat.zero_add]
  unfold a77
  rw[q77,k6 (kG (by omega)),k7]
  rfl
def zM (xs ys:List Int):List Int:=hide (pd 4294967296 (xs.length+ys.length) (lv 4294967296 xs*lv 4294967296 ys))
def Q77 (xs ys xs' zs:List Int) (l:Nat) (n i:Int):Prop:=(∃ X Y,xs=dg 4294967296 X/\ys=dg 4294967296 Y)/\xs'=xs/\zs=List.replicate (xs.length+ys.length) 0/\l=xs.length+ys.length/\n=xs.length/\i=0/\xs.length+ys.length<=1073741824
def l77:qA:=fun ls K=>match ls with
 | ⟨[.lst 1 (.ints .u32 ys),.sl 0 1 0 l,.lst 1 (.ints .u32 xs),.i .i64 n,.i .i64 i],[some ⟨1,.ints .u32 zs⟩]⟩=>
  .br (qg (Q77 xs ys xs zs l n i)) (K (.exit 0) (t77 xs ys (zM xs ys) l n n)) (.no 1)
 | _=>.no 1
include hG in
theorem loop77:qz prog G f60.ntmps 0 [6,7,39,40,41] b77 l77:=by
 intro ls K x hm h
 unfold l77 at h
 split at h
 case h_2=>cases h
 rename_i ys l xs n i zs
 obtain⟨hc,hr⟩:=k8 h
 obtain⟨⟨X,Y,rfl,rfl⟩,_,rfl,rfl,rfl,rfl,hl⟩:=decP_iff.1 hc
 have g:=goes77 hG X Y hl
 have e0:a77 X Y 0=t77 (dg 4294967296 X) (dg 4294967296 Y) (List.replicate ((dg 4294967296 X).length+(dg 4294967296 Y).length) 0) ((dg 4294967296 X).length+(dg 4294967296 Y).length) ((dg 4294967296 X).length:Nat) 0:=by
  unfold a77
  rw[Nat.pow_zero,Nat.mod_one,Nat.zero_mul,pd_zero]
  rfl
 have e1:a77 X Y (dg 4294967296 X).length=t77 (dg 4294967296 X) (dg 4294967296 Y) (zM (dg 4294967296 X) (dg 4294967296 Y)) ((dg 4294967296 X).length+(dg 4294967296 Y).length) ((dg 4294967296 X).length:Nat) ((dg 4294967296 X).length:Nat):=by
  have hx:=dg_lt (B:=4294967296) (by omega) X
  unfold a77 zM
  rw[qh,lv_dg (by omega),lv_dg (by omega),Nat.mod_eq_of_lt hx]
 rw[e0,e1]at g
 exact⟨_,_,qx g,hr⟩
theorem p77 (a b:ByteArray):evF prog O108 [(7,l77),(11,l77i)] pol77 f60 [.s a,.s b] [] ql=
 Tr.br (ib ((↑(tr a).size:Int)+(↑(tr b).size:Int))) (.br (decide ((↑(tr a).size:Int)+(↑(tr b).size:Int)<=8)) (.br ((tr a).size.ble 8) (.br ((tr b).size.ble 8) (.br (decide (0<=(↑(val (tr a)):Int)*(↑(val (tr b)):Int))&&decide ((↑(val (tr a)):Int)*(↑(val (tr b)):Int)<=18446744073709551615)) (.br (ix ((↑(val (tr a)):Int)*(↑(val (tr b)):Int)) ((18446744073709551616:Int))) (.ok (.ret (.s (nb ((↑(val (tr a)):Int)*(↑(val (tr b)):Int)).toNat)) [])) (.no 1)) (.no 4003)) (.no 1)) (.no 1)) (.br ((tr a).size.ble 1073741824) (.br ((0+(wd (tr a)).length).ble (wd (tr a)).length) (.br ((tr b).size.ble 1073741824) (.br ((0+(wd (tr b)).length).ble (wd (tr b)).length) (.br (ib ((↑(tk0 (wd (tr a))).length:Int)+(↑(tk0 (wd (tr b))).length:Int))) (.br (decide ((↑(tk0 (wd (tr a))).length:Int)+(↑(tk0 (wd (tr b))).length:Int)=(↑(tk0 (wd (tr a))).length:Int)+(↑(tk0 (wd (tr b))).length:Int))&&decide (0<=(↑(tk0 (wd (tr a))).length:Int)+(↑(tk0 (wd (tr b))).length:Int))&&decide ((↑(tk0 (wd (tr a))).length:Int)+(↑(tk0 (wd (tr b))).length:Int)<=4294967296)&&prog.types[(158:Nat)].bytes.ble 1024) (.br (qg (Q77 (tk0 (wd (tr a))) (tk0 (wd (tr b))) (tk0 (wd (tr a))) (List.replicate ((↑(tk0 (wd (tr a))).length:Int)+(↑(tk0 (wd (tr b))).length:Int)).toNat (0:Int)) ((↑(tk0 (wd (tr a))).length:Int)+(↑(tk0 (wd (tr b))).length:Int)).toNat (↑(tk0 (wd (tr a))).length:Int) (0:Int))) (.br (((0:Nat)+((↑(tk0 (wd (tr a))).length:Int)+(↑(tk0 (wd (tr b))).length:Int)).toNat).ble (zM (tk0 (wd (tr a))) (tk0 (wd (tr b)))).length) (.br ((List.take ((↑(tk0 (wd (tr a))).length:Int)+(↑(tk0 (wd (tr b))).length:Int)).toNat (List.drop 0 (zM (tk0 (wd (tr a))) (tk0 (wd (tr b)))))).length.ble 268435456&&allD (List.take ((↑(tk0 (wd (tr a))).length:Int)+(↑(tk0 (wd (tr b))).length:Int)).toNat (List.drop 0 (zM (tk0 (wd (tr a))) (tk0 (wd (tr b))))))) (.ok (.ret (.s (tx (List.take ((↑(tk0 (wd (tr a))).length:Int)+(↑(tk0 (wd (tr b))).length:Int)).toNat (List.drop 0 (zM (tk0 (wd (tr a))) (tk0 (wd (tr b)))))))) [])) (.no 1)) (.no 20002)) (.no 1)) (.no 6002)) (.no 6003)) (.no 5003)) (.no 1)) (.no 5005)) (.no 1))) (.no 3002):=by kernel_rfl
def g77:Spec:=fun args hs K=>match args,hs with
 | [.s a,.s b],[]=>.br (bz a&&bz b) (K (.s (nb (bv a.data.toList*bv b.data.toList))) []) (.no 1)
 | _,_=>.no 1
include hG in
theorem gk77:qc prog G 60 g77:=by
 refine qq hG (orcN hG) mix enter77 (L:=[(7,l77),(11,l77i)]) (pol:=pol77) fun args hs K x h => ?_
 unfold g77 at h
 split at h
 case h_2=>cases h
 rename_i a b
 obtain⟨hc,hr⟩:=k8 h
 simp only[kD,bz_iff]at hc
 refine⟨lps2 (b1:=b77) (live1:=[6,7,39,40,41]) (sp1:=l77) (b2:=b77i) (live2:=[6,7,8,9,10,39,40,41,46,47,48]) (sp2:=l77i) (m:=0) (by kernel_rfl) (by kernel_rfl) (by kernel_rfl) (by kernel_rfl) (by kernel_rfl) (loop77 hG) (loop77i hG),_,_,_,?_,.refl _,hr⟩
 have sa:=tr_size a
 have sb:=tr_size b
 have la:=dg_len_size a
 have lb:=dg_len_size b
 rw[p77];try unfold tk0
 simp only[List.drop_zero,List.take_length,wd_tr,val_tr,u32_ty,Bool.and_true]
 rw[k5 (by simp only[kD,kE];omega)]
 have et:=tr_eq a
 have et':=tr_eq b
 generalize tr a=A at*
 generalize tr b=B at*
 generalize bv a.data.toList=X at*
 generalize bv b.data.toList=Y at*
 by_cases h8:A.size+B.size<=8
 ·have hm:X*Y<18446744073709551616:=mul_fit (by rw[<-et,<-et'];exact h8)
  simp only[<-Int.natCast_mul]
  repeat rw[k5 (by simp only[kD,kE,kH];omega)]
  rw[k7,Int.toNat_natCast]
 ·rw[k6 (kG (by omega))]
  have e:(((dg 4294967296 X).length:Int)+((dg 4294967296 Y).length:Int)).toNat=(dg 4294967296 X).length+(dg 4294967296 Y).length:=by omega
  have ez:zM (dg 4294967296 X) (dg 4294967296 Y)=pd 4294967296 ((dg 4294967296 X).length+(dg 4294967296 Y).length) (X*Y):=by
   unfold zM;rw[qh,lv_dg (by omega),lv_dg (by omega)]
  have hp:X*Y<4294967296^((dg 4294967296 X).length+(dg 4294967296 Y).length):=by
   have hx:=dg_lt (B:=4294967296) (by omega) X
   have hy:=dg_lt (B:=4294967296) (by omega) Y
   rw[Nat.pow_add]
   exact Nat.mul_lt_mul_of_lt_of_le hx (Nat.le_of_lt hy) (Nat.lt_of_le_of_lt (Nat.zero_le _) hy)
  have q:qg (Q77 (dg 4294967296 X) (dg 4294967296 Y) (dg 4294967296 X) (List.replicate ((dg 4294967296 X).length+(dg 4294967296 Y).length) 0) ((dg 4294967296 X).length+(dg 4294967296 Y).length) ((dg 4294967296 X).length:Nat) 0)=true:=
   decP_iff.2 ⟨⟨X,Y,rfl,rfl⟩,rfl,rfl,rfl,rfl,rfl,by omega⟩
  rw[e,ez,List.take_of_length_le (by rw[qn];exact Nat.le_refl _),qn,allD_pd,tx_eq,lv_pd (by omega) _ _ hp]
  rw[k5 (by rw[kH];omega),k5 (by rw[kH];omega),k5 (by rw[kH];omega),k5 (by rw[kH];omega),k5 (by simp only[kD,kE];omega),
   k5 (by simp only[kD,kE,decide_true,Bool.true_and];omega),k5 q,k5 (by rw[kH];omega),k5 (by rw[Bool.and_true,kH];omega),k7]
def b143:Code:=(qi (qd f188)).getD 0 .skip
def pol143:Pol:={live:=[(3,[0,1,2,7,8,13,14,15])]}
def t143 (vs L:List Int) (o l:Nat) (d c b n i:Int):LS:=⟨[.sl 0 1 o l,.lst 1 (.ints .u32 vs),.i .u64 d,.i .u64 c,.i .u64 b,.lst 1 (.ints .u32 vs),.i .i64 n,.i .i64 i],[some ⟨1,.ints .u32 L⟩]⟩
theorem q143 (vs L:List Int) (o l:Nat) (d c b n i:Int):qe prog [] [] pol143 f188.ntmps 1 [0,1,2,7,8,13,14,15] b143 (t143 vs L o l d c b n i)=
 Tr.br (decide (i<n)) (.br (ix (i) ((vs.length:Int))) (.br (decide (0<=d*IntKind.u64.wrap (vs.getD i.toNat 0))&&decide (d*IntKind.u64.wrap (vs.getD i.toNat 0)<=18446744073709551615)) (.br (decide (0<=c+d*IntKind.u64.wrap (vs.getD i.toNat 0))&&decide (c+d*IntKind.u64.wrap (vs.getD i.toNat 0)<=18446744073709551615)) (.br (ix (i) ((l:Int))) (.br ((o+i.toNat+1).ble L.length) (.br (decide ((0:Int)<=63)) (.br (ix (i) ((l:Int))) (.br ((o+i.toNat+1).ble L.length) (.br (decide ((0:Int)<=32)) (.br (ib (i+1)) (.ok (.out .normal (LS.mk [.sl 0 1 o l,.lst 1 (.ints .u32 vs),.i .u64 d,.i .u64 ((c+d*IntKind.u64.wrap (vs.getD i.toNat 0)).fdiv ((2:Int)^min (Int.toNat 32) IntKind.u64.bits)),.i .u64 ((IntKind.u64.wrap (IntKind.u64.wrap (IntKind.u64.wrap (L.getD (o+i.toNat) (0:Int))-IntKind.u64.wrap (IntKind.u32.wrap (c+d*IntKind.u64.wrap (vs.getD i.toNat 0))))-b)).fdiv ((2:Int)^min (Int.toNat 63) IntKind.u64.bits)),.lst 1 (.ints .u32 vs),.i .i64 n,.i .i64 (i+1)] [some (.mk 1 (.ints .u32 (L.set (o+i.toNat) (IntKind.u32.wrap (IntKind.u64.wrap (IntKind.u64.wrap (IntKind.u64.wrap (L.getD (o+i.toNat) (0:Int))-IntKind.u64.wrap (IntKind.u32.wrap (c+d*IntKind.u64.wrap (vs.getD i.toNat 0))))-b))))))]))) (.no 10002)) (.no 9002)) (.no 8002)) (.no 8003)) (.no 8004)) (.no 7009)) (.no 7010)) (.no 6002)) (.no 6003)) (.no 5004)) (.ok (.out (.exit 0) (LS.mk [.sl 0 1 o l,.lst 1 (.ints .u32 vs),.i .u64 d,.i .u64 c,.i .u64 b,.lst 1 (.ints .u32 vs),.i .i64 n,.i .i64 i] [some (.mk 1 (.ints .u32 L))]))):=by kernel_rfl
def b144:Code:=(qi (qd f189)).getD 0 .skip
def pol144:Pol:={live:=[(2,[0,1,4,7,8,9])]}
def t144 (vs L:List Int) (o l:Nat) (c n i:Int):LS:=⟨[.sl 0 1 o l,.lst 1 (.ints .u32 vs),.i .u64 c,.lst 1 (.ints .u32 vs),.i .i64 n,.i .i64 i],[some ⟨1,.ints .u32 L⟩]⟩
theorem q144 (vs L:List Int) (o l:Nat) (c n i:Int):qe prog [] [] pol144 f189.ntmps 1 [0,1,4,7,8,9] b144 (t144 vs L o l c n i)=
 Tr.br (decide (i<n)) (.br (ix (i) ((vs.length:Int))) (.br (ix (i) ((l:Int))) (.br ((o+i.toNat+1).ble L.length) (.br (decide (0<=IntKind.u64.wrap (L.getD (o+i.toNat) (0:Int))+IntKind.u64.wrap (vs.getD i.toNat 0))&&decide (IntKind.u64.wrap (L.getD (o+i.toNat) (0:Int))+IntKind.u64.wrap (vs.getD i.toNat 0)<=18446744073709551615)) (.br (decide (0<=c+(IntKind.u64.wrap (L.getD (o+i.toNat) (0:Int))+IntKind.u64.wrap (vs.getD i.toNat 0)))&&decide (c+(IntKind.u64.wrap (L.getD (o+i.toNat) (0:Int))+IntKind.u64.wrap (vs.getD i.toNat 0))<=18446744073709551615)) (.br (ix (i) ((l:Int))) (.br ((o+i.toNat+1).ble L.length) (.br (decide ((0:Int)<=32)) (.br (ib (i+1)) (.ok (.out .normal (LS.mk [.sl 0 1 o l,.lst 1 (.ints .u32 vs),.i .u64 ((c+(IntKind.u64.wrap (L.getD (o+i.toNat) (0:Int))+IntKind.u64.wrap (vs.getD i.toNat 0))).fdiv ((2:Int)^min (Int.toNat 32) IntKind.u64.bits)),.lst 1 (.ints .u32 vs),.i .i64 n,.i .i64 (i+1)] [some (.mk 1 (.ints .u32 (L.set (o+i.toNat) (IntKind.u32.wrap (c+(IntKind.u64.wrap (L.getD (o+i.toNat) (0:Int))+IntKind.u64.wrap (vs.getD i.toNat 0)))))))]))) (.no 8002)) (.no 7002)) (.no 6001)) (.no 6002)) (.no 5002)) (.no 5003)) (.no 5007)) (.no 5008)) (.no 4004)) (.ok (.out (.exit 0) (LS.mk [.sl 0 1 o l,.lst 1 (.ints .u32 vs),.i .u64 c,.lst 1 (.ints .u32 vs),.i .i64 n,.i .i64 i] [some (.mk 1 (.ints .u32 L))]))):=by kernel_rfl
def b142:Code:=(qi (qd f187)).getD 0 .skip
def pol142:Pol:={live:=[(3,[1,5,13,14,15])]}
def t142 (xs L:List Int) (l:Nat) (by_ n i:Int):LS:=⟨[.i .i64 by_,.sl 0 1 0 l,.lst 1 (.ints .u32 xs),.i .i64 n,.i .i64 i],[some ⟨1,.ints .u32 L⟩]⟩
theorem q142 (xs L:List Int) (l:Nat) (by_ n i:Int):qe prog [] [] pol142 f187.ntmps 0 [1,5,13,14,15] b142 (t142 xs L l by_ n i)=
 Tr.br (decide (i<n)) (.br (ix (i) ((xs.length:Int))) (.br (decide (0<=by_)) (.br (ix (i) ((l:Int))) (.br ((0+i.toNat+1).ble L.length) (.br (ix (i) ((l:Int))) (.br ((0+i.toNat+1).ble L.length) (.br (ib (i+1)) (.br (decide ((0:Int)<=32)) (.br (ix (i+1) ((l:Int))) (.br ((0+(i+1).toNat+1).ble (L.set (0+i.toNat) (IntKind.u32.wrap (↑(BitVec.ofInt IntKind.u32.bits (L.getD (0+i.toNat) (0:Int)) ||| BitVec.ofInt IntKind.u32.bits (IntKind.u32.wrap (IntKind.u64.wrap (IntKind.u64.wrap (xs.getD i.toNat 0)*2^min by_.toNat IntKind.u64.bits)))).toNat:Int))).length) (.br (ib (i+1)) (.ok (.out .normal (LS.mk [.i .i64 by_,.sl 0 1 0 l,.lst 1 (.ints .u32 xs),.i .i64 n,.i .i64 (i+1)] [some (.mk 1 (.ints .u32 ((L.set (0+i.toNat) (IntKind.u32.wrap (↑(BitVec.ofInt IntKind.u32.bits (L.getD (0+i.toNat) (0:Int)) ||| BitVec.ofInt IntKind.u32.bits (IntKind.u32.wrap (IntKind.u64.wrap (IntKind.u64.wrap (xs.getD i.toNat 0)*2^min by_.toNat IntKind.u64.bits)))).toNat:Int))).set (0+(i+1).toNat) (IntKind.u32.wrap ((IntKind.u64.wrap (IntKind.u64.wrap (xs.getD i.toNat 0)*2^min by_.toNat IntKind.u64.bits)).fdiv ((2:Int)^min (Int.toNat 32) IntKind.u64.bits))))))]))) (.no 9002)) (.no 8001)) (.no 8002)) (.no 8004)) (.no 8006)) (.no 7001)) (.no 7002)) (.no 7006)) (.no 7007)) (.no 6002)) (.no 5004)) (.ok (.out (.exit 0) (LS.mk [.i .i64 by_,.sl 0 1 0 l,.lst 1 (.ints .u32 xs),.i .i64 n,.i .i64 i] [some (.mk 1 (.ints .u32 L))]))):=by kernel_rfl
def segV (o n:Nat) (L:List Int):Nat:=lv 4294967296 ((L.drop o).take n)
def putSeg (o n:Nat) (L:List Int) (v:Nat):List Int:=L.take o++pd 4294967296 n v++L.drop (o+n)
theorem putSeg_of {F L:List Int} {o n v:Nat} (hl:F.length=L.length) (h1:F.take o=L.take o) (h2:F.drop (o+n)=L.drop (o+n)) (hD:isD F) (ho:o+n<=L.length) (hv:segV o n F=v):F=putSeg o n L v:=by
 have hm:(F.drop o).take n=pd 4294967296 n v:=by
  have hd:isD ((F.drop o).take n):=isD_take (isD_drop hD o) n
  have:=pd_lv (B:=4294967296) (by omega) hd
  rw[List.length_take,List.length_drop,Nat.min_eq_left (by omega)]at this
  rw[<-this]
  exact congrArg _ hv
 unfold putSeg
 rw[<-hm,<-h1,<-h2,List.append_assoc,<-List.drop_drop,List.take_append_drop,List.take_append_drop]
theorem putSeg_len {o n v:Nat} {L:List Int} (ho:o+n<=L.length):(putSeg o n L v).length=L.length:=by
 unfold putSeg
 rw[List.length_append,List.length_append,List.length_take,List.length_drop,qn];omega
theorem isD_putSeg {o n v:Nat} {L:List Int} (h:isD L):isD (putSeg o n L v):=isD_app (isD_app (isD_take h o) (isD_pd _ _)) (isD_drop h _)
theorem lv_split (B:Nat) (L:List Int) (o n:Nat) (h:o+n<=L.length):lv B (L.drop o)=lv B ((L.drop o).take n)+B^n*lv B (L.drop (o+n)):=by
 have:=lv_take_drop B (L.drop o) n (by rw[List.length_drop];omega)
 rwa[List.drop_drop]at this
theorem segV_lt {L:List Int} (h:isD L) (o n:Nat):segV o n L<4294967296^n:=by
 have h1:=lv_lt (B:=4294967296) (xs:=(L.drop o).take n) fun x hx=>by have:=isD_take (isD_drop h o) n x hx;omega
 exact Nat.lt_of_lt_of_le h1 (Nat.pow_le_pow_right (by omega) (by rw[List.length_take];omega))
def tkL (d:Int):Int->Int->List Int->List Int->List Int
 | _,_,[],us=>us
 | _,_,_::_,[]=>[]
 | c,b,v::vs,u::us=>((u-(c+d*v)%4294967296-b)%4294967296)::tkL d ((c+d*v)/4294967296) (if u-(c+d*v)%4294967296-b<0 then 1 else 0) vs us
def tkC (d:Int):Int->List Int->Int
 | c,[]=>c
 | c,v::vs=>tkC d ((c+d*v)/4294967296) vs
def tkB (d:Int):Int->Int->List Int->List Int->Int
 | _,b,[],_=>b
 | _,b,_::_,[]=>b
 | c,b,v::vs,u::us=>tkB d ((c+d*v)/4294967296) (if u-(c+d*v)%4294967296-b<0 then 1 else 0) vs us
theorem tk_step {d v c:Int} (hd:0<=d/\d<4294967296) (hv:0<=v/\v<4294967296) (hc:0<=c/\c<4294967296):0<=d*v/\d*v<=18446744065119617025/\0<=(c+d*v)/4294967296/\(c+d*v)/4294967296<4294967296:=by
 have h1:0<=d*v:=Int.mul_nonneg hd.1 hv.1
 have h2:d*v<=4294967295*4294967295:=Int.mul_le_mul (by omega) (by omega) hv.1 (by omega)
 exact⟨h1,by omega,by omega,by omega⟩
theorem tkL_ok {d:Int} (hd:0<=d/\d<4294967296):∀ (vs us:List Int) (c b:Int),0<=c/\c<4294967296->0<=b/\b<=1->isD vs->isD us->vs.length<=us.length->
  isD (tkL d c b vs us)/\(tkL d c b vs us).length=us.length/\(0<=tkC d c vs/\tkC d c vs<4294967296)/\(0<=tkB d c b vs us/\tkB d c b vs us<=1)/\
  ((lv 4294967296 (tkL d c b vs us):Nat):Int)+d*((lv 4294967296 vs:Nat):Int)+c+b=((lv 4294967296 us:Nat):Int)+(tkC d c vs+tkB d c b vs us)*((4294967296^vs.length:Nat):Int)
 | [],us,c,b,hc,hb,_,hu,_=>by
  refine⟨hu,rfl,hc,hb,?_⟩
  simp only[tkL,tkC,tkB,lv,kJ,Nat.pow_zero]
  omega
 | _::_,[],_,_,_,_,_,_,hl=>by simp at hl
 | v::vs,u::us,c,b,hc,hb,hv,hu,hl=>by
  have hv0:=hv v (by simp)
  have hu0:=hu u (by simp)
  obtain⟨s1,s2,s3,s4⟩:=tk_step hd hv0 hc
  obtain⟨i1,i2,i3,i4,i5⟩:=tkL_ok hd vs us ((c+d*v)/4294967296) (if u-(c+d*v)%4294967296-b<0 then 1 else 0) ⟨s3,s4⟩ (by split<;>omega) (fun a ha=>hv a (by simp[ha])) (fun a ha=>hu a (by simp[ha])) (by simpa using hl)
  refine⟨?_,by simp[tkL,i2],i3,i4,?_⟩
  ·intro a ha
   simp only[tkL,List.mem_cons]at ha
   rcases ha with rfl|ha
   ·omega
   ·exact i1 a ha
  ·simp only[tkL,tkC,tkB,lv,kI,Nat.pow_succ]
   have e1:d*((v.toNat+4294967296*lv 4294967296 vs:Nat):Int)=d*v+4294967296*(d*((lv 4294967296 vs:Nat):Int)):=by
    rw[Int.natCast_add,Int.natCast_mul,Int.mul_add,Int.toNat_of_nonneg hv0.1,Int.mul_left_comm];rfl
   have e:∀ z:Int,z*((4294967296^vs.length*4294967296:Nat):Int)=4294967296*(z*((4294967296^vs.length:Nat):Int)):=fun z=>by
    rw[Int.natCast_mul,<-Int.mul_assoc,Int.mul_comm];rfl
   rw[e,e1]
   generalize d*v=p at*
   generalize (tkC d ((c+p)/4294967296) vs+tkB d ((c+p)/4294967296) (if u-(c+p)%4294967296-b<0 then 1 else 0) vs us)*((4294967296^vs.length:Nat):Int)=q at*
   generalize lv 4294967296 (tkL d ((c+p)/4294967296) (if u-(c+p)%4294967296-b<0 then 1 else 0) vs us)=r at*
   generalize d*((lv 4294967296 vs:Nat):Int)=t at*
   split at i5<;>omega
theorem tkL_high (d:Int):∀ (vs us:List Int) (c b:Int),vs.length<=us.length->(tkL d c b vs us).drop vs.length=us.drop vs.length
 | [],us,c,b,_=>rfl
 | _::_,[],_,_,hl=>by simp at hl
 | v::vs,u::us,c,b,hl=>by
  simp only[tkL,kI,List.drop_succ_cons]
  exact tkL_high d vs us _ _ (by simpa using hl)
theorem wrap3 {x y z:Int} (hx:0<=x/\x<4294967296) (hy:0<=y/\y<4294967296) (hz:0<=z/\z<=1):
  IntKind.u32.wrap (IntKind.u64.wrap (IntKind.u64.wrap (x-y)-z))=(x-y-z)%4294967296/\
  (IntKind.u64.wrap (IntKind.u64.wrap (x-y)-z)).fdiv ((2:Int)^min (Int.toNat (63:Int)) IntKind.u64.bits)=if x-y-z<0 then 1 else 0:=by
 have e:(2:Int)^min (Int.toNat (63:Int)) IntKind.u64.bits=9223372036854775808:=by decide
 rw[e,Int.fdiv_eq_ediv_of_nonneg _ (by omega)]
 simp only[IntKind.wrap_u32',IntKind.wrap_u64]
 constructor
 ·omega
 ·split<;>omega
theorem step143 (vs pre us vt:List Int) (u v:Int) (o l i:Nat) (d c b:Int) (hk:vs.drop i=v::vt) (hp:pre.length=o+i) (hil:i<l) (hl:l<=1073741824) (hvl:vs.length<=1073741824)
  (hd:0<=d/\d<4294967296) (hv:0<=v/\v<4294967296) (hu:0<=u/\u<4294967296) (hc:0<=c/\c<4294967296) (hb:0<=b/\b<=1):
  (qe prog [] [] pol143 f188.ntmps 1 [0,1,2,7,8,13,14,15] b143 (t143 vs (pre++u::us) o l d c b (vs.length:Nat) (i:Nat))).run=
   some (.out .normal (t143 vs ((pre++[(u-(c+d*v)%4294967296-b)%4294967296])++us) o l d ((c+d*v)/4294967296) (if u-(c+d*v)%4294967296-b<0 then 1 else 0) (vs.length:Nat) ((i+1:Nat):Int))):=by
 obtain⟨hk1,hk2,_⟩:=drop_cons hk
 obtain⟨s1,s2,s3,s4⟩:=tk_step hd hv hc
 have hlen:(pre++u::us).length=o+i+1+us.length:=by simp[hp];omega
 have w:=wrap3 (x:=u) (y:=(c+d*v)%4294967296) (z:=b) hu (by omega) hb
 rw[q143,Int.toNat_natCast,getD_of hk2,<-hp,getD_app,u64_id hv.1 (by omega),u64_id hu.1 (by omega),u32_mod (n:=c+d*v),u64_id (n:=(c+d*v)%4294967296) (by omega) (by omega),w.1,w.2,fd32]
 repeat rw[k5 (by simp only[kD,kE,kH];omega)]
 rw[k7,set_app]
 unfold t143
 rw[List.append_assoc]
 rfl
include hG in
theorem goes143 (vs:List Int) (o l:Nat) (d:Int) (hl:l<=1073741824) (hvl:vs.length<=1073741824) (hd:0<=d/\d<4294967296) (hv:isD vs) (hvl2:vs.length<=l):∀ (vt pre us:List Int) (i:Nat) (c b:Int),vs.drop i=vt->pre.length=o+i->i+vt.length=vs.length->
  isD us->vt.length<=us.length->0<=c/\c<4294967296->0<=b/\b<=1->
  Goes (Rnd prog G f188.ntmps 1 [0,1,2,7,8,13,14,15] b143) (t143 vs (pre++us) o l d c b (vs.length:Nat) (i:Nat)) (.exit 0) (t143 vs (pre++tkL d c b vt us) o l d (tkC d c vt) (tkB d c b vt us) (vs.length:Nat) (vs.length:Nat))
 | [],pre,us,i,c,b,_,_,hkl,_,_,_,_=>by
  refine .last _ _ _ (qb hG OrcOK.nil mix (L:=[]) (pol:=pol143) (O:=[]) (kA (by kernel_rfl)) (Nat.le_refl _) ?_) (by simp)
  simp only[kJ,Nat.add_zero]at hkl
  subst hkl
  rw[q143,k6 (kG (by omega)),k7]
  rfl
 | v::vt,pre,[],i,c,b,_,_,_,_,hle,_,_=>by simp at hle
 | v::vt,pre,u::us,i,c,b,hk,hp,hkl,hu,hle,hc,hb=>by
  have hu0:=hu u (by simp)
  obtain⟨_,hk2,hk3⟩:=drop_cons hk
  have hv0:=hv v (List.mem_of_getElem? hk2)
  obtain⟨s1,s2,s3,s4⟩:=tk_step hd hv0 hc
  simp only[kI]at hkl
  refine .more _ _ _ _ (qb hG OrcOK.nil mix (L:=[]) (pol:=pol143) (O:=[]) (kA (by kernel_rfl)) (Nat.le_refl _) (step143 vs pre us vt u v o l i d c b hk hp (by omega) hl hvl hd hv0 hu0 hc hb)) ?_
  have ih:=goes143 vs o l d hl hvl hd hv hvl2 vt (pre++[(u-(c+d*v)%4294967296-b)%4294967296]) us (i+1) ((c+d*v)/4294967296) (if u-(c+d*v)%4294967296-b<0 then 1 else 0) hk3 (by simp[hp];omega) (by omega) (fun a ha=>hu a (by simp[ha])) (by simpa using hle) ⟨s3,s4⟩ (by split<;>omega)
  have e:(pre++[(u-(c+d*v)%4294967296-b)%4294967296])++tkL d ((c+d*v)/4294967296) (if u-(c+d*v)%4294967296-b<0 then 1 else 0) vt us=pre++tkL d c b (v::vt) (u::us):=by simp[tkL]
  rw[e]at ih
  exact ih
def Q143 (vs vs' L:List Int) (o l:Nat) (d c b n i:Int):Prop:=vs'=vs/\vs.length<=l/\l<=1073741824/\o+l<=L.length/\(0<=d/\d<4294967296)/\isD vs/\isD L/\c=0/\b=0/\n=vs.length/\i=0
def kL (d:Int) (vs L:List Int) (o:Nat):List Int:=hide (L.take o++tkL d 0 0 vs (L.drop o))
def kC (d:Int) (vs:List Int):Int:=hide (tkC d 0 vs)
def kB (d:Int) (vs L:List Int) (o:Nat):Int:=hide (tkB d 0 0 vs (L.drop o))
def l143:qA:=fun ls K=>match ls with
 | ⟨[.sl 0 1 o l,.lst 1 (.ints .u32 vs),.i .u64 d,.i .u64 c,.i .u64 b,.lst 1 (.ints .u32 vs'),.i .i64 n,.i .i64 i],[some ⟨1,.ints .u32 L⟩]⟩=>
  .br (qg (Q143 vs vs' L o l d c b n i)) (K (.exit 0) (t143 vs (kL d vs L o) o l d (kC d vs) (kB d vs L o) n n)) (.no 1)
 | _=>.no 1
include hG in
theorem loop143:qz prog G f188.ntmps 1 [0,1,2,7,8,13,14,15] b143 l143:=by
 intro ls K r hm h
 unfold l143 at h
 split at h
 case h_2=>cases h
 rename_i o l vs d c b vs' n i L
 obtain⟨hc,hr⟩:=k8 h
 obtain⟨rfl,h1,h2,h3,h4,h5,h6,rfl,rfl,rfl,rfl⟩:=decP_iff.1 hc
 have g:=goes143 hG vs' o l d h2 (by omega) h4 h5 h1 vs' (L.take o) (L.drop o) 0 0 0 rfl (by rw[List.length_take];omega) (by omega) (isD_drop h6 o) (by rw[List.length_drop];omega) ⟨by omega,by omega⟩ ⟨by omega,by omega⟩
 rw[List.take_append_drop]at g
 unfold kL kC kB at hr
 rw[qh,qh,qh]at hr
 exact⟨_,_,qx g,hr⟩
theorem enter143:Enters prog 188 f188 (qd f188):=⟨func188,by kernel_rfl,rfl⟩
theorem p143 (vs L:List Int) (o l:Nat) (d:Int):evF prog [] [(3,l143)] pol143 f188 [.sl 0 1 o l,.lst 1 (.ints .u32 vs),.i .u64 d] [⟨1,.ints .u32 L⟩] ql=
 Tr.br (qg (Q143 vs vs L o l d (0:Int) (0:Int) (vs.length:Int) (0:Int))) (.br (ix ((vs.length:Int)) ((l:Int))) (.br ((o+(vs.length:Int).toNat+1).ble (kL d vs L o).length) (.br (ix ((vs.length:Int)) ((l:Int))) (.br ((o+(vs.length:Int).toNat+1).ble (kL d vs L o).length) (.br (decide ((0:Int)<=63)) (.ok (.ret (.b (decide (0<(IntKind.u64.wrap (IntKind.u64.wrap (IntKind.u64.wrap ((kL d vs L o).getD (o+(vs.length:Int).toNat) (0:Int))-kC d vs)-kB d vs L o)).fdiv ((2:Int)^min (Int.toNat 63) IntKind.u64.bits)))) [Blk.mk 1 (.ints .u32 ((kL d vs L o).set (o+(vs.length:Int).toNat) (IntKind.u32.wrap (IntKind.u64.wrap (IntKind.u64.wrap (IntKind.u64.wrap ((kL d vs L o).getD (o+(vs.length:Int).toNat) (0:Int))-kC d vs)-kB d vs L o)))))])) (.no 13003)) (.no 12001)) (.no 12002)) (.no 11007)) (.no 11008)) (.no 1):=by kernel_rfl
def tkV (n:Nat) (d:Int) (V U:Nat):Nat:=if U<d.toNat*V then U+4294967296^n-d.toNat*V else U-d.toNat*V
theorem tk_fin {vs L:List Int} {o:Nat} {d:Int} (hd:0<=d/\d<4294967296) (hv:isD vs) (hL:isD L) (ho:o+(vs.length+1)<=L.length):
  (L.take o++tkL d 0 0 vs (L.drop o)).set (o+vs.length) (((L.take o++tkL d 0 0 vs (L.drop o)).getD (o+vs.length) 0-tkC d 0 vs-tkB d 0 0 vs (L.drop o))%4294967296)=putSeg o (vs.length+1) L (tkV (vs.length+1) d (lv 4294967296 vs) (segV o (vs.length+1) L))/\
  (0<=(L.take o++tkL d 0 0 vs (L.drop o)).getD (o+vs.length) 0/\(L.take o++tkL d 0 0 vs (L.drop o)).getD (o+vs.length) 0<4294967296)/\
  ((L.take o++tkL d 0 0 vs (L.drop o)).getD (o+vs.length) 0-tkC d 0 vs-tkB d 0 0 vs (L.drop o)<0↔segV o (vs.length+1) L<d.toNat*lv 4294967296 vs):=by
 obtain⟨t1,t2,t3,t4,t5⟩:=tkL_ok hd vs (L.drop o) 0 0 ⟨by omega,by omega⟩ ⟨by omega,by omega⟩ hv (isD_drop hL o) (by rw[List.length_drop];omega)
 have t6:=tkL_high d vs (L.drop o) 0 0 (by rw[List.length_drop];omega)
 have lo:(L.take o).length=o:=by rw[List.length_take];omega
 generalize tkL d 0 0 vs (L.drop o)=T at*
 generalize tkC d 0 vs=C at*
 generalize tkB d 0 0 vs (L.drop o)=Bw at*
 have lT:T.length=L.length-o:=by rw[t2,List.length_drop]
 have g0:(L.take o++T).getD (o+vs.length) 0=T.getD vs.length 0:=by
  rw[List.getD_eq_getElem?_getD,List.getElem?_append_right (by omega),lo,Nat.add_sub_cancel_left,<-List.getD_eq_getElem?_getD]
 have gT:0<=T.getD vs.length 0/\T.getD vs.length 0<4294967296:=by
  rw[List.getD_eq_getElem?_getD,List.getElem?_eq_getElem (show vs.length<T.length by omega)]
  exact t1 _ (List.getElem_mem _)
 rw[g0]
 have eset:(L.take o++T).set (o+vs.length) ((T.getD vs.length 0-C-Bw)%4294967296)=L.take o++T.set vs.length ((T.getD vs.length 0-C-Bw)%4294967296):=by
  rw[List.set_append_right _ _ (by omega),lo,Nat.add_sub_cancel_left]
 rw[eset]
 have hS:=lv_set 4294967296 T vs.length ((T.getD vs.length 0-C-Bw)%4294967296) (by omega)
 have dS:isD (T.set vs.length ((T.getD vs.length 0-C-Bw)%4294967296)):=isD_set t1 (by omega) _
 generalize hS':T.set vs.length ((T.getD vs.length 0-C-Bw)%4294967296)=S at*
 have lS:S.length=L.length-o:=by rw[<-hS',List.length_set,lT]
 have hdropS:S.drop (vs.length+1)=L.drop (o+(vs.length+1)):=by
  rw[<-hS',List.drop_set_of_lt (by omega),<-List.drop_drop,t6,List.drop_drop,List.drop_drop]
 have sp1:=lv_take_drop 4294967296 S (vs.length+1) (by omega)
 have sp2:=lv_split 4294967296 L o (vs.length+1) ho
 rw[hdropS]at sp1
 have b1:lv 4294967296 (S.take (vs.length+1))<4294967296^(vs.length+1):=by
  have h1:=lv_lt (B:=4294967296) (xs:=S.take (vs.length+1)) fun x hx=>by have:=isD_take dS (vs.length+1) x hx;omega
  exact Nat.lt_of_lt_of_le h1 (Nat.pow_le_pow_right (by omega) (by rw[List.length_take];omega))
 have b2:=segV_lt hL o (vs.length+1)
 have eseg:segV o (vs.length+1) (L.take o++S)=lv 4294967296 (S.take (vs.length+1)):=by
  unfold segV
  rw[List.drop_append_of_le_length (by omega),List.drop_eq_nil_of_le (by omega),List.nil_append]
 have fU:lv 4294967296 ((L.drop o).take (vs.length+1))=segV o (vs.length+1) L:=rfl
 rw[fU]at sp2
 -- values
 have hdv:d*((lv 4294967296 vs:Nat):Int)=((d.toNat*lv 4294967296 vs:Nat):Int):=by
  rw[Int.natCast_mul,Int.toNat_of_nonneg hd.1]
 rw[hdv]at t5
 have f2:((lv 4294967296 S:Nat):Int)+(T.getD vs.length 0).toNat*((4294967296^vs.length:Nat):Int)=((lv 4294967296 T:Nat):Int)+((T.getD vs.length 0-C-Bw)%4294967296).toNat*((4294967296^vs.length:Nat):Int):=by
  have:=congrArg (fun n:Nat=>(n:Int)) hS
  simp only[Int.natCast_add,Int.natCast_mul]at this
  exact this
 rw[Int.toNat_of_nonneg gT.1]at f2
 have fin:∀ e:Int,(e=0\/e=1)->(((T.getD vs.length 0-C-Bw)%4294967296).toNat:Int)=T.getD vs.length 0-C-Bw+e*4294967296->
   (lv 4294967296 (S.take (vs.length+1)):Int)=(segV o (vs.length+1) L:Int)-((d.toNat*lv 4294967296 vs:Nat):Int)+(if e=0 then 0 else ((4294967296^(vs.length+1):Nat):Int)):=by
  intro e he h
  rw[h]at f2
  rw[sp1]at f2
  rw[sp2]at t5
  rw[Nat.pow_succ]at f2 t5 ⊢
  generalize 4294967296^vs.length*4294967296*lv 4294967296 (L.drop (o+(vs.length+1)))=W at*
  generalize segV o (vs.length+1) L=U at*
  generalize lv 4294967296 (S.take (vs.length+1))=M at*
  generalize d.toNat*lv 4294967296 vs=D at*
  generalize T.getD vs.length 0=tn at*
  generalize 4294967296^vs.length=q at*
  rw[Int.add_mul,Int.sub_mul,Int.sub_mul]at f2
  rw[Int.add_mul]at t5
  generalize tn*(q:Int)=x1 at*
  generalize C*(q:Int)=x2 at*
  generalize Bw*(q:Int)=x3 at*
  rcases he with rfl|rfl
  ·rw[if_pos rfl];omega
  ·rw[if_neg (by decide)];omega
 have hdo:(L.take o++S).drop o=S:=by rw[List.drop_append_of_le_length (by omega),List.drop_eq_nil_of_le (by omega),List.nil_append]
 have hdo2:(L.take o++S).drop (o+(vs.length+1))=L.drop (o+(vs.length+1)):=by
  have:=List.drop_drop (l:=L.take o++S) (i:=vs.length+1) (j:=o)
  rw[hdo,hdropS]at this
  exact this.symm
 have hput:∀ v,lv 4294967296 (S.take (vs.length+1))=v->L.take o++S=putSeg o (vs.length+1) L v:=fun v hv'=>
  putSeg_of (by rw[List.length_append,lo,lS];omega) (by rw[List.take_append_of_le_length (by omega),List.take_of_length_le (by omega)]) hdo2 (isD_app (isD_take hL o) dS) ho (by rw[eseg,hv'])
 unfold tkV
 by_cases hn:T.getD vs.length 0-C-Bw<0
 ·have h1:=fin 1 (.inr rfl) (by omega)
  rw[if_neg (by decide)]at h1
  have hlt:segV o (vs.length+1) L<d.toNat*lv 4294967296 vs:=by omega
  refine⟨hput _ ?_,gT,fun _=>hlt,fun _=>hn⟩
  rw[if_pos hlt];omega
 ·have h1:=fin 0 (.inl rfl) (by omega)
  rw[if_pos rfl]at h1
  have hlt:¬ segV o (vs.length+1) L<d.toNat*lv 4294967296 vs:=by omega
  refine⟨hput _ ?_,gT,fun h=>absurd h hn,fun h=>absurd h hlt⟩
  rw[if_neg hlt];omega
def g143:Spec:=fun args hs K=>match args,hs with
 | [.sl 0 1 o l,.lst 1 (.ints .u32 vs),.i .u64 d],[⟨1,.ints .u32 L⟩]=>.br (decide (l=vs.length+1)&&decide (o+l<=L.length)&&decide (L.length<=1073741824)&&decide (0<=d)&&decide (d<4294967296)&&allD vs&&allD L)
   (K (.b (decide (segV o l L<d.toNat*lv 4294967296 vs))) [⟨1,.ints .u32 (putSeg o l L (tkV l d (lv 4294967296 vs) (segV o l L)))⟩]) (.no 1)
 | _,_=>.no 1
include hG in
theorem gk143:qc prog G 188 g143:=by
 refine qq hG OrcOK.nil mix enter143 (L:=[(3,l143)]) (pol:=pol143) fun args hs K x h => ?_
 unfold g143 at h
 split at h
 case h_2=>cases h
 rename_i o l vs d L
 obtain⟨hc,hr⟩:=k8 h
 simp only[kD,kE,allD_iff]at hc
 obtain⟨⟨⟨⟨⟨⟨rfl,h1⟩,h2⟩,h3⟩,h4⟩,h5⟩,h6⟩:=hc
 refine⟨qN (b:=b143) (live:=[0,1,2,7,8,13,14,15]) (sp:=l143) (m:=1) (by kernel_rfl) (by kernel_rfl) (by kernel_rfl) (loop143 hG),?_⟩
 obtain⟨f1,f2,f3⟩:=tk_fin ⟨h3,h4⟩ h5 h6 h1
 obtain⟨t1,t2,t3,t4,t5⟩:=tkL_ok ⟨h3,h4⟩ vs (L.drop o) 0 0 ⟨by omega,by omega⟩ ⟨by omega,by omega⟩ h5 (isD_drop h6 o) (by rw[List.length_drop];omega)
 have hlen:(L.take o++tkL d 0 0 vs (L.drop o)).length=L.length:=by rw[List.length_append,t2,List.length_take,List.length_drop];omega
 rw[p143]
 unfold kL kC kB
 simp only[qh,Int.toNat_natCast]
 have w:=wrap3 f2 t3 t4
 rw[u64_id f2.1 (by omega),w.1,w.2,f1]
 rw[k5 (decP_iff.2 ⟨rfl,by omega,by omega,by omega,⟨h3,h4⟩,h5,h6,rfl,rfl,rfl,rfl⟩)]
 repeat rw[k5 (by simp only[kD,kE,kH];omega)]
 refine⟨_,_,_,k7,?_,hr⟩
 have e:decide (0<(if (L.take o++tkL d 0 0 vs (L.drop o)).getD (o+vs.length) 0-tkC d 0 vs-tkB d 0 0 vs (L.drop o)<0 then (1:Int)else 0))=decide (segV o (vs.length+1) L<d.toNat*lv 4294967296 vs):=by
  by_cases hn:(L.take o++tkL d 0 0 vs (L.drop o)).getD (o+vs.length) 0-tkC d 0 vs-tkB d 0 0 vs (L.drop o)<0
  ·rw[if_pos hn,kF (f3.1 hn)];rfl
  ·rw[if_neg hn,kG (fun h=>hn (f3.2 h))];rfl
 rw[e]
 exact .refl _
end
end Go.Proofs.YteggojnjinealaaGreatDoor.PE
