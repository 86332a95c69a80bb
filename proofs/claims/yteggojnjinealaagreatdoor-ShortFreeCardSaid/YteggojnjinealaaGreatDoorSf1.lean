/-
  Part 1 of the proof: the evaluator and what it is worth. Conditions: those of the theorems below.
-/
import Derived.Calls
import Derived.Orders
import Derived.Laws.World
import Derived.Deep.MidRow
import Derived.Laws.MakeOwn
import Derived.Lib.ConvBytes
import Derived.Laws.Slices
import Derived.Laws.BytesString
import Derived.Laws.StructEq
import Derived.Laws.Cover3
set_option linter.all false
noncomputable section
namespace Go.Proofs.YteggojnjinealaaGreatDoor.PE
section
open Go
mutual
inductive PV where
 | b (x:Bool)
 | bl (x:Bool)
 | i (k:IntKind) (n:Int)
 | s (x:ByteArray)
 | q (x:Rat) (n:Nat)
 | agg (vs:List PV)
 | tup (vs:List PV)
 | nil
 | lst (e:Nat) (c:Cont)
 | fr (e:Nat) (c:Cont)
 | ref (v:PV)
 | sl (b e off len:Nat)
 | ptr (b e i off:Nat) (path:List Nat)
 | clo (f:Nat) (caps:List PV)
 | nilf
 | ifc (t:Nat) (v:PV)
 | nili
 | nilp
 | w (v:PV)
 | und
 | any
inductive Cont where
 | ints (k:IntKind) (xs:List Int)
 | rats (n:Nat) (xs:List Rat)
 | vals (vs:List PV)
 | fn (n:Nat) (f:Nat->PV)
end
structure Blk where
 e:Nat
 c:Cont
abbrev qT:=List (Option Blk)
structure St where
 t:List PV
 h:qT
structure LS where
 t:List PV
 h:qT
inductive Res where
 | ret (r:PV) (hs:List Blk)
 | out (e:Exit) (ls:LS)
inductive Tr where
 | no (n:Nat)
 | ok (r:Res)
 | br (b:Bool) (x y:Tr)
def Tr.run:Tr->Option Res
 | .no _=>none
 | .ok r=>some r
 | .br b x y=>match b with|true=>x.run|false=>y.run

def qa:Nat->Nat->List UInt8->List UInt8
 | 0,_,acc=>acc
 | d+1,n,acc=>if n=0 then acc else qa d (n/256) (UInt8.ofNat (n%256)::acc)
def nb (n:Nat):ByteArray:=⟨(qa n n []).toArray⟩
def qo (x:Rat):Bool:=decide (x.num<0)
def qt (x:Rat):ByteArray:=nb x.num.natAbs
def qu (x:Rat):ByteArray:=nb x.den
def sz (x:Rat):Nat:=max (Nat.log2 x.num.natAbs) (Nat.log2 x.den)+1
def openq:PV->PV
 | .q x _=>.agg [.b (qo x),.s (qt x),.s (qu x)]
 | v=>v

def sumM (f:PV->Option Nat):List PV->Option Nat
 | []=>some 0
 | v::vs=>match f v with
  | some n=>match sumM f vs with
   | some m=>some (n+m)
   | none=>none
  | none=>none
def nc:Nat->PV->Option Nat
 | 0,_=>none
 | d+1,v=>match v with
  | .agg vs=>sumM (nc d) vs
  | .q _ _=>some 3
  | .tup _=>none
  | .und=>none
  | .any=>none
  | .fr _ _=>none
  | _=>some 1
def ncv (v:PV):Option Nat:=nc 8 v

def sub:List Nat->PV->Option (Nat × PV)
 | [],v=>some (0,v)
 | f::p,v=>match openq v with
  | .agg vs=>match sumM ncv (vs.take f),vs[f]? with
   | some o,some w=>match sub p w with
    | some (o',w')=>some (o+o',w')
    | none=>none
   | _,_=>none
  | _=>none
def setSub:List Nat->PV->PV->Option PV
 | [],new,_=>some new
 | f::p,new,v=>match openq v with
  | .agg vs=>match vs[f]? with
   | some w=>match setSub p new w with
    | some w'=>some (.agg (vs.set f w'))
    | none=>none
   | _=>none
  | _=>none

def noRef:Nat->PV->Bool
 | 0,_=>false
 | d+1,v=>match v with
  | .sl _ _ _ _=>false
  | .ptr _ _ _ _ _=>false
  | .agg vs=>vs.all (noRef d)
  | .tup vs=>vs.all (noRef d)
  | .clo _ vs=>vs.all (noRef d)
  | .ifc _ w=>noRef d w
  | _=>true

namespace Cont
def noRefs:Cont->Bool
 | vals vs=>vs.all (noRef 8)
 | _=>true
def len:Cont->Nat
 | ints _ xs=>xs.length
 | rats _ xs=>xs.length
 | vals vs=>vs.length
 | fn n _=>n
def get:Cont->Nat->PV
 | ints k xs,j=>.i k (xs.getD j 0)
 | rats n xs,j=>.q (xs.getD j 0) n
 | vals vs,j=>vs.getD j .any
 | fn _ f,j=>f j
def set (j:Nat) (v:PV):Cont->Option Cont
 | ints k xs=>match v with
  | .i k' n=>match decide (k=k')with
   | true=>some (ints k (xs.set j n))
   | false=>none
  | _=>none
 | rats m xs=>match v with
  | .q x n=>match Nat.ble n m with
   | true=>some (rats m (xs.set j x))
   | false=>some (rats n (xs.set j x))
  | _=>none
 | vals vs=>some (vals (vs.set j v))
 | fn n f=>match noRef 8 v with
  | true=>some (fn n (fun m=>match Nat.beq m j with|true=>v|false=>f m))
  | false=>none
def cut (lo n:Nat):Cont->Cont
 | ints k xs=>ints k ((xs.drop lo).take n)
 | rats k xs=>rats k ((xs.drop lo).take n)
 | vals vs=>vals ((vs.drop lo).take n)
 | fn _ f=>fn n (fun j=>f (j+lo))
def both (n:Nat) (c d:Cont):Cont:=fn (n+d.len) (fun j=>match Nat.blt j n with|true=>c.get j|false=>d.get (j-n))
def app (c d:Cont):Option Cont:=
 match c,d with
 | ints k xs,ints k' ys=>match decide (k=k')with
  | true=>some (ints k (xs++ys))
  | false=>none
 | rats n xs,rats m ys=>some (rats (Nat.max n m) (xs++ys))
 | vals vs,vals ws=>some (vals (vs++ws))
 | vals [],ints k ys=>some (ints k ys)
 | vals [],rats n ys=>some (rats n ys)
 | ints k xs,vals []=>some (ints k xs)
 | rats n xs,vals []=>some (rats n xs)
 | c,d=>match c.noRefs&&d.noRefs with
  | true=>some (both c.len c d)
  | false=>none
end Cont
def oand:Option Bool->Option Bool->Option Bool
 | none,b=>b
 | some a,none=>some a
 | some a,some b=>some (a&&b)
def holds:Option Bool->Prop
 | none=>True
 | some b=>b=true
def foldO (g:PV->Option Bool):List PV->Option Bool
 | []=>none
 | v::vs=>oand (g v) (foldO g vs)
def lenOk (c:Cont) (n:Nat):Bool:=match c with | .vals vs=>Nat.ble n vs.length|_=>true
def lenC (c:Cont) (n:Nat):Option Bool:=match c with | .vals _=>none|c=>some (Nat.ble n c.len)
def ofVal:Value->PV
 | .bool x=>.bl x
 | .int k n=>.i k n
 | .string x=>.s x
 | .slice none 0 0=>.nil
 | .pointer none=>.nilp
 | .nilFunc=>.nilf
 | .nilIface=>.nili
 | _=>.any

def fldT (P:Program) (T f:Nat):Option Field:=
 match P.underlying T with
 | some (.struct fs)=>fs[f]?
 | _=>none
def szT (P:Program) (T:Nat):Option Nat:=match P.info? T with|some i=>some i.size|none=>none
def byT (P:Program) (T:Nat):Option Nat:=match P.info? T with|some i=>some i.bytes|none=>none
def aggT (P:Program) (T:Nat):Option Bool:=match P.underlying T with|some (.struct _)=>some true|some (.array _ _)=>some true|some _=>some false|none=>none
def elT (P:Program) (T:Nat):Option Nat:=match P.underlying T with|some (.slice e)=>some e|_=>none
def arrT (P:Program) (T:Nat):Option (Nat × Nat):=match P.underlying T with|some (.array n e)=>some (n,e)|_=>none
def intT (P:Program) (T:Nat):Option IntKind:=match P.underlying T with|some (.int k)=>some k|_=>none
def zcT (P:Program) (T:Nat):Option (List Value):=match P.info? T with|some i=>(match i.zero with|some z=>some z.cells.toList|none=>none)|none=>none

def parseL (g:Nat->List Value->Option (PV × List Value)):List Field->List Value->Option (List PV × List Value)
 | [],cs=>some ([],cs)
 | f::fs,cs=>match g f.type cs with
  | some (v,cs')=>match parseL g fs cs' with
   | some (vs,cs'')=>some (v::vs,cs'')
   | none=>none
  | none=>none
def parse1 (cs:List Value):Option (PV × List Value):=
 match cs with
 | []=>none
 | c::cs=>match ofVal c with
  | .any=>none
  | v=>some (v,cs)
def parseT (P:Program):Nat->Nat->List Value->Option (PV × List Value)
 | 0,_,_=>none
 | d+1,T,cs=>match P.underlying T with
  | some (.struct fs)=>match parseL (parseT P d) fs.toList cs with
   | some (vs,cs')=>some (.agg vs,cs')
   | none=>none
  | some (.array _ _)=>none
  | _=>parse1 cs
def zeroT (P:Program) (T:Nat):Option PV:=match zcT P T with
 | some cs=>match parseT P 8 T cs with
  | some (v,[])=>some v
  | _=>none
 | none=>none

structure Pol where
 own:List Nat:=[]                    -- temporaries whose slice is to be owned
 live:List (Nat × List Nat):=[]      -- loop (the id of its first region)->temporaries kept
 wr:List (Nat × List Nat):=[]        -- callee->parameters whose memory it may write
 quiet:List (Nat × List Nat):=[]     -- region->loads that reach no own block
def assoc {α:Type} (k:Nat):List (Nat × α)->Option α
 | []=>none
 | (j,a)::r=>match j==k with|true=>some a|false=>assoc k r

abbrev Spec:=List PV->List Blk->(PV->List Blk->Tr)->Tr
abbrev Orc:=List (Nat × Spec)
def Orc.look (k:Nat):Orc->Option Spec
 | []=>none
 | (j,a)::r=>match j==k with|true=>some a|false=>Orc.look k r
abbrev qA:=LS->(Exit->LS->Tr)->Tr
abbrev Lps:=List (Nat × qA)
def Lps.look (k:Nat):Lps->Option qA
 | []=>none
 | (j,a)::r=>match j==k with|true=>some a|false=>Lps.look k r

def evO (t:List PV):Operand->PV
 | .tmp k=>t.getD k .any
 | .const v=>ofVal v
 | .global _=>.any
 | .func f=>.clo f []

def hget (h:qT) (b:Nat):Option Blk:=match h[b]? with|some (some x)=>some x|_=>none

def mapO (g:PV->Option PV):List PV->Option (List PV)
 | []=>some []
 | v::vs=>match g v with
  | some w=>match mapO g vs with
   | some ws=>some (w::ws)
   | none=>none
  | none=>none
def frzC (g:PV->Option PV):Cont->Option Cont
 | .vals vs=>match mapO g vs with
  | some ws=>some (.vals ws)
  | none=>none
 | c=>some c
def frz (h:qT):Nat->PV->Option PV
 | 0,_=>none
 | d+1,v=>match v with
  | .sl b e off len=>match hget h b with
   | some k=>match k.e==e&&lenOk k.c (off+len)with
    | true=>match frzC (frz h d) (k.c.cut off len)with
     | some c=>some (.lst e c)
     | none=>none
    | false=>none
   | none=>none
  | .ptr b e i off p=>match hget h b with
   | some k=>match k.e==e&&lenOk k.c (i+1)with
    | true=>match sub p (k.c.get i)with
     | some (o,w)=>match o==off with
      | true=>match frz h d w with
       | some w'=>some (.ref w')
       | none=>none
      | false=>none
     | none=>none
    | false=>none
   | none=>none
  | .agg vs=>match mapO (frz h d) vs with
   | some ws=>some (.agg ws)
   | none=>none
  | .tup vs=>match mapO (frz h d) vs with
   | some ws=>some (.tup ws)
   | none=>none
  | .clo f cs=>match mapO (frz h d) cs with
   | some ws=>some (.clo f ws)
   | none=>none
  | .ifc t w=>match frz h d w with
   | some w'=>some (.ifc t w')
   | none=>none
  | .fr _ _=>none
  | v=>some v

def frzCO (g:PV->Option Bool) (c:Cont):Option Bool:=match c with
 | .vals vs=>foldO g vs
 | _=>none
def frzOk (h:qT):Nat->PV->Option Bool
 | 0,_=>none
 | d+1,v=>match v with
  | .sl b _ off len=>match hget h b with
   | some k=>oand (lenC k.c (off+len)) (frzCO (frzOk h d) (k.c.cut off len))
   | none=>none
  | .ptr b _ i _ p=>match hget h b with
   | some k=>match sub p (k.c.get i)with
    | some (_,w)=>oand (lenC k.c (i+1)) (frzOk h d w)
    | none=>none
   | none=>none
  | .agg vs=>foldO (frzOk h d) vs
  | .tup vs=>foldO (frzOk h d) vs
  | .clo _ vs=>foldO (frzOk h d) vs
  | .ifc _ w=>frzOk h d w
  | _=>none
def deep (h:qT):Nat->PV->List Nat
 | 0,_=>[]
 | d+1,v=>match v with
  | .sl b _ off len=>b::(match hget h b with
   | some k=>match k.c.cut off len with
    | .vals vs=>vs.flatMap (deep h d)
    | _=>[]
   | none=>[])
  | .ptr b _ i _ p=>b::(match hget h b with
   | some k=>match sub p (k.c.get i)with
    | some (_,u)=>deep h d u
    | none=>[]
   | none=>[])
  | .agg vs=>vs.flatMap (deep h d)
  | .tup vs=>vs.flatMap (deep h d)
  | .clo _ vs=>vs.flatMap (deep h d)
  | .ifc _ w=>deep h d w
  | _=>[]

abbrev Eff:=PV × List (Nat × Option Blk) × List Blk   -- value,writes,new blocks
inductive OpR where
 | fail
 | one (e:Eff)
 | cond (b:Bool) (e:Eff)
def p1 (v:PV):OpR:=.one (v,[],[])
def pc (b:Bool) (v:PV):OpR:=.cond b (v,[],[])
def withC:Option Bool->OpR->OpR
 | none,r=>r
 | some _,.fail=>.fail
 | some b,.one e=>.cond b e
 | some b,.cond c e=>.cond (b&&c) e
def ofO:Option PV->OpR
 | some v=>p1 v
 | none=>.fail

def ibits (op:BinOp) (k:IntKind) (x y:Int):Option Int:=
 match op with
 | .and=>some (k.wrap ((BitVec.ofInt k.bits x &&& BitVec.ofInt k.bits y).toNat))
 | .or=>some (k.wrap ((BitVec.ofInt k.bits x ||| BitVec.ofInt k.bits y).toNat))
 | .xor=>some (k.wrap ((BitVec.ofInt k.bits x ^^^ BitVec.ofInt k.bits y).toNat))
 | _=>none

def bof:PV->Option Bool
 | .b x=>some x
 | .bl x=>some x
 | _=>none
def isAgg:PV->Bool
 | .agg _=>true
 | .q _ _=>true
 | _=>false
def fitsT (P:Program) (T:Nat) (v:PV):Bool:=
 match ncv v,szT P T with
 | some n,some m=>n==m&&(match aggT P T with|some b=>isAgg v==b|none=>false)
 | _,_=>false
def eqFs (P:Program) (g:Nat->PV->PV->Option Bool):Nat->List Field->List PV->List PV->Option Bool
 | _,[],[],[]=>some true
 | o,f::fs,x::xs,y::ys=>match f.offset==o&&fitsT P f.type x&&fitsT P f.type y&&f.name != "_",ncv x with
  | true,some n=>match g f.type x y,eqFs P g (o+n) fs xs ys with
   | some a,some c=>some (a&&c)
   | _,_=>none
  | _,_=>none
 | _,_,_,_=>none
def isRat (P:Program):List Field->Bool
 | [f,g,h]=>f.offset==0&&g.offset==1&&h.offset==2&&f.name != "_"&&g.name != "_"&&h.name != "_"&&
  (match P.underlying f.type,P.underlying g.type,P.underlying h.type with|some .bool,some .string,some .string=>true|_,_,_=>false)
 | _=>false
def eqT (P:Program):Nat->Nat->PV->PV->Option Bool
 | 0,_,_,_=>none
 | d+1,T,x,y=>match P.underlying T with
  | some .bool=>match bof x,bof y with|some a,some c=>some (a==c)|_,_=>none
  | some (.int _)=>match x,y with
   | .i k a,.i k' c=>match decide (k=k')with|true=>some (decide (a=c))|false=>none
   | _,_=>none
  | some .string=>match x,y with | .s a,.s c=>some (decide (a=c))|_,_=>none
  | some (.slice _)=>match x,y with
   | .nil,.nil=>some true
   | .nil,.lst _ _=>some false
   | .nil,.sl _ _ _ _=>some false
   | .lst _ _,.nil=>some false
   | .sl _ _ _ _,.nil=>some false
   | _,_=>none
  | some (.struct fs)=>match P.stoodInHeld T with
   | true=>none
   | false=>match x,y with
    | .q a _,.q c _=>match isRat P fs.toList&&Nat.ble 1 d with|true=>some (decide (a=c))|false=>none
    | .agg xs,.agg ys=>eqFs P (eqT P d) 0 fs.toList xs ys
    | _,_=>none
  | _=>none
def eqG (P:Program) (T:Nat) (x:PV):Bool:=
 match x with
 | .agg _=>!P.eqGuardType P.depth T
 | .q _ _=>!P.eqGuardType P.depth T
 | .nili=>false
 | _=>true

def arS (k:IntKind) (v:Int):OpR:=match k with
 | .i64=>pc (decide (-9223372036854775808<=v)&&decide (v<=9223372036854775807)) (.i .i64 v)
 | k=>p1 (.i k (k.wrap v))
def arA (k:IntKind) (v:Int):OpR:=match k with
 | .i64=>pc (decide (-9223372036854775808<=v)&&decide (v<=9223372036854775807)) (.i .i64 v)
 | .u64=>pc (decide (0<=v)&&decide (v<=18446744073709551615)) (.i .u64 v)
 | k=>p1 (.i k (k.wrap v))
def binI (op:BinOp) (k:IntKind) (a c:Int):OpR:=
 match op with
 | .add=>arA k (a+c)
 | .sub=>arS k (a-c)
 | .mul=>arA k (a*c)
 | .quo=>withC (some (!decide (c=0))) (arS k (a.tdiv c))
 | .rem=>pc (!decide (c=0)) (.i k (a.tmod c))
 | .lss=>p1 (.b (decide (a<c)))
 | .leq=>p1 (.b (decide (a<=c)))
 | .gtr=>p1 (.b (decide (c<a)))
 | .geq=>p1 (.b (decide (c<=a)))
 | op=>match ibits op k a c with
  | some n=>p1 (.i k n)
  | none=>.fail
def binO (P:Program) (op:BinOp) (T:Nat) (x y:PV):OpR:=
 match op with
 | .eql=>match eqT P 6 T x y,eqG P T x with|some t,true=>p1 (.b t)|_,_=>.fail
 | .neq=>match eqT P 6 T x y,eqG P T x with|some t,true=>p1 (.b (!t))|_,_=>.fail
 | .shl=>match x,y with
  | .i k a,.i _ c=>pc (decide (0<=c)) (.i k (k.wrap (a*2^(min c.toNat k.bits))))
  | _,_=>.fail
 | .shr=>match x,y with
  | .i k a,.i _ c=>pc (decide (0<=c)) (.i k (a.fdiv (2^(min c.toNat k.bits))))
  | _,_=>.fail
 | op=>match x,y with
  | .i k a,.i k' c=>match decide (k=k')with
   | true=>binI op k a c
   | false=>.fail
  | .s a,.s c=>match op with
   | .add=>pc (Nat.ble (a.size+c.size) 1099511627776) (.s (a++c))
   | _=>.fail
  | _,_=>.fail

def wrpO (op:BinOp) (x y:PV):OpR:=
 match op with
 | .add=>match x,y with
  | .i k a,.i k' c=>match decide (k=k')with
   | true=>p1 (.i k (k.wrap (a+c)))
   | false=>.fail
  | _,_=>.fail
 | _=>.fail
def unO (op:UnOp) (x:PV):OpR:=
 match op,x with
 | .neg,.i k n=>arS k (0-n)
 | .not,.b x=>p1 (.b (!x))
 | .not,.bl true=>p1 (.bl false)
 | .not,.bl false=>p1 (.bl true)
 | _,_=>.fail

def bnds (len:Nat) (lo hi:Option PV):Option (Option Bool × Nat × Nat):=
 match lo,hi with
 | none,none=>some (none,0,len)
 | some (.i _ l),none=>some (some (decide (0<=l)&&decide (l<=(len:Int))),l.toNat,len)
 | none,some (.i _ h)=>some (some (decide (0<=h)&&decide (h<=(len:Int))),0,h.toNat)
 | some (.i _ l),some (.i _ h)=>some (some (decide (0<=l)&&decide (l<=h)&&decide (h<=(len:Int))),l.toNat,h.toNat)
 | _,_=>none
def withB (r:Option (Option Bool × Nat × Nat)) (f:Nat->Nat->PV):OpR:=
 match r with
 | some (none,l,h)=>p1 (f l h)
 | some (some b,l,h)=>pc b (f l h)
 | none=>.fail
def slcO (P:Program) (h:qT) (T:Nat) (x:PV) (lo hi:Option PV):OpR:=
 match x with
 | .s a=>match P.underlying T with
  | some .string=>withB (bnds a.size lo hi) (fun l h=>.s (a.extract l h))
  | _=>.fail
 | .lst e c=>match elT P T with
  | some E=>match szT P E==some e with
   | true=>withB (bnds c.len lo hi) (fun l h=>.lst e (c.cut l (h-l)))
   | false=>.fail
  | none=>.fail
 | .sl b e off len=>match elT P T with
  | some E=>match szT P E==some e with
   | true=>withB (bnds len lo hi) (fun l h=>.sl b e (off+l) (h-l))
   | false=>.fail
  | none=>.fail
 | .nil=>match elT P T with
  | some E=>match szT P E with
   | some _=>withB (bnds 0 lo hi) (fun _ _=>.nil)
   | none=>.fail
  | none=>.fail
 | .ptr b e 0 0 []=>match arrT P T,hget h b with
  | some (n,E),some k=>match szT P E==some e&&k.e==e&&lenOk k.c n with
   | true=>withC (lenC k.c n) (withB (bnds n lo hi) (fun l h=>.sl b e l (h-l)))
   | false=>.fail
  | _,_=>.fail
 | _=>.fail

def idxA (P:Program) (T:Nat) (x ix:PV):OpR:=
 match ix with
 | .i _ n=>match x with
  | .lst e c=>match elT P T with
   | some E=>match szT P E==some e with
    | true=>pc (decide (0<=n)&&decide (n<(c.len:Int))) (.ref (c.get n.toNat))
    | false=>.fail
   | none=>.fail
  | .sl b e off len=>match elT P T with
   | some E=>match szT P E==some e with
    | true=>pc (decide (0<=n)&&decide (n<(len:Int))) (.ptr b e (off+n.toNat) 0 [])
    | false=>.fail
   | none=>.fail
  | .ptr b e 0 0 []=>match arrT P T with
   | some (len,E)=>match szT P E==some e with
    | true=>pc (decide (0<=n)&&decide (n<(len:Int))) (.ptr b e n.toNat 0 [])
    | false=>.fail
   | none=>.fail
  | _=>.fail
 | _=>.fail

def idxS (P:Program) (T:Nat) (x ix:PV):OpR:=
 match x,ix with
 | .s a,.i _ n=>match P.underlying T with
  | some .string=>pc (decide (0<=n)&&decide (n<(a.size:Int))) (.i .u8 ((a.data.toList.getD n.toNat 0).toNat:Int))
  | _=>.fail
 | _,_=>.fail

def ldO (P:Program) (T:Nat) (h:qT) (x:PV):Option PV:=
 match x with
 | .ref v=>match fitsT P T v with|true=>some v|false=>none
 | .ptr b e i off p=>match hget h b with
  | some k=>match k.e==e&&lenOk k.c (i+1)with
   | true=>match sub p (k.c.get i)with
    | some (o,v)=>match o==off&&fitsT P T v with
     | true=>some v
     | false=>none
    | none=>none
   | false=>none
  | none=>none
 | _=>none
def ldC (h:qT) (x:PV):Option Bool:=
 match x with
 | .ptr b _ i _ _=>match hget h b with
  | some k=>lenC k.c (i+1)
  | none=>none
 | _=>none
def stO (P:Program) (T:Nat) (h:qT) (x v:PV):Option (Nat × Option Blk):=
 match x with
 | .ptr b e i off p=>match hget h b with
  | some k=>match k.e==e&&lenOk k.c (i+1)with
   | true=>match sub p (k.c.get i)with
    | some (o,old)=>match o==off&&fitsT P T v&&(ncv old==ncv v)with
     | true=>match setSub p v (k.c.get i)with
      | some w=>match k.c.set i w with
       | some c=>some (b,some ⟨k.e,c⟩)
       | none=>none
      | none=>none
     | false=>none
    | none=>none
   | false=>none
  | none=>none
 | _=>none

def bldO (P:Program) (T:Nat) (vs:List PV):List (Nat × PV)->Option (List PV)
 | []=>some vs
 | (f,v)::r=>match fldT P T f with
  | some fd=>match sumM ncv (vs.take f),vs[f]? with
   | some o,some old=>match o==fd.offset&&(ncv old==ncv v)&&fitsT P fd.type v with
    | true=>bldO P T (vs.set f v) r
    | false=>none
   | _,_=>none
  | none=>none
def allInts (k:IntKind):List PV->Option (List Int)
 | []=>some []
 | .i k' n::r=>match decide (k=k')with
  | true=>match allInts k r with
   | some ns=>some (n::ns)
   | none=>none
  | false=>none
 | _=>none
def allRats:List PV->Option (Nat × List Rat)
 | []=>some (0,[])
 | .q x n::r=>match allRats r with
  | some (m,xs)=>some (Nat.max n m,x::xs)
  | none=>none
 | _=>none
def inOrder:Nat->List (Nat × PV)->Option (List PV)
 | _,[]=>some []
 | j,(k,v)::r=>match j==k with
  | true=>match inOrder (j+1) r with
   | some vs=>some (v::vs)
   | none=>none
  | false=>none
def allFit (P:Program) (E:Nat):List PV->Bool
 | []=>true
 | v::vs=>fitsT P E v&&allFit P E vs
def mkC (P:Program) (E:Nat) (vs:List PV):Cont:=
 match intT P E with
 | some k=>match allInts k vs with
  | some ns=>.ints k ns
  | none=>.vals vs
 | none=>match vs with
  | .q _ _::_=>match allRats vs with
   | some (n,xs)=>.rats n xs
   | none=>.vals vs
  | _=>.vals vs

def zeroC (P:Program) (E n:Nat):Option Cont:=
 match zeroT P E with
 | some (.i k 0)=>some (.ints k (List.replicate n 0))
 | some z=>some (.fn n (fun _=>z))
 | none=>none

structure Pass where
 args:List PV
 ids:List Nat
 blks:List Blk
 ok:Option Bool
def passO (h:qT) (m:List Nat):Nat->List PV->Option Pass
 | _,[]=>some ⟨[],[],[],none⟩
 | j,v::vs=>match passO h m (j+1) vs with
  | none=>none
  | some r=>match m.contains j with
   | false=>match frz h 6 v with
    | some w=>some ⟨w::r.args,r.ids,r.blks,oand (frzOk h 6 v) r.ok⟩
    | none=>none
   | true=>match v with
    | .sl b e off len=>match hget h b,r.ids.contains b with
     | some k,false=>match k.c.noRefs with
      | true=>some ⟨.sl r.ids.length e off len::r.args,r.ids++[b],r.blks++[k],r.ok⟩
      | false=>none
     | _,_=>none
    | .ptr b e i off p=>match hget h b,r.ids.contains b with
     | some k,false=>match k.c.noRefs with
      | true=>some ⟨.ptr r.ids.length e i off p::r.args,r.ids++[b],r.blks++[k],r.ok⟩
      | false=>none
     | _,_=>none
    | .nil=>some ⟨.nil::r.args,r.ids,r.blks,r.ok⟩
    | _=>none
def seen (h:qT) (m:List Nat):Nat->List PV->List Nat
 | _,[]=>[]
 | j,v::vs=>match m.contains j with
  | true=>seen h m (j+1) vs
  | false=>deep h 6 v++seen h m (j+1) vs
def flat:Nat->PV->Bool
 | 0,_=>false
 | d+1,v=>match v with
  | .b _=>true
  | .bl _=>true
  | .i _ _=>true
  | .s _=>true
  | .q _ _=>true
  | .nil=>true
  | .sl _ _ _ _=>true
  | .ptr _ _ _ _ _=>true
  | .agg vs=>vs.all (flat d)
  | .tup vs=>vs.all (flat d)
  | _=>false
def flatC:Cont->Bool
 | .ints _ _=>true
 | .rats _ _=>true
 | .vals vs=>vs.all (flat 6)
 | .fn _ _=>false
def unfr1 (m:Nat) (v:PV) (nbs:List Blk):PV × List Blk:=
 match v with
 | .fr e c=>(.sl (m+nbs.length) e 0 c.len,nbs++[⟨e,c⟩])
 | v=>(v,nbs)
def unfrL (m:Nat):List PV->List Blk->List PV × List Blk
 | [],nbs=>([],nbs)
 | v::vs,nbs=>match unfr1 m v nbs with
  | (w,nbs')=>match unfrL m vs nbs' with
   | (ws,nbs'')=>(w::ws,nbs'')
def unfrA (m:Nat) (v:PV) (nbs:List Blk):PV × List Blk:=
 match v with
 | .agg vs=>match unfrL m vs nbs with|(ws,nbs')=>(.agg ws,nbs')
 | v=>unfr1 m v nbs
def unfrT (m:Nat):List PV->List Blk->List PV × List Blk
 | [],nbs=>([],nbs)
 | v::vs,nbs=>match unfrA m v nbs with
  | (w,nbs')=>match unfrT m vs nbs' with
   | (ws,nbs'')=>(w::ws,nbs'')
def unfr (m:Nat) (v:PV):PV × List Blk:=
 match v with
 | .tup vs=>match unfrT m vs []with|(ws,nbs)=>(.tup ws,nbs)
 | v=>unfrA m v []
def upto (n:Nat):Nat->List Nat
 | 0=>[]
 | k+1=>n::upto (n+1) k
def zipW:List Nat->List Blk->Option (List (Nat × Option Blk))
 | [],[]=>some []
 | b::bs,k::ks=>match zipW bs ks with
  | some r=>some ((b,some k)::r)
  | none=>none
 | _,_=>none

def appC (h:qT) (e:Nat) (y:PV):Option Cont:=
 match y with
 | .nil=>some (.vals [])
 | .lst e' c=>match e'==e with|true=>some c|false=>none
 | .sl b e' off len=>match hget h b with
  | some k=>match k.e==e&&e'==e&&lenOk k.c (off+len)with|true=>some (k.c.cut off len)|false=>none
  | none=>none
 | _=>none
def appT (h:qT) (y:PV):Option Bool:=
 match y with
 | .sl b _ off len=>match hget h b with
  | some k=>lenC k.c (off+len)
  | none=>none
 | _=>none
def lenZ:Cont->Bool
 | .vals []=>true
 | _=>false
def appO (P:Program) (T id:Nat) (h:qT) (x y:PV):OpR:=
 match elT P T with
 | none=>.fail
 | some E=>match szT P E,zcT P E,byT P E with
  | some e,some zs,some by_=>match zs.length==e&&Nat.blt 0 e&&Nat.ble by_ 1024 with
   | false=>.fail
   | true=>match appC h e y with
    | none=>.fail
    | some yc=>withC (appT h y) (match x with
     | .nil=>match lenZ yc with
      | true=>p1 .nil
      | false=>.cond (Nat.blt 0 yc.len&&Nat.ble yc.len 4294967296) (.sl id e 0 yc.len,[],[⟨e,yc⟩])
     | .sl b e' 0 len=>match hget h b with
      | some k=>match k.e==e&&e'==e&&lenOk k.c len with
       | true=>match (k.c.cut 0 len).app yc with
        | some c=>withC (lenC k.c len) (.cond (Nat.ble (len+yc.len) 4294967296) (.sl id e 0 (len+yc.len),[(b,none)],[⟨e,c⟩]))
        | none=>.fail
       | false=>.fail
      | none=>.fail
     | _=>.fail)
  | _,_,_=>.fail

def cvtO (P:Program) (h:qT) (src dst:Nat) (x:PV):OpR:=
 match P.underlying src with
 | none=>.fail
 | some _=>match x with
  | .i _ n=>match intT P dst with|some k=>p1 (.i k (k.wrap n))|none=>.fail
  | .s a=>match P.underlying dst with
   | some .string=>p1 (.s a)
   | some (.slice E)=>match intT P E with
    | some .u8=>p1 (.lst 1 (.ints .u8 (a.data.toList.map fun c=>(c.toNat:Int))))
    | _=>.fail
   | _=>.fail
  | .lst 1 (.ints .u8 xs)=>match P.underlying dst,elT P src with
   | some .string,some E=>match intT P E with
    | some .u8=>p1 (.s ⟨(xs.map fun n=>UInt8.ofNat n.toNat).toArray⟩)
    | _=>.fail
   | _,_=>.fail
  | .sl b 1 off len=>match P.underlying dst,elT P src,hget h b with
   | some .string,some E,some ⟨1,.ints .u8 xs⟩=>match intT P E with
    | some .u8=>pc (Nat.ble (off+len) xs.length) (.s ⟨(((xs.drop off).take len).map fun n=>UInt8.ofNat n.toNat).toArray⟩)
    | _=>.fail
   | _,_,_=>.fail
  | .nil=>match P.underlying dst,elT P src with
   | some .string,some E=>match intT P E with
    | some .u8=>p1 (.s ⟨#[]⟩)
    | _=>.fail
   | _,_=>.fail
  | _=>.fail

def okW:PV->Bool
 | .nil=>true
 | .lst 1 (.ints .i64 _)=>true
 | _=>false
def intsW:PV->List Int
 | .lst 1 (.ints .i64 xs)=>xs
 | _=>[]
def lenO (P:Program) (T:Nat) (x:PV):OpR:=
 match x,P.underlying T with
 | .w v,some (.slice _)=>.cond (okW v) (.i .i64 (intsW v).length,[],[])
 | .s a,some .string=>p1 (.i .i64 a.size)
 | .nil,some (.slice _)=>p1 (.i .i64 0)
 | .lst _ l,some (.slice _)=>p1 (.i .i64 l.len)
 | .sl _ _ _ n,some (.slice _)=>p1 (.i .i64 n)
 | _,_=>.fail
def minO (x y:PV):OpR:=match x,y with | .i k a,.i _ d=>p1 (.i k (if d<a then d else a))|_,_=>.fail
def maxO (x y:PV):OpR:=match x,y with | .i k a,.i _ d=>p1 (.i k (if d>a then d else a))|_,_=>.fail

def popV (P:Program) (own:Bool) (t:List PV) (id:Nat) (h:qT) (op:Op):OpR:=
 match op with
 | .move x=>p1 (evO t x)
 | .assign x=>p1 (evO t x)
 | .pick c x y=>match evO t c with
  | .bl true=>p1 (evO t x)
  | .bl false=>p1 (evO t y)
  | .b c=>match bof (evO t x),bof (evO t y)with
   | some x,some y=>p1 (.b (bif c then x else y))
   | _,_=>.fail
  | _=>.fail
 | .alloc T=>match arrT P T with
  | some (n,E)=>match szT P E,intT P E,zcT P T with
   | some 1,some k,some zs=>match zs.length==n&&zs.all (fun v=>match v with | .int k' 0=>decide (k=k')|_=>false)with
    | true=>.one (.ptr id 1 0 0 [],[],[⟨1,.ints k (List.replicate n 0)⟩])
    | false=>.fail
   | _,_,_=>.fail
  | none=>match szT P T,zeroT P T with
   | some e,some z=>match fitsT P T z with
    | true=>.one (.ptr id e 0 0 [],[],[⟨e,.vals [z]⟩])
    | false=>.fail
   | _,_=>.fail
 | .box T x=>match szT P T,fitsT P T (evO t x)with
  | some e,true=>.one (.ptr id e 0 0 [],[],[⟨e,.vals [evO t x]⟩])
  | _,_=>.fail
 | .build T ps=>match zeroT P T with
  | some (.agg vs)=>match bldO P T vs (ps.toList.map fun(j,x)=>(j,evO t x)),P.underlying T with
   | some ws,some (.struct fs)=>match fs.toList.mapM (fun f=>(P.info? f.type).map fun i=>(f.offset,i.size))with
    | some _=>p1 (.agg ws)
    | none=>.fail
   | _,_=>.fail
  | _=>.fail
 | .buildSlice T n ps=>match elT P T with
  | some E=>match szT P E,zcT P E,inOrder 0 (ps.toList.map fun(j,x)=>(j,evO t x))with
   | some e,some zs,some vs=>match vs.length==n&&allFit P E vs&&(zs.length==e)&&Nat.ble (n*e) 16777216 with
    | true=>match own with
     | true=>.one (.sl id e 0 n,[],[⟨e,mkC P E vs⟩])
     | false=>match (mkC P E vs).noRefs with
      | true=>p1 (.lst e (mkC P E vs))
      | false=>.fail
    | false=>.fail
   | _,_,_=>.fail
  | none=>.fail
 | .load T x=>withC (ldC h (evO t x)) (ofO (ldO P T h (evO t x)))
 | .store T x y=>withC (ldC h (evO t x)) (match stO P T h (evO t x) (evO t y)with|some ww=>.one (.und,[ww],[])|none=>.fail)
 | .nilCheck x=>match evO t x with
  | .ptr b e i off q=>p1 (.ptr b e i off q)
  | .ref v=>p1 (.ref v)
  | _=>.fail
 | .binOp op T x y _=>match own with
  | true=>wrpO op (evO t x) (evO t y)
  | false=>binO P op T (evO t x) (evO t y)
 | .unOp op _ x=>unO op (evO t x)
 | .convert src dst x=>cvtO P h src dst (evO t x)
 | .makeInterface T x=>match P.underlying T with
  | some (.interface _)=>.fail
  | some _=>p1 (.ifc T (evO t x))
  | none=>.fail
 | .makeFunc (.func f) first caps=>match first.size==0 with
  | true=>p1 (.clo f (caps.toList.map (evO t)))
  | false=>.fail
 | .makeSlice T n m=>match evO t n,evO t m,elT P T with
  | .i _ a,.i _ c,some E=>match szT P E,byT P E,zeroC P E a.toNat,zcT P E with
   | some e,some by_,some z,some zs=>match zs.length==e with
    | true=>.cond (decide (a=c)&&decide (0<=a)&&decide (a<=4294967296)&&Nat.ble by_ 1024) (.sl id e 0 a.toNat,[],[⟨e,z⟩])
    | false=>.fail
   | _,_,_,_=>.fail
  | _,_,_=>.fail
 | .slice T x lo hi none=>slcO P h T (evO t x) (lo.map (evO t)) (hi.map (evO t))
 | .fieldAddr T x f=>match fldT P T f with
  | some fd=>match evO t x with
   | .ptr b e i off q=>match szT P fd.type with
    | some (_+1)=>p1 (.ptr b e i (off+fd.offset) (q++[f]))
    | _=>.fail
   | .ref v=>match sub [f] v,szT P fd.type with
    | some (o,u),some (_+1)=>match o==fd.offset with|true=>p1 (.ref u)|false=>.fail
    | _,_=>.fail
   | _=>.fail
  | none=>.fail
 | .field T x f=>match fldT P T f with
  | some fd=>match sub [f] (evO t x)with
   | some (o,u)=>match o==fd.offset&&fitsT P fd.type u with|true=>p1 u|false=>.fail
   | none=>.fail
  | none=>.fail
 | .indexAddr T x ix=>idxA P T (evO t x) (evO t ix)
 | .index T x ix=>idxS P T (evO t x) (evO t ix)
 | .extract x k=>match evO t x with
  | .tup vs=>ofO vs[k]?
  | _=>.fail
 | .call c=>match c.callee with
  | .builtin b=>match b,c.args.toList,c.argTypes.toList with
   | .len,[x],[T]=>lenO P T (evO t x)
   | .min,[x,y],_=>minO (evO t x) (evO t y)
   | .max,[x,y],_=>maxO (evO t x) (evO t y)
   | .append,[x,y],[T,T']=>match T==T' with
    | true=>appO P T id h (evO t x) (evO t y)
    | false=>.fail
   | _,_,_=>.fail
  | _=>.fail
 | _=>.fail


end
section
open Go
abbrev Mu:=Nat->Option (Nat × Nat)   -- own block ↦ the real block,and how many cells it has
def qR:Mu:=fun _=>none

mutual
inductive RepC (w:World) (S:Nat->Prop):Mu->PV->List Value->Prop
 | b (μ:Mu) (x:Bool):RepC w S μ (.b x) [.bool x]
 | bl (μ:Mu) (x:Bool):RepC w S μ (.bl x) [.bool x]
 | i (μ:Mu) (k:IntKind) (n:Int):RepC w S μ (.i k n) [.int k n]
 | s (μ:Mu) (x:ByteArray):RepC w S μ (.s x) [.string x]
 | q (μ:Mu) (x:Rat) (n:Nat) (h:sz x<=n):RepC w S μ (.q x n) [.bool (qo x),.string (qt x),.string (qu x)]
 | agg (μ:Mu) (vs:List PV) (cs:List Value) (h:RepL w S μ vs cs):RepC w S μ (.agg vs) cs
 | nil (μ:Mu):RepC w S μ .nil [.slice none 0 0]
 | lst (μ:Mu) (e:Nat) (c:Cont) (a o cap:Nat) (cs:Nat->List Value) (hcap:c.len<=cap) (hS:S a)
   (hr:∀ i,i<c.len->RepC w S qR (c.get i) (cs i)) (hl:∀ i,i<c.len->(cs i).length=e)
   (hc:∀ i j,i<c.len->j<e->w.cell? ⟨a,o+(i*e+j),none⟩=(cs i)[j]?):
   RepC w S μ (.lst e c) [.slice (some ⟨a,o,none⟩) c.len cap]
 | ref (μ:Mu) (v:PV) (a o:Nat) (cs:List Value) (hS:S a) (hr:RepC w S qR v cs)
   (hc:∀ j,j<cs.length->w.cell? ⟨a,o+j,none⟩=cs[j]?):RepC w S μ (.ref v) [.pointer (some ⟨a,o,none⟩)]
 | sl (μ:Mu) (b e off len a z o cap:Nat) (hb:μ b=some (a,z)) (hcap:len<=cap) (hz:(off+cap)*e<=z)
   (ho:o=off*e\/(cap=0/\0<off)):RepC w S μ (.sl b e off len) [.slice (some ⟨a,o,none⟩) len cap]
 | ptr (μ:Mu) (b e i off:Nat) (p:List Nat) (a z:Nat) (hb:μ b=some (a,z)):
   RepC w S μ (.ptr b e i off p) [.pointer (some ⟨a,i*e+off,none⟩)]
 | clo (μ:Mu) (f:Nat) (caps:List PV) (xs:List Value) (h:RepVL w S μ caps xs):RepC w S μ (.clo f caps) [.func (.func f) #[] xs.toArray]
 | nilf (μ:Mu):RepC w S μ .nilf [.nilFunc]
 | ifc (μ:Mu) (t:Nat) (v:PV) (x:Value) (h:RepV w S μ v x):RepC w S μ (.ifc t v) [.iface t x]
 | nili (μ:Mu):RepC w S μ .nili [.nilIface]
 | nilp (μ:Mu):RepC w S μ .nilp [.pointer none]
 | w (μ:Mu) (v:PV) (x:Value) (h:RepC w S qR v [x]):RepC w S μ (.w v) [x]
inductive RepL (w:World) (S:Nat->Prop):Mu->List PV->List Value->Prop
 | nil (μ:Mu):RepL w S μ [] []
 | cons (μ:Mu) (v:PV) (vs:List PV) (cs ds:List Value) (h:RepC w S μ v cs) (h':RepL w S μ vs ds):RepL w S μ (v::vs) (cs++ds)
inductive RepV (w:World) (S:Nat->Prop):Mu->PV->Value->Prop
 | cell (μ:Mu) (v:PV) (x:Value) (hv:isAgg v=false) (h:RepC w S μ v [x]):RepV w S μ v x
 | agg (μ:Mu) (v:PV) (cs:List Value) (hv:isAgg v=true) (h:RepC w S μ v cs):RepV w S μ v (.agg cs.toArray)
 | tup (μ:Mu) (vs:List PV) (xs:List Value) (h:RepVL w S μ vs xs):RepV w S μ (.tup vs) (.tuple xs.toArray)
 | und (μ:Mu):RepV w S μ .und undef
 | any (μ:Mu) (x:Value):RepV w S μ .any x
inductive RepVL (w:World) (S:Nat->Prop):Mu->List PV->List Value->Prop
 | nil (μ:Mu):RepVL w S μ [] []
 | cons (μ:Mu) (v:PV) (vs:List PV) (x:Value) (xs:List Value) (h:RepV w S μ v x) (h':RepVL w S μ vs xs):RepVL w S μ (v::vs) (x::xs)
end
structure Mono (w w':World) (S S':Nat->Prop):Prop where
 sub:∀ a,S a->S' a
 cell:∀ a,S a->∀ o,w'.cell? ⟨a,o,none⟩=w.cell? ⟨a,o,none⟩
def MuLe (μ μ':Mu):Prop:=∀ b r,μ b=some r->μ' b=some r
theorem MuLe.refl (μ:Mu):MuLe μ μ:=fun _ _ h=>h
theorem MuLe.none (μ:Mu):MuLe qR μ:=fun _ _ h=>by cases h

section
variable {w w':World} {S S':Nat->Prop} (hm:Mono w w' S S')
include hm
theorem RepC.mono {μ:Mu} {v:PV} {cs:List Value} (h:RepC w S μ v cs):∀ μ',MuLe μ μ'->RepC w' S' μ' v cs:=by
 refine RepC.rec (motive_1:=fun μ v cs _=>∀ μ',MuLe μ μ'->RepC w' S' μ' v cs) (motive_2:=fun μ vs cs _=>∀ μ',MuLe μ μ'->RepL w' S' μ' vs cs)
  (motive_3:=fun μ v x _=>∀ μ',MuLe μ μ'->RepV w' S' μ' v x) (motive_4:=fun μ vs xs _=>∀ μ',MuLe μ μ'->RepVL w' S' μ' vs xs)
  ?_ ?_ ?_ ?_ ?_ ?_ ?_ ?_ ?_ ?_ ?_ ?_ ?_ ?_ ?_ ?_ ?_ ?_ ?_ ?_ ?_ ?_ ?_ ?_ ?_ ?_ h
 case refine_1=>intros;exact .b _ _
 case refine_2=>intros;exact .bl _ _
 case refine_3=>intros;exact .i _ _ _
 case refine_4=>intros;exact .s _ _
 case refine_5=>intro _ _ _ h _ _;exact .q _ _ _ h
 case refine_6=>intro _ _ _ _ ih μ' hl;exact .agg _ _ _ (ih μ' hl)
 case refine_7=>intros;exact .nil _
 case refine_8=>
  intro μ e c a o cap cs hcap hS hr hl hc ih μ' hle
  exact .lst _ e c a o cap cs hcap (hm.sub _ hS) (fun i hi=>ih i hi _ (MuLe.refl _)) hl (fun i j hi hj=>by rw[hm.cell a hS];exact hc i j hi hj)
 case refine_9=>
  intro μ v a o cs hS hr hc ih μ' hle
  exact .ref _ v a o cs (hm.sub _ hS) (ih _ (MuLe.refl _)) (fun j hj=>by rw[hm.cell a hS];exact hc j hj)
 case refine_10=>intro μ b e off len a z o cap hb hcap hz ho μ' hle;exact .sl _ b e off len a z o cap (hle _ _ hb) hcap hz ho
 case refine_11=>intro μ b e i off p a z hb μ' hle;exact .ptr _ b e i off p a z (hle _ _ hb)
 case refine_12=>intro μ f caps xs _ ih μ' hle;exact .clo _ f caps xs (ih μ' hle)
 case refine_13=>intros;exact .nilf _
 case refine_14=>intro μ t v x _ ih μ' hle;exact .ifc _ t v x (ih μ' hle)
 case refine_15=>intros;exact .nili _
 case refine_16=>intros;exact .nilp _
 case refine_17=>intro μ v x _ ih μ' hle;exact .w _ v x (ih _ (MuLe.refl _))
 case refine_18=>intros;exact .nil _
 case refine_19=>intro μ v vs cs ds _ _ ih ih' μ' hle;exact .cons _ v vs cs ds (ih μ' hle) (ih' μ' hle)
 case refine_20=>intro μ v x hv _ ih μ' hle;exact .cell _ v x hv (ih μ' hle)
 case refine_21=>intro μ v cs hv _ ih μ' hle;exact .agg _ v cs hv (ih μ' hle)
 case refine_22=>intro μ vs xs _ ih μ' hle;exact .tup _ vs xs (ih μ' hle)
 case refine_23=>intros;exact .und _
 case refine_24=>intros;exact .any _ _
 case refine_25=>intros;exact .nil _
 case refine_26=>intro μ v vs x xs _ _ ih ih' μ' hle;exact .cons _ v vs x xs (ih μ' hle) (ih' μ' hle)
theorem RepL.mono {μ:Mu} {vs:List PV} {cs:List Value} (h:RepL w S μ vs cs) {μ':Mu} (hl:MuLe μ μ'):RepL w' S' μ' vs cs:=by
 induction vs generalizing cs with
 | nil=>cases h;exact .nil _
 | cons v vs ih=>cases h with|cons _ _ _ cs ds h h'=>exact .cons _ _ _ _ _ (h.mono hm _ hl) (ih h')
theorem RepV.monoAux:∀ (n:Nat) {μ:Mu} {v:PV} {x:Value},SizeOf.sizeOf v<n->RepV w S μ v x->∀ {μ'},MuLe μ μ'->RepV w' S' μ' v x
 | 0,_,_,_,h,_,_,_=>by omega
 | n+1,_,_,_,hn,h,_,hl=>by
  cases h with
  | cell _ _ _ hv h=>exact .cell _ _ _ hv (h.mono hm _ hl)
  | agg _ _ _ hv h=>exact .agg _ _ _ hv (h.mono hm _ hl)
  | und=>exact .und _
  | any=>exact .any _ _
  | tup _ vs xs h=>
   refine .tup _ _ _ ?_
   have hn':SizeOf.sizeOf vs<n:=by simp at hn;omega
   clear hn
   induction vs generalizing xs with
   | nil=>cases h;exact .nil _
   | cons v vs ih=>
    cases h with
    | cons _ _ _ x xs h h'=>
     simp at hn'
     exact .cons _ _ _ _ _ (RepV.monoAux n (by omega) h hl) (ih _ h' (by omega))
theorem RepV.mono {μ:Mu} {v:PV} {x:Value} (h:RepV w S μ v x) {μ':Mu} (hl:MuLe μ μ'):RepV w' S' μ' v x:=RepV.monoAux hm _ (Nat.lt_succ_self _) h hl
theorem RepVL.mono {μ:Mu} {vs:List PV} {xs:List Value} (h:RepVL w S μ vs xs) {μ':Mu} (hl:MuLe μ μ'):RepVL w' S' μ' vs xs:=by
 induction vs generalizing xs with
 | nil=>cases h;exact .nil _
 | cons v vs ih=>cases h with|cons _ _ _ x xs h h'=>exact .cons _ _ _ _ _ (h.mono hm hl) (ih h')
end
theorem RepL.append {w:World} {S:Nat->Prop} {μ:Mu} {vs us:List PV} {cs ds:List Value} (h:RepL w S μ vs cs) (h':RepL w S μ us ds):RepL w S μ (vs++us) (cs++ds):=by
 induction vs generalizing cs with
 | nil=>cases h;exact h'
 | cons v vs ih=>cases h with|cons _ _ _ c1 c2 h1 h2=>rw[List.cons_append,List.append_assoc];exact .cons _ _ _ _ _ h1 (ih h2)
theorem RepL.split {w:World} {S:Nat->Prop} {μ:Mu} {vs us:List PV} {cs:List Value} (h:RepL w S μ (vs++us) cs):∃ c1 c2,cs=c1++c2/\RepL w S μ vs c1/\RepL w S μ us c2:=by
 induction vs generalizing cs with
 | nil=>exact⟨[],cs,rfl,.nil _,h⟩
 | cons v vs ih=>
  cases h with
  | cons _ _ _ c1 c2 h1 h2=>
   obtain⟨d1,d2,rfl,e1,e2⟩:=ih h2
   exact⟨c1++d1,d2,by simp,.cons _ _ _ _ _ h1 e1,e2⟩

theorem sumM_len {w:World} {S:Nat->Prop} {μ:Mu} {g:PV->Option Nat} (hg:∀ v n cs,g v=some n->RepC w S μ v cs->cs.length=n):
  ∀ (vs:List PV) (n:Nat) (cs:List Value),sumM g vs=some n->RepL w S μ vs cs->cs.length=n
 | [],n,cs,h,hr=>by cases hr;simp[sumM]at h;simpa using h
 | v::vs,n,cs,h,hr=>by
  cases hr with
  | cons _ _ _ c1 c2 h1 h2=>
   simp only[sumM]at h
   split at h
   ·rename_i m hm
    split at h
    ·rename_i m' hm'
     simp at h
     rw[List.length_append,hg v m c1 hm h1,sumM_len hg vs m' c2 hm' h2,h]
    ·cases h
   ·cases h
theorem nc_len {w:World} {S:Nat->Prop}:∀ (d:Nat) (μ:Mu) (v:PV) (n:Nat) (cs:List Value),nc d v=some n->RepC w S μ v cs->cs.length=n
 | 0,_,_,_,_,h,_=>by simp[nc]at h
 | d+1,μ,v,n,cs,h,hr=>by
  cases hr<;>simp only[nc]at h
  case agg vs hr=>exact sumM_len (fun v n cs h hr=>nc_len d μ v n cs h hr) vs n cs h hr
  all_goals (simp at h;simp[<-h])
theorem ncv_len {w:World} {S:Nat->Prop} {μ:Mu} {v:PV} {n:Nat} {cs:List Value} (h:ncv v=some n) (hr:RepC w S μ v cs):cs.length=n:=nc_len 8 μ v n cs h hr

theorem RepC.openq {w:World} {S:Nat->Prop} {μ:Mu} {v:PV} {cs:List Value} (h:RepC w S μ v cs):RepC w S μ (PE.openq v) cs:=by
 cases v<;>simp only[PE.openq]<;>first|exact h|skip
 case q x n=>
  cases h
  exact .agg _ _ _ (.cons _ _ _ [_] _ (.b _ _) (.cons _ _ _ [_] _ (.s _ _) (.cons _ _ _ [_] [] (.s _ _) (.nil _))))

theorem sub_rep {w:World} {S:Nat->Prop} {μ:Mu}:∀ (p:List Nat) (v:PV) (o:Nat) (u:PV) (cs:List Value),sub p v=some (o,u)->RepC w S μ v cs->
  ∃ c1 c2 c3,cs=c1++c2++c3/\c1.length=o/\RepC w S μ u c2
 | [],v,o,u,cs,h,hr=>by simp[sub]at h;obtain⟨rfl,rfl⟩:=h;exact⟨[],cs,[],by simp,rfl,hr⟩
 | f::p,v,o,u,cs,h,hr=>by
  have hr':=hr.openq
  simp only[sub]at h
  split at h
  ·rename_i vs hv
   rw[hv]at hr'
   cases hr' with
   | agg _ _ _ hL=>
    split at h
    ·rename_i o1 w1 ho hw
     split at h
     ·rename_i o2 u2 hs
      simp at h
      obtain⟨rfl,rfl⟩:=h
      have hsplit:vs=vs.take f++w1::vs.drop (f+1):=by
       have hlt:f<vs.length:=(List.getElem?_eq_some_iff.1 hw).1
       have he:vs[f]=w1:=(List.getElem?_eq_some_iff.1 hw).2
       rw[<-he,List.getElem_cons_drop,List.take_append_drop]
      rw[hsplit]at hL
      obtain⟨c1,c2,rfl,h1,h2⟩:=hL.split
      cases h2 with
      | cons _ _ _ d1 d2 h2 h3=>
       obtain⟨e1,e2,e3,rfl,he,hu⟩:=sub_rep p w1 o2 u2 d1 hs h2
       refine⟨c1++e1,e2,e3++d2,by simp,?_,hu⟩
       rw[List.length_append,he,sumM_len (fun v n cs h hr=>ncv_len h hr) _ _ _ ho h1]
     ·cases h
    ·cases h
  ·cases h
theorem setSub_rep {w:World} {S:Nat->Prop} {μ:Mu}:∀ (p:List Nat) (v:PV) (o:Nat) (u new v':PV) (cs ds:List Value),sub p v=some (o,u)->setSub p new v=some v'->
  RepC w S μ v cs->RepC w S μ new ds->(∀ cu,RepC w S μ u cu->cu.length=ds.length)->RepC w S μ v' (cs.take o++ds++cs.drop (o+ds.length))
 | [],v,o,u,new,v',cs,ds,h,hs,hr,hn,hlen=>by
  simp[sub]at h;obtain⟨rfl,rfl⟩:=h;simp[setSub]at hs;subst hs
  have:=hlen _ hr
  simpa [<-this]using hn
 | f::p,v,o,u,new,v',cs,ds,h,hs,hr,hn,hlen=>by
  have hr':=hr.openq
  simp only[sub]at h
  simp only[setSub]at hs
  split at h
  ·rename_i vs hv
   rw[hv]at hr' hs
   cases hr' with
   | agg _ _ _ hL=>
    split at h
    ·rename_i o1 w1 ho hw
     simp only[hw]at hs
     split at h
     ·rename_i o2 u2 hs2
      simp at h
      obtain⟨rfl,rfl⟩:=h
      split at hs
      ·rename_i w' hw'
       simp at hs
       subst hs
       have hlt:f<vs.length:=(List.getElem?_eq_some_iff.1 hw).1
       have hsplit:vs=vs.take f++w1::vs.drop (f+1):=by
        have he:vs[f]=w1:=(List.getElem?_eq_some_iff.1 hw).2
        rw[<-he,List.getElem_cons_drop,List.take_append_drop]
       have hset:vs.set f w'=vs.take f++w'::vs.drop (f+1):=by
        rw[List.set_eq_take_append_cons_drop,if_pos hlt]
       rw[hsplit]at hL
       obtain⟨c1,c2,rfl,h1,h2⟩:=hL.split
       cases h2 with
       | cons _ _ _ d1 d2 h2 h3=>
        have hc1:c1.length=o1:=sumM_len (fun v n cs h hr=>ncv_len h hr) _ _ _ ho h1
        obtain⟨e1,e2,e3,hd1,he,hu⟩:=sub_rep p w1 o2 u2 d1 hs2 h2
        have hel:=hlen e2 hu
        have ih:=setSub_rep p w1 o2 u2 new w' d1 ds hs2 hw' h2 hn hlen
        rw[hset]
        refine .agg _ _ _ ?_
        have:(c1++(d1++d2)).take (o1+o2)++ds++(c1++(d1++d2)).drop (o1+o2+ds.length)=c1++((d1.take o2++ds++d1.drop (o2+ds.length))++d2):=by
         subst hd1
         rw[<-hc1,<-he]
         simp[List.take_append,List.drop_append,Nat.add_assoc,<-hel]
         rw[List.take_of_length_le (by omega),List.drop_eq_nil_of_le (as:=c1) (by omega)]
         simp
        rw[this]
        exact h1.append (.cons _ _ _ _ _ ih h3)
      ·cases hs
     ·cases h
    ·cases h
  ·cases h

theorem fitsT_len {P:Program} {T:Nat} {v:PV} (h:fitsT P T v=true):∃ n,ncv v=some n/\szT P T=some n/\aggT P T=some (isAgg v):=by
 simp only[fitsT]at h
 split at h
 ·rename_i n m hn hm
  simp only[Bool.and_eq_true,beq_iff_eq]at h
  obtain⟨rfl,h2⟩:=h
  refine⟨n,hn,hm,?_⟩
  split at h2
  ·rename_i b hb;rw[hb,beq_iff_eq.1 h2]
  ·cases h2
 ·cases h

theorem Cont.get_cut (c:Cont) (lo n j:Nat) (hj:j<n):(c.cut lo n).get j=c.get (lo+j):=by
 cases c<;>simp only[Cont.cut,Cont.get]
 ·simp[List.getD,List.getElem?_drop,hj]
 ·simp[List.getD,List.getElem?_drop,hj]
 ·simp[List.getD,List.getElem?_drop,hj]
 ·rw[Nat.add_comm]
theorem Cont.len_cut (c:Cont) (lo n:Nat) (h:lo+n<=c.len):(c.cut lo n).len=n:=by
 cases c
 case fn=>rfl
 all_goals (simp only[Cont.cut,Cont.len]at *;rw[List.length_take,List.length_drop];omega)
theorem Cont.get_set (c c':Cont) (i j:Nat) (v:PV) (h:c.set i v=some c') (hi:i<c.len) (hj:j≠i):
  c'.len=c.len/\(c'.get j=c.get j\/∃ x n n',c.get j=.q x n/\c'.get j=.q x n'/\n<=n'):=by
 cases c<;>simp only[Cont.set]at h
 case ints k xs=>
  split at h
  ·split at h
   ·simp at h;subst h;refine⟨by simp[Cont.len],.inl ?_⟩
    simp[Cont.get,List.getD,List.getElem?_set_ne (Ne.symm hj)]
   ·cases h
  ·cases h
 case rats m xs=>
  split at h
  ·rename_i x n
   split at h
   ·simp at h;subst h;refine⟨by simp[Cont.len],.inl ?_⟩
    simp[Cont.get,List.getD,List.getElem?_set_ne (Ne.symm hj)]
   ·rename_i hlt
    simp at h;subst h;refine⟨by simp[Cont.len],.inr ⟨xs.getD j 0,m,n,rfl,?_,?_⟩⟩
    ·simp[Cont.get,List.getD,List.getElem?_set_ne (Ne.symm hj)]
    ·exact Nat.le_of_lt (Nat.lt_of_not_le (fun hle=>by rw[Nat.ble_eq_true_of_le hle]at hlt;cases hlt))
  ·cases h
 case vals vs=>
  simp at h;subst h;refine⟨by simp[Cont.len],.inl ?_⟩
  simp[Cont.get,List.getD,List.getElem?_set_ne (Ne.symm hj)]
 case fn n f=>
  split at h
  case h_2=>cases h
  simp at h;subst h;refine⟨rfl,.inl ?_⟩
  have:Nat.beq j i=false:=by rw[<-Bool.not_eq_true,Nat.beq_eq];exact hj
  simp[Cont.get,this]
theorem Cont.get_set_same (c c':Cont) (i:Nat) (v:PV) (h:c.set i v=some c') (hi:i<c.len):∃ x n n',c'.get i=v\/(v=.q x n/\c'.get i=.q x n'/\n<=n'):=by
 cases c<;>simp only[Cont.set]at h
 case ints k xs=>
  split at h
  ·split at h
   ·rename_i hk;simp at hk;subst hk;simp at h;subst h;refine⟨0,0,0,.inl ?_⟩
    simp only[Cont.len]at hi
    simp[Cont.get,List.getD,hi]
   ·cases h
  ·cases h
 case rats m xs=>
  split at h
  ·rename_i x n
   simp only[Cont.len]at hi
   split at h
   ·rename_i hle
    simp at h;subst h;refine⟨x,n,m,.inr ⟨rfl,?_,Nat.le_of_ble_eq_true hle⟩⟩
    simp[Cont.get,List.getD,hi]
   ·simp at h;subst h;refine⟨x,n,n,.inl ?_⟩
    simp[Cont.get,List.getD,hi]
  ·cases h
 case vals vs=>simp at h;subst h;refine⟨0,0,0,.inl ?_⟩;simp only[Cont.len]at hi;simp[Cont.get,List.getD,hi]
 case fn n f=>
  split at h
  case h_2=>cases h
  simp at h;subst h;refine⟨0,0,0,.inl ?_⟩
  simp[Cont.get]

theorem noRef_rep {w:World} {S:Nat->Prop}:∀ (d:Nat) (μ:Mu) (v:PV),noRef d v=true->(∀ cs,RepC w S μ v cs->RepC w S qR v cs)/\(∀ x,RepV w S μ v x->RepV w S qR v x)
 | 0,_,_,h=>by simp[noRef]at h
 | d+1,μ,v,h=>by
  have hL:∀ (vs:List PV),vs.all (noRef d)=true->∀ cs,RepL w S μ vs cs->RepL w S qR vs cs:=by
   intro vs
   induction vs with
   | nil=>intro _ cs hr;cases hr;exact .nil _
   | cons u us ih=>
    intro ha cs hr
    simp at ha
    cases hr with
    | cons _ _ _ c1 c2 h1 h2=>exact .cons _ _ _ _ _ ((noRef_rep d μ u ha.1).1 _ h1) (ih (by simpa using ha.2) _ h2)
  have hVL:∀ (vs:List PV),vs.all (noRef d)=true->∀ cs,RepVL w S μ vs cs->RepVL w S qR vs cs:=by
   intro vs
   induction vs with
   | nil=>intro _ cs hr;cases hr;exact .nil _
   | cons u us ih=>
    intro ha cs hr
    simp at ha
    cases hr with
    | cons _ _ _ c1 c2 h1 h2=>exact .cons _ _ _ _ _ ((noRef_rep d μ u ha.1).2 _ h1) (ih (by simpa using ha.2) _ h2)
  have hC:∀ cs,RepC w S μ v cs->RepC w S qR v cs:=by
   intro cs hr
   cases hr<;>simp only[noRef]at h
   case b=>exact .b _ _
   case bl=>exact .bl _ _
   case i=>exact .i _ _ _
   case s=>exact .s _ _
   case q=>exact .q _ _ _ (by assumption)
   case agg vs hr=>exact .agg _ _ _ (hL vs h _ hr)
   case nil=>exact .nil _
   case lst e c a o cap cs h1 h2 h3 h4 h5=>exact .lst _ e c a o cap cs h1 h2 h3 h4 h5
   case ref u a o cs h1 h2 h3=>exact .ref _ u a o cs h1 h2 h3
   case sl=>cases h
   case ptr=>cases h
   case clo f caps xs hr=>exact .clo _ f caps xs (hVL caps h _ hr)
   case nilf=>exact .nilf _
   case ifc t u x hr=>exact .ifc _ t u x ((noRef_rep d μ u h).2 _ hr)
   case nili=>exact .nili _
   case nilp=>exact .nilp _
   case w u x hr=>exact .w _ u x hr
  refine⟨hC,fun x hr => ?_⟩
  cases hr with
  | cell _ _ _ hv hr=>exact .cell _ _ _ hv (hC _ hr)
  | agg _ _ _ hv hr=>exact .agg _ _ _ hv (hC _ hr)
  | und=>exact .und _
  | any=>exact .any _ _
  | tup _ vs xs hr=>simp only[noRef]at h;exact .tup _ _ _ (hVL vs h _ hr)
end
section
open Go
def qD (μ:Mu):Cont->Mu
 | .vals _=>μ
 | _=>qR
theorem rowMu_le {μ μ':Mu} (h:MuLe μ μ') (c:Cont):MuLe (qD μ c) (qD μ' c):=by
 cases c<;>first|exact h|exact MuLe.refl _
theorem rowMu_sub (μ:Mu) (c:Cont):MuLe (qD μ c) μ:=by
 cases c<;>first|exact MuLe.refl _|exact MuLe.none _
def BlkRel (w:World) (S:Nat->Prop) (μ:Mu) (k:Blk) (a z:Nat):Prop:=
 ∃ (c:Array Value) (T:Nat) (cs:Nat->List Value),w.heap[a]? = some (.cells c T (0,0))/\c.size=z/\k.c.len*k.e<=z/\
  (∀ i,i<k.c.len->RepC w S (qD μ k.c) (k.c.get i) (cs i))/\(∀ i,i<k.c.len->(cs i).length=k.e)/\
  (∀ i j,i<k.c.len->j<k.e->c[i*k.e+j]? = (cs i)[j]?)
structure HRel (w:World) (S:Nat->Prop) (μ:Mu) (hf:Nat->Option Blk):Prop where
 blk:∀ b k,hf b=some k->∃ a z,μ b=some (a,z)/\BlkRel w S μ k a z
 sep:∀ b k a z,hf b=some k->μ b=some (a,z)->¬ S a
 inj:∀ b b' k k' a z z',hf b=some k->hf b'=some k'->μ b=some (a,z)->μ b'=some (a,z')->b=b'
 lt:∀ a,S a->a<w.heap.size

theorem BlkRel.lt {w:World} {S:Nat->Prop} {μ:Mu} {k:Blk} {a z:Nat} (h:BlkRel w S μ k a z):a<w.heap.size:=by
 obtain⟨c,T,cs,hg,_⟩:=h
 exact(Array.getElem?_eq_some_iff.1 hg).1
theorem BlkRel.mono {w w':World} {S S':Nat->Prop} {μ μ':Mu} {k:Blk} {a z:Nat} (hm:Mono w w' S S') (hl:MuLe μ μ') (ha:w'.heap[a]? = w.heap[a]?)
  (h:BlkRel w S μ k a z):BlkRel w' S' μ' k a z:=by
 obtain⟨c,T,cs,hg,hz,hle,hr,hlen,hc⟩:=h
 exact⟨c,T,cs,ha.trans hg,hz,hle,fun i hi=>(hr i hi).mono hm _ (rowMu_le hl _),hlen,hc⟩
theorem cell_block {w w':World} {a:Nat} (h:w'.heap[a]? = w.heap[a]?) (o:Nat):w'.cell? ⟨a,o,none⟩=w.cell? ⟨a,o,none⟩:=by simp[World.cell?,h]

abbrev Ws:=List (Nat × Option Blk)
def wlook:Ws->Nat->Option (Option Blk)
 | [],_=>none
 | (b,k)::r,c=>if b=c then some k else wlook r c
theorem wlook_mem {ws:Ws} {c:Nat} {k:Option Blk} (h:wlook ws c=some k):(c,k)∈ws:=by
 induction ws with
 | nil=>cases h
 | cons x r ih=>
  obtain⟨b,k'⟩:=x
  simp only[wlook]at h
  split at h
  ·rename_i hb;subst hb;cases h;exact List.mem_cons_self ..
  ·exact List.mem_cons_of_mem _ (ih h)
theorem wlook_some {ws:Ws} {c:Nat} {k:Option Blk} (h:(c,k)∈ws):∃ k',wlook ws c=some k':=by
 induction ws with
 | nil=>cases h
 | cons x r ih=>
  obtain⟨b,k'⟩:=x
  by_cases hb:b=c
  ·exact⟨k',by simp[wlook,hb]⟩
  ·cases h with
   | head=>exact absurd rfl hb
   | tail _ h=>obtain⟨k'',h⟩:=ih h;exact⟨k'',by simp[wlook,hb,h]⟩
def effH (hf:Nat->Option Blk) (id:Nat) (e:Eff):Nat->Option Blk:=fun b=>
 match wlook e.2.1 b with
 | some k=>k
 | none=>if id<=b/\b<id+e.2.2.length then e.2.2[b-id]? else hf b

structure Post (w w':World) (S S':Nat->Prop) (μ μ':Mu) (id:Nat) (e:Eff) (v:Value):Prop where
 os:w'.os=w.os
 tape:w'.tape=w.tape
 output:w'.output=w.output
 size:w.heap.size<=w'.heap.size
 old:∀ n,n<w.heap.size->(∀ b k z,(b,k)∈e.2.1->μ b≠some (n,z))->w'.heap[n]? = w.heap[n]?
 subS:∀ n,S n->S' n
 newS:∀ n,S' n->S n\/(w.heap.size<=n/\n<w'.heap.size)\/∃ b z,(b,none)∈e.2.1/\μ b=some (n,z)
 rep:RepV w' S' μ' e.1 v
 mu:∀ b,(b<id\/id+e.2.2.length<=b)->μ' b=μ b
 wr:∀ b k,(b,some k)∈e.2.1->∃ a z,μ b=some (a,z)/\BlkRel w' S' μ' k a z
 nw:∀ j k,e.2.2[j]? = some k->∃ a z,μ' (id+j)=some (a,z)/\BlkRel w' S' μ' k a z/\¬ S' a/\(w.heap.size<=a\/∃ b z',(b,none)∈e.2.1/\μ b=some (a,z'))
 nwInj:∀ j j' a z z',j<e.2.2.length->j'<e.2.2.length->μ' (id+j)=some (a,z)->μ' (id+j')=some (a,z')->j=j'
def OpOK (P:Program) (t:List PV) (id:Nat) (hf:Nat->Option Blk) (o:Oper) (e:Eff):Prop:=
 ∀ (w:World) (S:Nat->Prop) (μ:Mu) (a:Act) (K:Act->World->Prop) (Q:Exit->Act->World->Prop),
  (∀ x,x∈o.op.operands->RepV w S μ (evO t x) (a.eval x))->HRel w S μ hf->(∀ j,j<e.2.2.length->μ (id+j)=none)->
  (∀ v w' S' μ',Post w w' S S' μ μ' id e v->K (a.put o.dst v) w')->o.wp P a w K Q

section
variable {w w':World} {S S':Nat->Prop} {μ μ':Mu} {id:Nat} {e:Eff} {v:Value}
theorem Post.muLe (p:Post w w' S S' μ μ' id e v) (hn:∀ j,j<e.2.2.length->μ (id+j)=none):MuLe μ μ':=by
 intro b r hb
 by_cases h:b<id\/id+e.2.2.length<=b
 ·rw[p.mu b h];exact hb
 ·exfalso
  have:=hn (b-id) (by omega)
  rw[show id+(b-id)=b by omega,hb]at this
  cases this
theorem Post.mono {hf:Nat->Option Blk} (p:Post w w' S S' μ μ' id e v) (hh:HRel w S μ hf) (hl:∀ b k,(b,k)∈e.2.1->∃ kb,hf b=some kb):Mono w w' S S':=
 ⟨p.subS,fun a ha o=>cell_block (p.old a (hh.lt a ha) (fun b k z hb hmu=>by
  obtain⟨kb,hkb⟩:=hl b k hb
  exact hh.sep b kb a z hkb hmu ha)) o⟩
theorem Post.hrel {hf:Nat->Option Blk} (p:Post w w' S S' μ μ' id e v) (hh:HRel w S μ hf) (hl:∀ b k,(b,k)∈e.2.1->∃ kb,hf b=some kb)
  (hnd:∀ b k k',(b,k)∈e.2.1->(b,k')∈e.2.1->k=k') (hn:∀ j,j<e.2.2.length->μ (id+j)=none) (_hfn:∀ j,j<e.2.2.length->hf (id+j)=none):HRel w' S' μ' (effH hf id e):=by
 have hle:=p.muLe hn
 have hm:=p.mono hh hl
 -- what stands behind: a block of before that was not written, a written one, or a new one
 have cases3:∀ b k,effH hf id e b=some k->(wlook e.2.1 b=none/\¬ (id<=b/\b<id+e.2.2.length)/\hf b=some k)\/((b,some k)∈e.2.1)\/
   (id<=b/\b<id+e.2.2.length/\e.2.2[b-id]? = some k):=by
  intro b k hb
  simp only[effH]at hb
  split at hb
  ·rename_i k' hk';subst hb;exact .inr (.inl (wlook_mem hk'))
  ·rename_i hw
   split at hb
   ·rename_i hr;exact .inr (.inr ⟨hr.1,hr.2,hb⟩)
   ·rename_i hr;exact .inl ⟨hw,hr,hb⟩
 have same:∀ b k a z,wlook e.2.1 b=none->hf b=some k->μ b=some (a,z)->a<w.heap.size->w'.heap[a]? = w.heap[a]? := by
  intro b k a z hw hb hmu hlt
  refine p.old a hlt (fun b' k' z' hmem hmu' => ?_)
  obtain⟨kb,hkb⟩:=hl b' k' hmem
  have:=hh.inj b b' k kb a z z' hb hkb hmu hmu'
  subst this
  obtain⟨k'',hk''⟩:=wlook_some hmem
  rw[hw]at hk'';cases hk''
 -- the real block of each
 have real:∀ b k,effH hf id e b=some k->∃ a z,μ' b=some (a,z)/\BlkRel w' S' μ' k a z/\¬ S' a:=by
  intro b k hb
  rcases cases3 b k hb with ⟨hw,hr,hb'⟩|hmem|⟨h1,h2,h3⟩
  ·obtain⟨a,z,hmu,hrel⟩:=hh.blk b k hb'
   refine⟨a,z,hle _ _ hmu,hrel.mono hm hle (same b k a z hw hb' hmu hrel.lt),fun hS => ?_⟩
   rcases p.newS a hS with hS|⟨hge,_⟩|⟨c,zc,hc,hmuc⟩
   ·exact hh.sep b k a z hb' hmu hS
   ·have:=hrel.lt;omega
   ·obtain⟨kc,hkc⟩:=hl c _ hc
    have:=hh.inj b c k kc a z zc hb' hkc hmu hmuc
    subst this
    obtain⟨k'',hk''⟩:=wlook_some hc
    rw[hw]at hk'';cases hk''
  ·obtain⟨a,z,hmu,hrel⟩:=p.wr b k hmem
   obtain⟨kb,hkb⟩:=hl b _ hmem
   obtain⟨a',z',hmu',hrel'⟩:=hh.blk b kb hkb
   refine⟨a,z,hle _ _ hmu,hrel,fun hS => ?_⟩
   rcases p.newS a hS with hS|⟨hge,_⟩|⟨c,zc,hc,hmuc⟩
   ·exact hh.sep b kb a z hkb hmu hS
   ·have e1:=hmu.symm.trans hmu';cases e1
    have:=hrel'.lt;omega
   ·obtain⟨kc,hkc⟩:=hl c _ hc
    have:=hh.inj b c kb kc a z zc hkb hkc hmu hmuc
    subst this
    have:=hnd b _ _ hmem hc;cases this
  ·obtain⟨a,z,hmu,hrel,hS,_⟩:=p.nw (b-id) k h3
   rw[show id+(b-id)=b by omega]at hmu
   exact⟨a,z,hmu,hrel,hS⟩
 -- an old one that is left was there, and is not given up
 have oldOf:∀ b k,effH hf id e b=some k->¬ (id<=b/\b<id+e.2.2.length)->∃ kb,hf b=some kb/\(b,none) ∉ e.2.1:=by
  intro b k hb hr
  rcases cases3 b k hb with ⟨hw,_,hb'⟩|hmem|⟨h1,h2,_⟩
  ·exact⟨k,hb',fun hmem=>by obtain⟨k'',hk''⟩:=wlook_some hmem;rw[hw]at hk'';cases hk''⟩
  ·obtain⟨kb,hkb⟩:=hl b _ hmem
   exact⟨kb,hkb,fun hmem'=>by have:=hnd b _ _ hmem hmem';cases this⟩
  ·exact absurd ⟨h1,h2⟩ hr
 have oldNew:∀ b k b' k' a z z',effH hf id e b=some k->effH hf id e b'=some k'->¬ (id<=b/\b<id+e.2.2.length)->(id<=b'/\b'<id+e.2.2.length)->
   μ' b=some (a,z)->μ' b'=some (a,z')->False:=by
  intro b k b' k' a z z' hb hb' hr hr' hmu hmu'
  obtain⟨kb,hkb,hnot⟩:=oldOf b k hb hr
  obtain⟨a0,z0,hmu0,hrel0⟩:=hh.blk b kb hkb
  have e1:=(hle _ _ hmu0).symm.trans hmu
  cases e1
  rcases cases3 b' k' hb' with ⟨_,h,_⟩|hmem|⟨h1,h2,h3⟩
  ·exact h hr'
  ·obtain⟨kb',hkb'⟩:=hl b' _ hmem
   have:=_hfn (b'-id) (by omega)
   rw[show id+(b'-id)=b' by omega,hkb']at this
   cases this
  ·obtain⟨a1,z1,hmu1,_,_,hplace⟩:=p.nw (b'-id) k' h3
   rw[show id+(b'-id)=b' by omega,hmu']at hmu1
   cases hmu1
   rcases hplace with hge|⟨c,z2,hc,hmuc⟩
   ·have:=hrel0.lt;omega
   ·obtain⟨kc,hkc⟩:=hl c _ hc
    have:=hh.inj b c kb kc a z z2 hkb hkc hmu0 hmuc
    subst this
    exact hnot hc
 refine⟨fun b k hb=>let ⟨a,z,h1,h2,_⟩:=real b k hb;⟨a,z,h1,h2⟩,fun b k a z hb hmu => ?_,fun b b' k k' a z z' hb hb' hmu hmu' => ?_,fun a ha => ?_⟩
 ·obtain⟨a',z',h1,_,h3⟩:=real b k hb
  have:=h1.symm.trans hmu;cases this;exact h3
 ·by_cases hr:id<=b/\b<id+e.2.2.length
  ·by_cases hr':id<=b'/\b'<id+e.2.2.length
   ·have:=p.nwInj (b-id) (b'-id) a z z' (by omega) (by omega) (by rw[show id+(b-id)=b by omega];exact hmu) (by rw[show id+(b'-id)=b' by omega];exact hmu')
    omega
   ·exact(oldNew b' k' b k a z' z hb' hb hr' hr hmu' hmu).elim
  ·by_cases hr':id<=b'/\b'<id+e.2.2.length
   ·exact(oldNew b k b' k' a z z' hb hb' hr hr' hmu hmu').elim
   ·obtain⟨kb,hkb,_⟩:=oldOf b k hb hr
    obtain⟨kb',hkb',_⟩:=oldOf b' k' hb' hr'
    rw[p.mu b (by omega)]at hmu
    rw[p.mu b' (by omega)]at hmu'
    exact hh.inj b b' kb kb' a z z' hkb hkb' hmu hmu'
 ·rcases p.newS a ha with h|h|⟨c,zc,hc,hmuc⟩
  ·have:=hh.lt a h;have:=p.size;omega
  ·exact h.2
  ·obtain⟨kc,hkc⟩:=hl c _ hc
   obtain⟨a1,z1,h1,h2⟩:=hh.blk c kc hkc
   have e1:=hmuc.symm.trans h1;cases e1
   have:=h2.lt;have:=p.size;omega
end
end
section
open Go
section
variable {P:Program} {w:World} {S:Nat->Prop} {μ:Mu}
theorem Post.same {id:Nat} {pv:PV} {v:Value} (h:RepV w S μ pv v):Post w w S S μ μ id (pv,[],[]) v where
 os:=rfl
 tape:=rfl
 output:=rfl
 size:=Nat.le_refl _
 old:=fun _ _ _=>rfl
 subS:=fun _ h=>h
 newS:=fun _ h=>.inl h
 rep:=h
 mu:=fun _ _=>rfl
 wr:=fun _ _ h=>by cases h
 nw:=fun _ _ h=>by simp at h
 nwInj:=fun _ _ _ _ _ h=>by simp at h

theorem wp_val {o:Oper} {a:Act} {w w':World} {K:Act->World->Prop} {Q:Exit->Act->World->Prop} {v:Value} (h:(execOp a.eval o).run P w=.ok (.value v) w')
  (hk:K (a.put o.dst v) w'):o.wp P a w K Q:=by
 unfold Oper.wp;rw[h];exact hk
theorem wp_skp {o:Oper} {a:Act} {w w':World} {K:Act->World->Prop} {Q:Exit->Act->World->Prop} (h:(execOp a.eval o).run P w=.ok .skip w')
  (hk:K (a.put o.dst undef) w'):o.wp P a w K Q:=by
 unfold Oper.wp;rw[h];exact hk

theorem OpOK.pure {t:List PV} {id:Nat} {hf:Nat->Option Blk} {o:Oper} {pv:PV}
  (h:∀ (w:World) (S:Nat->Prop) (μ:Mu) (a:Act),(∀ x,x∈o.op.operands->RepV w S μ (evO t x) (a.eval x))->HRel w S μ hf->
   ∃ v,(execOp a.eval o).run P w=.ok (.value v) w/\RepV w S μ pv v):OpOK P t id hf o (pv,[],[]):=by
 intro w S μ a K Q hr hh _ hK
 obtain⟨v,h1,h2⟩:=h w S μ a hr hh
 exact wp_val h1 (hK v w S μ (Post.same h2))

theorem repC_one {v:PV} {cs:List Value} (h:RepC w S μ v cs):∀ c∈cs,c.oneCell'=true:=by
 refine RepC.rec (motive_1:=fun _ _ cs _=>∀ c∈cs,c.oneCell'=true) (motive_2:=fun _ _ cs _=>∀ c∈cs,c.oneCell'=true)
  (motive_3:=fun _ _ _ _=>True) (motive_4:=fun _ _ _ _=>True)
  ?_ ?_ ?_ ?_ ?_ ?_ ?_ ?_ ?_ ?_ ?_ ?_ ?_ ?_ ?_ ?_ ?_ ?_ ?_ ?_ ?_ ?_ ?_ ?_ ?_ ?_ h
 case refine_6=>intro _ _ _ _ ih;exact ih
 case refine_18=>intro _ c hc;cases hc
 case refine_17=>intro _ _ _ _ ih;exact ih
 case refine_19=>intro _ _ _ c1 c2 _ _ h1 h2 c hc;rcases List.mem_append.1 hc with hc|hc;exact h1 c hc;exact h2 c hc
 all_goals (intros;first|trivial|skip)
 case refine_5=>
  rename_i c hc
  simp at hc
  rcases hc with rfl|rfl|rfl<;>rfl
 all_goals simp_all [Value.oneCell']
theorem repV_ofVal (v:Value):RepV w S μ (ofVal v) v:=by
 unfold ofVal
 split<;>first|exact .any _ _|exact .cell _ _ _ rfl (by constructor)
theorem repV_evO {t:List PV} {a:Act} (ht:∀ k,RepV w S μ (t.getD k .any) (a.tmps.getD k undef)) (x:Operand):RepV w S μ (evO t x) (a.eval x):=by
 cases x with
 | tmp k=>exact ht k
 | const v=>exact repV_ofVal v
 | global g=>exact .any _ _
 | func f=>exact .cell _ _ _ rfl (.clo _ f [] [] (.nil _))
theorem qU {k:IntKind} {n:Int} {x:Value} (h:RepV w S μ (.i k n) x):x=.int k n:=by
 cases h with
 | cell _ _ _ _ h=>cases h;rfl
 | agg _ _ _ hv=>cases hv
theorem repV_s {n:ByteArray} {x:Value} (h:RepV w S μ (.s n) x):x=.string n:=by
 cases h with
 | cell _ _ _ _ h=>cases h;rfl
 | agg _ _ _ hv=>cases hv
theorem repV_b {n:Bool} {x:Value} (h:RepV w S μ (.b n) x):x=.bool n:=by
 cases h with
 | cell _ _ _ _ h=>cases h;rfl
 | agg _ _ _ hv=>cases hv
theorem repV_bl {n:Bool} {x:Value} (h:RepV w S μ (.bl n) x):x=.bool n:=by
 cases h with
 | cell _ _ _ _ h=>cases h;rfl
 | agg _ _ _ hv=>cases hv
theorem repV_nil {x:Value} (h:RepV w S μ .nil x):x=.slice none 0 0:=by
 cases h with
 | cell _ _ _ _ h=>cases h;rfl
 | agg _ _ _ hv=>cases hv
theorem repV_bof {v:PV} {n:Bool} {x:Value} (hb:bof v=some n) (h:RepV w S μ v x):x=.bool n:=by
 cases v<;>simp[bof]at hb
 ·subst hb;exact repV_b h
 ·subst hb;exact repV_bl h
theorem qC (k:IntKind) (n:Int):RepV w S μ (.i k n) (.int k n):=.cell _ _ _ rfl (.i _ _ _)
theorem repV_mk_b (x:Bool):RepV w S μ (.b x) (.bool x):=.cell _ _ _ rfl (.b _ _)
theorem repV_mk_bl (x:Bool):RepV w S μ (.bl x) (.bool x):=.cell _ _ _ rfl (.bl _ _)
theorem repV_mk_s (x:ByteArray):RepV w S μ (.s x) (.string x):=.cell _ _ _ rfl (.s _ _)
theorem repV_cells {v:PV} {n:Nat} {x:Value} (hn:ncv v=some n) (h:RepV w S μ v x):
  ∃ cs,RepC w S μ v cs/\cs.length=n/\x.cells=cs.toArray/\(isAgg v=true->x=.agg cs.toArray)/\(isAgg v=false->cs=[x]/\x.oneCell'=true):=by
 cases h with
 | cell _ _ _ hv h=>
  have h1:=repC_one h x (by simp)
  exact⟨[x],h,ncv_len hn h,by cases x<;>first|rfl|simp[Value.oneCell']at h1,fun h'=>(by rw[hv]at h';cases h'),fun _=>⟨rfl,h1⟩⟩
 | agg _ _ cs hv h=>exact⟨cs,h,ncv_len hn h,rfl,fun _=>rfl,fun h'=>by rw[hv]at h';cases h'⟩
 | tup=>simp[ncv,nc]at hn
 | und=>simp[ncv,nc]at hn
 | any=>simp[ncv,nc]at hn
theorem repV_of_cells {v:PV} {cs:List Value} (h:RepC w S μ v cs):(isAgg v=true->RepV w S μ v (.agg cs.toArray))/\(∀ x,isAgg v=false->cs=[x]->RepV w S μ v x):=
 ⟨fun hv=>.agg _ _ _ hv h,fun x hv hx=>.cell _ _ _ hv (hx▸h)⟩

theorem szT_info {T n:Nat} (h:szT P T=some n):∃ i,P.info? T=some i/\i.size=n:=by
 unfold szT at h;split at h
 ·rename_i i hi;simp at h;exact⟨i,hi,h⟩
 ·cases h
theorem byT_info {T n:Nat} (h:byT P T=some n):∃ i,P.info? T=some i/\i.bytes=n:=by
 unfold byT at h;split at h
 ·rename_i i hi;simp at h;exact⟨i,hi,h⟩
 ·cases h
theorem zcT_info {T:Nat} {cs:List Value} (h:zcT P T=some cs):∃ i z,P.info? T=some i/\i.zero=some z/\z.cells.toList=cs:=by
 unfold zcT at h;split at h
 ·rename_i i hi;split at h
  ·rename_i z hz;simp at h;exact⟨i,z,hi,hz,h⟩
  ·cases h
 ·cases h
theorem elT_spec {T E:Nat} (h:elT P T=some E):P.underlying T=some (.slice E):=by
 unfold elT at h;split at h
 ·rename_i e he;simp at h;subst h;exact he
 ·cases h
theorem arrT_spec {T n E:Nat} (h:arrT P T=some (n,E)):P.underlying T=some (.array n E):=by
 unfold arrT at h;split at h
 ·rename_i n' e he;simp at h;obtain⟨rfl,rfl⟩:=h;exact he
 ·cases h
theorem intT_spec {T:Nat} {k:IntKind} (h:intT P T=some k):P.underlying T=some (.int k):=by
 unfold intT at h;split at h
 ·rename_i k' hk;simp at h;subst h;exact hk
 ·cases h
theorem fldT_spec {T f:Nat} {fd:Field} (h:fldT P T f=some fd):∃ fs,P.underlying T=some (.struct fs)/\fs[f]? = some fd:=by
 unfold fldT at h;split at h
 ·rename_i fs hfs;exact⟨fs,hfs,h⟩
 ·cases h
theorem run_zeroValue {T:Nat} {i:TypeInfo} {z:Value} (hi:P.info? T=some i) (hz:i.zero=some z):(zeroValue T).run P w=.ok z w:=by
 simp[zeroValue,typeInfo,hi,hz]
theorem run_sizeOf {T n:Nat} (h:szT P T=some n):(Go.sizeOf T).run P w=.ok n w:=by
 obtain⟨i,hi,rfl⟩:=szT_info h
 simp[Go.sizeOf,typeInfo,hi]
theorem underlying_of_aggT {T:Nat} (h:aggT P T=some true):∃ d,P.underlying T=some d/\d.isRow=true:=by
 unfold aggT at h;split at h
 ·rename_i fs hd;exact⟨_,hd,rfl⟩
 ·rename_i n e hd;exact⟨_,hd,rfl⟩
 ·cases h
 ·cases h
theorem run_isAgg {T:Nat} {b:Bool} (h:aggT P T=some b) (w:World):(Go.isAgg T).run P w=.ok b w:=by
 unfold aggT at h
 split at h
 ·rename_i fs hd;simp at h;subst h;simp[Go.isAgg,run_underlying hd]
 ·rename_i n e hd;simp at h;subst h;simp[Go.isAgg,run_underlying hd]
 ·rename_i d h1 h2 hd
  simp at h;subst h
  simp only[Go.isAgg,Sem.run_bind,run_underlying hd,Result.andThen_ok]
  cases d<;>first|rfl|exact absurd rfl (h1 _)|exact absurd rfl (h2 _ _)
 ·cases h

def muNew (μ:Mu) (id a z:Nat):Mu:=fun b=>if b=id then some (a,z)else μ b
theorem muNew_le {id a z:Nat} (h:μ id=none):MuLe μ (muNew μ id a z):=by
 intro b r hb
 unfold muNew
 split
 ·rename_i e;subst e;rw[h]at hb;cases hb
 ·exact hb
theorem Mono.alloc (w:World) (S:Nat->Prop) (o:Obj) (hlt:∀ a,S a->a<w.heap.size):Mono w (w.alloc o) S S:=
 ⟨fun _ h=>h,fun a ha i=>World.cell?_alloc_lt w o ⟨a,i,none⟩ (hlt a ha)⟩
theorem Post.newBlk {id:Nat} {k:Blk} {pv:PV} {v:Value} {cells:Array Value} {T:Nat} (hlt:∀ a,S a->a<w.heap.size) (hid:μ id=none)
  (cs:Nat->List Value) (hle:k.c.len*k.e<=cells.size) (hr:∀ i,i<k.c.len->RepC w S (qD μ k.c) (k.c.get i) (cs i)) (hl:∀ i,i<k.c.len->(cs i).length=k.e)
  (hc:∀ i j,i<k.c.len->j<k.e->cells[i*k.e+j]? = (cs i)[j]?)
  (hv:RepV (w.alloc (.cells cells T)) S (muNew μ id w.heap.size cells.size) pv v):
  Post w (w.alloc (.cells cells T)) S S μ (muNew μ id w.heap.size cells.size) id (pv,[],[k]) v:=by
 have hm:=Mono.alloc w S (.cells cells T) hlt
 have hmu:=muNew_le (μ:=μ) (a:=w.heap.size) (z:=cells.size) hid
 refine⟨rfl,rfl,rfl,by simp,fun n hn _=>heap_alloc_old w _ n hn,fun _ h=>h,fun _ h=>.inl h,hv,fun b hb => ?_,fun _ _ h=>(by cases h),fun j k' hj => ?_,fun j j' a z z' hj hj' _ _ => ?_⟩
 ·simp at hb;unfold muNew;rw[if_neg (by omega)]
 ·simp at hj
  rcases j with _|j
  ·simp at hj;subst hj
   refine⟨w.heap.size,cells.size,by simp[muNew],⟨cells,T,cs,heap_alloc_new w _,rfl,hle,fun i hi=>(hr i hi).mono hm _ (rowMu_le hmu _),hl,hc⟩,fun h => ?_,.inl (Nat.le_refl _)⟩
   have:=hlt _ h;omega
  ·simp at hj
 ·simp at hj hj';omega
theorem Post.newImm {id:Nat} {pv:PV} {v:Value} {w':World} (hos:w'.os=w.os) (htape:w'.tape=w.tape) (hout:w'.output=w.output) (hsize:w'.heap.size=w.heap.size+1)
  (hold:∀ n,n<w.heap.size->w'.heap[n]? = w.heap[n]?) (hv:RepV w' (fun n=>S n\/n=w.heap.size) μ pv v):
  Post w w' S (fun n=>S n\/n=w.heap.size) μ μ id (pv,[],[]) v:=
 ⟨hos,htape,hout,by omega,fun n hn _=>hold n hn,fun _ h=>.inl h,fun n h=>h.imp (fun x=>x) (fun e=>(by subst e;omega)),hv,fun _ _=>rfl,fun _ _ h=>(by cases h),
  fun _ _ h=>(by simp at h),fun _ _ _ _ _ h=>(by simp at h)⟩
end
end
section
open Go
def OpR.has:OpR->Eff->Prop
 | .fail,_=>False
 | .one e,e'=>e'=e
 | .cond b e,e'=>b=true/\e'=e
@[simp] theorem has_p1 {v:PV} {e:Eff}:(p1 v).has e↔e=(v,[],[]):=Iff.rfl
@[simp] theorem has_pc {b:Bool} {v:PV} {e:Eff}:(pc b v).has e↔b=true/\e=(v,[],[]):=Iff.rfl
@[simp] theorem has_fail {e:Eff}:OpR.fail.has e↔False:=Iff.rfl
@[simp] theorem has_one {a e:Eff}:(OpR.one a).has e↔e=a:=Iff.rfl
@[simp] theorem has_cond {b:Bool} {a e:Eff}:(OpR.cond b a).has e↔b=true/\e=a:=Iff.rfl
theorem has_withC {o:Option Bool} {r:OpR} {e:Eff} (h:(withC o r).has e):holds o/\r.has e:=by
 cases o with
 | none=>exact⟨trivial,h⟩
 | some b=>
  cases r with
  | fail=>exact h.elim
  | one e'=>exact⟨h.1,h.2⟩
  | cond c e'=>
   obtain⟨h1,h2⟩:=h
   simp only[Bool.and_eq_true]at h1
   exact⟨h1.1,h1.2,h2⟩
theorem lenOk_le {c:Cont} {n:Nat} (h:lenOk c n=true) (h2:holds (lenC c n)):n<=c.len:=by
 cases c<;>simp only[lenOk,lenC,holds,Nat.ble_eq]at h h2<;>first|exact h|exact h2
theorem holds_oand {a b:Option Bool} (h:holds (oand a b)):holds a/\holds b:=by
 cases a<;>cases b<;>simp_all [oand,holds]
theorem arS_has {k:IntKind} {v:Int} {e:Eff} (h:(arS k v).has e):e=(.i k (k.wrap v),[],[]):=by
 cases k<;>simp only[arS,has_p1,has_pc,Bool.and_eq_true,decide_eq_true_eq]at h<;>first|exact h|skip
 rw[h.2]
 have:IntKind.i64.wrap v=v:=by
  simp only[IntKind.wrap,IntKind.bits,IntKind.signed]
  simp
  omega
 rw[this]
theorem arA_has {k:IntKind} {v:Int} {e:Eff} (h:(arA k v).has e):e=(.i k (k.wrap v),[],[]):=by
 cases k<;>simp only[arA,has_p1,has_pc,Bool.and_eq_true,decide_eq_true_eq]at h<;>first|exact h|skip
 ·rw[h.2]
  have:IntKind.i64.wrap v=v:=by
   simp only[IntKind.wrap,IntKind.bits,IntKind.signed]
   simp
   omega
  rw[this]
 ·rw[h.2]
  have:IntKind.u64.wrap v=v:=by
   simp only[IntKind.wrap,IntKind.bits,IntKind.signed]
   simp
   omega
  rw[this]
theorem has_ofO {o:Option PV} {e:Eff}:(ofO o).has e↔∃ v,o=some v/\e=(v,[],[]):=by
 cases o<;>simp[ofO]

section
variable {w:World} {S:Nat->Prop} {μ:Mu}
theorem repV_ptr {b e i off:Nat} {p:List Nat} {x:Value} (h:RepV w S μ (.ptr b e i off p) x):∃ a z,μ b=some (a,z)/\x=.pointer (some ⟨a,i*e+off,none⟩):=by
 cases h with
 | agg _ _ _ hv=>cases hv
 | cell _ _ _ _ h=>cases h with|ptr _ _ _ _ _ _ a z hb=>exact⟨a,z,hb,rfl⟩
theorem repV_ref {v:PV} {x:Value} (h:RepV w S μ (.ref v) x):∃ a o cs,S a/\RepC w S qR v cs/\(∀ j,j<cs.length->w.cell? ⟨a,o+j,none⟩=cs[j]?)/\x=.pointer (some ⟨a,o,none⟩):=by
 cases h with
 | agg _ _ _ hv=>cases hv
 | cell _ _ _ _ h=>cases h with|ref _ _ a o cs hS hr hc=>exact⟨a,o,cs,hS,hr,hc,rfl⟩
theorem repV_lst {e:Nat} {c:Cont} {x:Value} (h:RepV w S μ (.lst e c) x):∃ (a o cap:Nat) (cs:Nat->List Value),c.len<=cap/\S a/\(∀ i,i<c.len->RepC w S qR (c.get i) (cs i))/\
  (∀ i,i<c.len->(cs i).length=e)/\(∀ i j,i<c.len->j<e->w.cell? ⟨a,o+(i*e+j),none⟩=(cs i)[j]?)/\x=.slice (some ⟨a,o,none⟩) c.len cap:=by
 cases h with
 | agg _ _ _ hv=>cases hv
 | cell _ _ _ _ h=>cases h with|lst _ _ _ a o cap cs h1 h2 h3 h4 h5=>exact⟨a,o,cap,cs,h1,h2,h3,h4,h5,rfl⟩
theorem repV_sl {b e off len:Nat} {x:Value} (h:RepV w S μ (.sl b e off len) x):∃ a z o cap,μ b=some (a,z)/\len<=cap/\(off+cap)*e<=z/\(o=off*e\/(cap=0/\0<off))/\
  x=.slice (some ⟨a,o,none⟩) len cap:=by
 cases h with
 | agg _ _ _ hv=>cases hv
 | cell _ _ _ _ h=>cases h with|sl _ _ _ _ _ a z o cap h1 h2 h3 h4=>exact⟨a,z,o,cap,h1,h2,h3,h4,rfl⟩
theorem repV_tup {vs:List PV} {x:Value} (h:RepV w S μ (.tup vs) x):∃ xs,RepVL w S μ vs xs/\x=.tuple xs.toArray:=by
 cases h with
 | agg _ _ _ hv=>cases hv
 | cell _ _ _ _ h=>cases h
 | tup _ _ xs h=>exact⟨xs,h,rfl⟩
theorem repV_clo {f:Nat} {vs:List PV} {x:Value} (h:RepV w S μ (.clo f vs) x):∃ xs,RepVL w S μ vs xs/\x=.func (.func f) #[] xs.toArray:=by
 cases h with
 | agg _ _ _ hv=>cases hv
 | cell _ _ _ _ h=>cases h with|clo _ _ _ xs h=>exact⟨xs,h,rfl⟩
theorem RepVL.get {vs:List PV} {xs:List Value} (h:RepVL w S μ vs xs):∀ (k:Nat) (v:PV),vs[k]? = some v->∃ x,xs[k]? = some x/\RepV w S μ v x:=by
 induction vs generalizing xs with
 | nil=>intro k v hv;simp at hv
 | cons u us ih=>
  cases h with
  | cons _ _ _ x xs h h'=>
   intro k v hv
   cases k with
   | zero=>simp at hv;subst hv;exact⟨x,rfl,h⟩
   | succ k=>simp at hv ⊢;exact ih h' k v hv
theorem RepVL.length {vs:List PV} {xs:List Value} (h:RepVL w S μ vs xs):xs.length=vs.length:=by
 induction vs generalizing xs with
 | nil=>cases h;rfl
 | cons u us ih=>cases h with|cons _ _ _ x xs h h'=>simp[ih h']
theorem repVL_map {t:List PV} {a:Act}:∀ (l:List Operand),(∀ x∈l,RepV w S μ (evO t x) (a.eval x))->RepVL w S μ (l.map (evO t)) (l.map a.eval)
 | [],_=>.nil _
 | x::l,h=>.cons _ _ _ _ _ (h x (by simp)) (repVL_map l fun y hy=>h y (by simp[hy]))
theorem repVL_append {vs us:List PV} {xs ys:List Value} (h:RepVL w S μ vs xs) (h':RepVL w S μ us ys):RepVL w S μ (vs++us) (xs++ys):=by
 induction vs generalizing xs with
 | nil=>cases h;exact h'
 | cons u vs ih=>cases h with|cons _ _ _ x xs h h2=>exact .cons _ _ _ _ _ h (ih h2)
end
section
variable {P:Program} {t:List PV} {id:Nat} {h:qT} {o:Oper} {e:Eff}
theorem ok_move {x:Operand} (ho:o.op=.move x\/o.op=.assign x):OpOK P t id (hget h) o (evO t x,[],[]):=
 OpOK.pure fun w S μ a hr _=>⟨a.eval x,by rcases ho with ho|ho<;>simp[execOp,ho],hr x (by rcases ho with ho|ho<;>simp[ho,Op.operands])⟩

theorem ok_pick {c x y:Operand} (ho:o.op=.pick c x y)
  (hp:(match evO t c with
  | .bl true=>p1 (evO t x)
  | .bl false=>p1 (evO t y)
  | .b c=>match bof (evO t x),bof (evO t y)with
   | some x,some y=>p1 (.b (bif c then x else y))
   | _,_=>.fail
  | _=>.fail:OpR).has e):OpOK P t id (hget h) o e:=by
 split at hp
 ·rename_i hc
  simp at hp;subst hp
  refine OpOK.pure fun w S μ a hr _=>⟨a.eval x,?_,hr x (by simp[ho,Op.operands])⟩
  have h1:=hr c (by simp[ho,Op.operands]);rw[hc]at h1
  simp[execOp,ho,repV_bl h1,asBool]
 ·rename_i hc
  simp at hp;subst hp
  refine OpOK.pure fun w S μ a hr _=>⟨a.eval y,?_,hr y (by simp[ho,Op.operands])⟩
  have h1:=hr c (by simp[ho,Op.operands]);rw[hc]at h1
  simp[execOp,ho,repV_bl h1,asBool]
 ·rename_i c' hc
  split at hp
  ·rename_i u v hu hv
   simp at hp;subst hp
   refine OpOK.pure fun w S μ a hr _ => ?_
   have h1:=hr c (by simp[ho,Op.operands]);rw[hc]at h1
   have h2:=repV_bof hu (hr x (by simp[ho,Op.operands]))
   have h3:=repV_bof hv (hr y (by simp[ho,Op.operands]))
   refine⟨.bool (bif c' then u else v),?_,repV_mk_b _⟩
   cases c'<;>simp[execOp,ho,repV_b h1,asBool,h2,h3]
  ·simp at hp
 ·simp at hp

theorem ok_nilCheck {x:Operand} (ho:o.op=.nilCheck x)
  (hp:(match evO t x with
  | .ptr b e i off q=>p1 (.ptr b e i off q)
  | .ref v=>p1 (.ref v)
  | _=>.fail:OpR).has e):OpOK P t id (hget h) o e:=by
 split at hp
 ·rename_i hx
  simp at hp;subst hp
  refine OpOK.pure fun w S μ a hr _=>⟨a.eval x,?_,hx▸hr x (by simp[ho,Op.operands])⟩
  have h1:=hr x (by simp[ho,Op.operands]);rw[hx]at h1
  obtain⟨_,_,_,h2⟩:=repV_ptr h1
  simp[execOp,ho,h2]
 ·rename_i hx
  simp at hp;subst hp
  refine OpOK.pure fun w S μ a hr _=>⟨a.eval x,?_,hx▸hr x (by simp[ho,Op.operands])⟩
  have h1:=hr x (by simp[ho,Op.operands]);rw[hx]at h1
  obtain⟨_,_,_,_,_,_,h2⟩:=repV_ref h1
  simp[execOp,ho,h2]
 ·simp at hp

theorem ok_extract {x:Operand} {k:Nat} (ho:o.op=.extract x k)
  (hp:(match evO t x with
  | .tup vs=>ofO vs[k]?
  | _=>.fail:OpR).has e):OpOK P t id (hget h) o e:=by
 split at hp
 ·rename_i vs hx
  obtain⟨v,hv,rfl⟩:=has_ofO.1 hp
  refine OpOK.pure fun w S μ a hr _ => ?_
  have h1:=hr x (by simp[ho,Op.operands]);rw[hx]at h1
  obtain⟨xs,h2,h3⟩:=repV_tup h1
  obtain⟨y,hy,h4⟩:=h2.get k v hv
  exact⟨y,by simp[execOp,ho,h3,Instr.extract,hy],h4⟩
 ·simp at hp

theorem ok_makeInterface {T:Nat} {x:Operand} (ho:o.op=.makeInterface T x)
  (hp:(match P.underlying T with
  | some (.interface _)=>.fail
  | some _=>p1 (.ifc T (evO t x))
  | none=>.fail:OpR).has e):OpOK P t id (hget h) o e:=by
 split at hp
 ·simp at hp
 ·rename_i d hd hu
  simp at hp;subst hp
  refine OpOK.pure fun w S μ a hr _=>⟨.iface T (a.eval x),?_,.cell _ _ _ rfl (.ifc _ _ _ _ (hr x (by simp[ho,Op.operands])))⟩
  simp only[execOp,ho,Instr.makeInterface,Sem.run_bind,run_underlying hu,Result.andThen_ok]
  cases d<;>first|rfl|exact absurd rfl (hd _)
 ·simp at hp

theorem ok_makeFunc {f:Nat} {first caps:Array Operand} (ho:o.op=.makeFunc (.func f) first caps)
  (hp:(match first.size==0 with
  | true=>p1 (.clo f (caps.toList.map (evO t)))
  | false=>.fail:OpR).has e):OpOK P t id (hget h) o e:=by
 split at hp
 ·rename_i hz
  simp at hz
  simp at hp;subst hp
  refine OpOK.pure fun w S μ a hr _=>⟨.func (.func f) #[] (caps.map a.eval),?_,?_⟩
  ·have:first = #[]:=by simpa using hz
   subst this
   simp[execOp,ho,Instr.makeFunc]
  ·refine .cell _ _ _ rfl ?_
   have h1:=RepC.clo (w:=w) (S:=S) μ f _ _ (repVL_map caps.toList (fun x hx=>hr x (by simp[ho,Op.operands];right;simpa using hx)))
   have e1:(List.map a.eval caps.toList).toArray=caps.map a.eval:=by rw[<-Array.toList_map]
   rw[e1]at h1;exact h1
 ·simp at hp

theorem ok_unOp {op:UnOp} {T:Nat} {x:Operand} (ho:o.op=.unOp op T x) (hp:(unO op (evO t x)).has e):OpOK P t id (hget h) o e:=by
 unfold unO at hp
 split at hp
 ·rename_i k n hx
  have hp:=arS_has hp;subst hp
  refine OpOK.pure fun w S μ a hr _=>⟨_,?_,qC _ _⟩
  have h1:=hr x (by simp[ho,Op.operands]);rw[hx]at h1
  simp[execOp,ho,qU h1,Op.unary,Op.intArith]
 ·rename_i n hx
  simp at hp;subst hp
  refine OpOK.pure fun w S μ a hr _=>⟨_,?_,repV_mk_b _⟩
  have h1:=hr x (by simp[ho,Op.operands]);rw[hx]at h1
  simp[execOp,ho,repV_b h1,Op.unary]
 ·rename_i hx
  simp at hp;subst hp
  refine OpOK.pure fun w S μ a hr _=>⟨_,?_,repV_mk_bl _⟩
  have h1:=hr x (by simp[ho,Op.operands]);rw[hx]at h1
  simp[execOp,ho,repV_bl h1,Op.unary]
 ·rename_i hx
  simp at hp;subst hp
  refine OpOK.pure fun w S μ a hr _=>⟨_,?_,repV_mk_bl _⟩
  have h1:=hr x (by simp[ho,Op.operands]);rw[hx]at h1
  simp[execOp,ho,repV_bl h1,Op.unary]
 ·simp at hp

theorem run_load_rep {w:World} {S:Nat->Prop} {μ:Mu} {T:Nat} {v:PV} {a o:Nat} {cs:List Value} (hf:fitsT P T v=true) (hr:RepC w S μ v cs)
  (hc:∀ j,j<cs.length->w.cell? ⟨a,o+j,none⟩=cs[j]?):∃ x,(Instr.loadAt T (.pointer (some ⟨a,o,none⟩))).run P w=.ok x w/\RepV w S μ v x:=by
 obtain⟨n,hn,hs,hag⟩:=fitsT_len hf
 have hlen:=ncv_len hn hr
 obtain⟨i,hi,his⟩:=szT_info hs
 cases hv:isAgg v with
 | true=>
  rw[hv]at hag
  obtain⟨d,hd,hrow⟩:=underlying_of_aggT hag
  refine⟨.agg cs.toArray,run_loadAt_mid w a o T cs d (fun j x hj => ?_) hd hrow (by simp[hi,his,hlen]),(repV_of_cells hr).1 hv⟩
  have:=(List.getElem?_eq_some_iff.1 hj).1
  rw[hc j this];exact hj
 | false=>
  rw[hv]at hag
  have h1:n=1:=by
   cases v<;>simp[isAgg]at hv<;>simp[ncv,nc]at hn<;>exact hn.symm
  subst h1
  obtain⟨x,rfl⟩:∃ x,cs=[x]:=by
   match cs,hlen with
   | [x],_=>exact⟨x,rfl⟩
  refine⟨x,?_,(repV_of_cells hr).2 x hv rfl⟩
  have hcell:=hc 0 (by simp)
  simp at hcell
  simp[Instr.loadAt,Instr.sureAddr,loadVar,run_isAgg hag,hcell]
theorem mul_add_lt {i n e j:Nat} (hi:i<n) (hj:j<e):i*e+j<n*e:=by
 have:(i+1)*e<=n*e:=Nat.mul_le_mul_right e hi
 rw[Nat.add_mul,Nat.one_mul]at this
 omega
theorem ok_load {T:Nat} {x:Operand} (ho:o.op=.load T x) (hp:(withC (ldC h (evO t x)) (ofO (ldO P T h (evO t x)))).has e):OpOK P t id (hget h) o e:=by
 obtain⟨hld,hp⟩:=has_withC hp
 obtain⟨v,hv,rfl⟩:=has_ofO.1 hp
 refine OpOK.pure fun w S μ a hr hh => ?_
 have h1:=hr x (by simp[ho,Op.operands])
 unfold ldO at hv
 split at hv
 ·rename_i u hx
  split at hv
  ·rename_i hf
   simp at hv;subst hv
   rw[hx]at h1
   obtain⟨a',o',cs,hS,hrep,hc,hxv⟩:=repV_ref h1
   obtain⟨y,hy,hry⟩:=run_load_rep hf (hrep.mono (w':=w) (S':=S) ⟨fun _ h=>h,fun _ _ _=>rfl⟩ μ (MuLe.none μ)) hc
   exact⟨y,by simp[execOp,ho,hxv,hy],hry⟩
  ·cases hv
 ·rename_i b e' i off p hx
  rw[hx]at h1
  obtain⟨a',z,hmu,hxv⟩:=repV_ptr h1
  split at hv
  ·rename_i k hk
   split at hv
   ·rename_i hck
    simp only[Bool.and_eq_true,beq_iff_eq]at hck
    obtain⟨hke,hik0⟩:=hck
    simp only[ldC,hx,hk]at hld
    have hik:i<k.c.len:=lenOk_le hik0 hld
    split at hv
    ·rename_i o1 u hsub
     split at hv
     ·rename_i hof
      simp only[Bool.and_eq_true,beq_iff_eq]at hof
      obtain⟨rfl,hf⟩:=hof
      simp at hv;subst hv
      obtain⟨a2,z2,hmu2,c,T',cs,hg,hz,hle,hrr,hl,hc⟩:=hh.blk b k hk
      have e1:=hmu.symm.trans hmu2;cases e1
      obtain⟨c1,c2,c3,hcs,hlen,hru⟩:=sub_rep p (k.c.get i) o1 u (cs i) hsub ((hrr i hik).mono (w':=w) (S':=S) ⟨fun _ h=>h,fun _ _ _=>rfl⟩ μ (rowMu_sub μ _))
      obtain⟨y,hy,hry⟩:=run_load_rep (a:=a') (o:=i*e'+o1) hf hru (fun j hj=>by
       have hlt:o1+j<k.e:=by rw[<-hl i hik,hcs];simp;omega
       have hcc:=hc i (o1+j) hik hlt
       rw[cell_of_row w a' _ c T' _ hg,<-hke,show i*k.e+o1+j=i*k.e+(o1+j) by omega,hcc,hcs]
       rw[List.append_assoc,List.getElem?_append_right (by omega),hlen,Nat.add_sub_cancel_left,List.getElem?_append_left hj])
      exact⟨y,by simp[execOp,ho,hxv,hy],hry⟩
     ·cases hv
    ·cases hv
   ·cases hv
  ·cases hv
 ·cases hv

theorem RepC.weaken {w:World} {S:Nat->Prop} {μ:Mu} {x:Rat} {n m:Nat} {cs:List Value} (h:RepC w S μ (.q x n) cs) (hnm:n<=m):RepC w S μ (.q x m) cs:=by
 cases h with|q _ _ _ hs=>exact .q _ _ _ (Nat.le_trans hs hnm)
theorem set_row_rep {w:World} {S:Nat->Prop} {μ:Mu} {c c':Cont} {i:Nat} {v:PV} {cs:List Value} (hs:c.set i v=some c') (hi:i<c.len) (hr:RepC w S μ v cs):
  RepC w S (qD μ c') (c'.get i) cs/\qD μ c'=qD μ c:=by
 obtain⟨x,n,n',hg⟩:=Cont.get_set_same c c' i v hs hi
 cases c<;>simp only[Cont.set]at hs
 case ints k xs=>
  split at hs
  ·split at hs
   ·simp at hs;subst hs
    refine⟨?_,rfl⟩
    rcases hg with hg|⟨h1,_⟩
    ·rw[hg];cases hr;exact .i _ _ _
    ·cases h1
   ·cases hs
  ·cases hs
 case rats m xs=>
  split at hs
  ·split at hs<;>(simp at hs;subst hs)
   all_goals
    refine⟨?_,rfl⟩
    rcases hg with hg|⟨h1,h2,h3⟩
    ·rw[hg];cases hr with|q _ _ _ h=>exact .q _ _ _ h
    ·rw[h2];cases h1;exact(by cases hr with|q _ _ _ h=>exact .q _ _ _ (Nat.le_trans h h3))
  ·cases hs
 case vals vs=>
  simp at hs;subst hs
  refine⟨?_,rfl⟩
  rcases hg with hg|⟨h1,h2,h3⟩
  ·rw[hg];exact hr
  ·rw[h2];subst h1;exact hr.weaken h3
 case fn n f=>
  split at hs
  ·rename_i hno
   simp at hs;subst hs
   refine⟨?_,rfl⟩
   rcases hg with hg|⟨h1,h2,h3⟩
   ·rw[hg];exact(noRef_rep 8 μ v hno).1 _ hr
   ·rw[h2];subst h1;exact((noRef_rep 8 μ _ hno).1 _ hr).weaken h3
  ·cases hs
theorem run_store_rep {w:World} {S:Nat->Prop} {μ:Mu} {T:Nat} {v:PV} {x:Value} {a o:Nat} {cur:Array Value} {E n:Nat} (hf:fitsT P T v=true) (hn:ncv v=some n) (hr:RepV w S μ v x)
  (hg:w.heap[a]? = some (.cells cur E (0,0))) (hle:o+n<=cur.size):
  ∃ cs,RepC w S μ v cs/\cs.length=n/\(Instr.storeAt T (.pointer (some ⟨a,o,none⟩)) x).run P w=.ok () (w.setRow a (cur.toList.take o++cs++cur.toList.drop (o+n)).toArray):=by
 obtain⟨n',hn',hs,hag⟩:=fitsT_len hf
 rw[hn]at hn';cases hn'
 obtain⟨i,hi,his⟩:=szT_info hs
 obtain⟨cs,hrc,hlen,hcells,hA,hB⟩:=repV_cells hn hr
 refine⟨cs,hrc,hlen,?_⟩
 have h1:=run_storeCells_at P a o E cs 0 cur w hg (by omega) (repC_one hrc)
 simp only[Nat.add_zero,hlen]at h1
 simp[Instr.storeAt,Instr.sureAddr,storeVar,Go.sizeOf,typeInfo,hi,his,hcells,hlen,h1]
theorem getElem?_write (cur:Array Value) (o n j:Nat) (cs:List Value) (hlen:cs.length=n) (hle:o+n<=cur.size):
  (cur.toList.take o++cs++cur.toList.drop (o+n)).toArray[j]? = if o<=j/\j<o+n then cs[j-o]? else cur[j]? := by
 simp only[List.getElem?_toArray,List.append_assoc]
 have ht:(List.take o cur.toList).length=o:=by simp;omega
 by_cases h1:j<o
 ·rw[List.getElem?_append_left (by omega),if_neg (by omega),List.getElem?_take,if_pos h1];simp
 ·rw[List.getElem?_append_right (by omega),ht]
  by_cases h2:j<o+n
  ·rw[List.getElem?_append_left (by omega),if_pos (by omega)]
  ·rw[List.getElem?_append_right (by omega),if_neg (by omega),List.getElem?_drop]
   simp;congr 1;omega
theorem idx_ne {i i' e j j':Nat} (hj:j<e) (hj':j'<e) (h:i'≠i):i'*e+j'≠i*e+j:=by
 rcases Nat.lt_or_gt_of_ne h with hlt|hlt
 ·have:=mul_add_lt hlt hj';omega
 ·have:=mul_add_lt hlt hj;omega
theorem ok_store {T:Nat} {x y:Operand} (ho:o.op=.store T x y)
  (hp:(withC (ldC h (evO t x)) (match stO P T h (evO t x) (evO t y)with|some ww=>.one (.und,[ww],[])|none=>.fail:OpR)).has e):OpOK P t id (hget h) o e:=by
 obtain⟨hld,hp⟩:=has_withC hp
 split at hp
 case h_2=>simp at hp
 rename_i ww hst
 simp at hp;subst hp
 intro w S μ a K Q hr hh _ hK
 have h1:=hr x (by simp[ho,Op.operands])
 have h2:=hr y (by simp[ho,Op.operands])
 unfold stO at hst
 split at hst
 case h_2=>cases hst
 rename_i b e' i off p hx
 rw[hx]at h1
 obtain⟨a',z,hmu,hxv⟩:=repV_ptr h1
 split at hst
 case h_2=>cases hst
 rename_i k hk
 split at hst
 case h_2=>cases hst
 rename_i hck
 simp only[Bool.and_eq_true,beq_iff_eq]at hck
 obtain⟨hke,hik0⟩:=hck
 simp only[ldC,hx,hk]at hld
 have hik:i<k.c.len:=lenOk_le hik0 hld
 split at hst
 case h_2=>cases hst
 rename_i o1 u hsub
 split at hst
 case h_2=>cases hst
 rename_i hof
 simp only[Bool.and_eq_true,beq_iff_eq]at hof
 obtain⟨⟨rfl,hf⟩,hnc⟩:=hof
 split at hst
 case h_2=>cases hst
 rename_i w1 hset
 split at hst
 case h_2=>cases hst
 rename_i c' hcset
 simp at hst;subst hst
 obtain⟨n,hn,hs,hag⟩:=fitsT_len hf
 obtain⟨a2,z2,hmu2,cur,T',cs,hg,hz,hle,hrr,hl,hc⟩:=hh.blk b k hk
 have e1:=hmu.symm.trans hmu2;cases e1
 have hri:=(hrr i hik).mono (w':=w) (S':=S) ⟨fun _ h=>h,fun _ _ _=>rfl⟩ μ (rowMu_sub μ _)
 obtain⟨c1,c2,c3,hcs,hlen,hru⟩:=sub_rep p (k.c.get i) o1 u (cs i) hsub hri
 have hc2:c2.length=n:=ncv_len (hnc.trans hn) hru
 have hend:o1+n<=k.e:=by rw[<-hl i hik,hcs];simp;omega
 have hle2:i*k.e+o1+n<=cur.size:=by
  have:=Nat.mul_le_mul_right k.e (show i+1<=k.c.len from hik)
  rw[Nat.add_mul,Nat.one_mul]at this
  omega
 obtain⟨ds,hrd,hdl,hrun⟩:=run_store_rep (a:=a') (o:=i*k.e+o1) hf hn h2 hg hle2
 have hnew:=setSub_rep p (k.c.get i) o1 u (evO t y) w1 (cs i) ds hsub hset hri hrd (fun cu hcu=>by rw[ncv_len (hnc.trans hn) hcu,hdl])
 obtain⟨hrow,hrowEq⟩:=set_row_rep hcset hik hnew
 have hclen:c'.len=k.c.len:=by
  by_cases h0:∃ j,j≠i/\True
  ·obtain⟨j,hj,_⟩:=h0
   exact(Cont.get_set k.c c' i j w1 hcset hik hj).1
  ·exact absurd ⟨i+1,by omega,trivial⟩ h0
 have hmono:Mono w (w.setRow a' (cur.toList.take (i*k.e+o1)++ds++cur.toList.drop (i*k.e+o1+n)).toArray) S S:=
  ⟨fun _ h=>h,fun q hq oo=>cell_setRow_other w a' _ ⟨q,oo,none⟩ (fun hqa=>hh.sep b k a' z hk hmu (by have:q=a':=hqa;subst this;exact hq))⟩
 refine wp_skp (w':=w.setRow a' (cur.toList.take (i*k.e+o1)++ds++cur.toList.drop (i*k.e+o1+n)).toArray) ?_ (hK undef _ S μ ?_)
 ·rw[hke]at hrun
  simp[execOp,ho,hxv,hrun,hke]
 ·refine⟨rfl,rfl,rfl,by simp,fun q hq hno => ?_,fun _ h=>h,fun _ h=>.inl h,.und _,fun _ _=>rfl,fun b' k' hm => ?_,fun j k' hj=>(by simp at hj),fun j j' _ _ _ hj=>(by simp at hj)⟩
  ·exact setRow_other w a' q _ (fun hqa=>hno b _ z (List.mem_cons_self ..) (by subst hqa;exact hmu))
  ·simp at hm
   obtain⟨rfl,rfl⟩:=hm
   refine⟨a',z,hmu,_,T',fun j=>if j=i then (cs i).take o1++ds++(cs i).drop (o1+ds.length)else cs j,setRow_heap w a' cur _ T' (0,0) hg,?_,?_,?_,?_,?_⟩
   ·simp;omega
   ·simp only[hclen];exact hle
   ·intro j hj
    simp only[hclen]at hj
    by_cases hji:j=i
    ·subst hji
     simp only[if_pos]
     exact hrow.mono hmono _ (MuLe.refl _)
    ·simp only[if_neg hji]
     have h3:=(hrr j hj).mono hmono _ (MuLe.refl _)
     rcases(Cont.get_set k.c c' i j w1 hcset hik hji).2 with hgj|⟨q,n1,n2,hq1,hq2,hq3⟩
     ·rw[hgj,hrowEq];exact h3
     ·rw[hq2,hrowEq];rw[hq1]at h3;exact h3.weaken hq3
   ·intro j hj
    simp only[hclen]at hj
    by_cases hji:j=i
    ·subst hji;simp[hl j hj];omega
    ·simp only[if_neg hji];exact hl j hj
   ·intro j j' hj hj'
    simp only[hclen]at hj
    simp only at hj'
    rw[getElem?_write cur (i*k.e+o1) n _ ds hdl hle2]
    by_cases hji:j=i
    ·subst hji
     simp only[if_pos]
     have ht:(List.take o1 (cs j)).length=o1:=by simp[hl j hj];omega
     by_cases hin:o1<=j'/\j'<o1+n
     ·rw[if_pos (by omega),List.append_assoc,List.getElem?_append_right (by omega),ht,List.getElem?_append_left (by omega)]
      congr 1;omega
     ·rw[if_neg (by omega),hc j j' hj hj']
      by_cases hlt:j'<o1
      ·rw[List.append_assoc,List.getElem?_append_left (by omega),List.getElem?_take,if_pos hlt]
      ·rw[List.getElem?_append_right (by simp[ht];omega),List.getElem?_drop]
       congr 1;simp[ht];omega
    ·simp only[if_neg hji]
     rw[if_neg,hc j j' hj hj']
     intro⟨hA,hB⟩
     have hlt2:∃ q,q<k.e/\j*k.e+j'=i*k.e+q:=⟨j*k.e+j'-i*k.e,by omega,by omega⟩
     obtain⟨q,hq,hqe⟩:=hlt2
     exact idx_ne hq hj' hji hqe
end
end
section
open Go
section
variable {P:Program} {t:List PV} {id:Nat} {h:qT} {o:Oper} {e:Eff}
theorem ofVal_rep {w:World} {S:Nat->Prop} {μ:Mu} {c:Value} {v:PV} (hv:ofVal c=v) (hne:v ≠ .any):RepC w S μ v [c]:=by
 subst hv
 unfold ofVal at hne ⊢
 revert hne
 split<;>intro hne<;>first|constructor|(exact(hne rfl).elim)
theorem parse1_rep {w:World} {S:Nat->Prop} {μ:Mu} {cs r:List Value} {v:PV} (h:parse1 cs=some (v,r)):∃ c1,cs=c1++r/\RepC w S μ v c1:=by
 unfold parse1 at h
 split at h
 ·cases h
 ·rename_i c cs'
  split at h
  ·cases h
  ·rename_i u hne
   simp at h
   obtain⟨rfl,rfl⟩:=h
   exact⟨[c],rfl,ofVal_rep rfl hne⟩
theorem parseL_rep {w:World} {S:Nat->Prop} {μ:Mu} {g:Nat->List Value->Option (PV × List Value)}
  (hg:∀ T cs v r,g T cs=some (v,r)->∃ c1,cs=c1++r/\RepC w S μ v c1):∀ (fs:List Field) (cs r:List Value) (vs:List PV),parseL g fs cs=some (vs,r)->∃ c1,cs=c1++r/\RepL w S μ vs c1
 | [],cs,r,vs,h=>by simp[parseL]at h;obtain⟨rfl,rfl⟩:=h;exact⟨[],rfl,.nil _⟩
 | f::fs,cs,r,vs,h=>by
  simp only[parseL]at h
  split at h
  ·rename_i v cs' hv
   split at h
   ·rename_i us cs'' hu
    simp at h
    obtain⟨rfl,rfl⟩:=h
    obtain⟨c1,rfl,h1⟩:=hg _ _ _ _ hv
    obtain⟨c2,rfl,h2⟩:=parseL_rep hg fs _ _ _ hu
    exact⟨c1++c2,by simp,.cons _ _ _ _ _ h1 h2⟩
   ·cases h
  ·cases h
theorem parseT_rep {w:World} {S:Nat->Prop} {μ:Mu}:∀ (d T:Nat) (cs r:List Value) (v:PV),parseT P d T cs=some (v,r)->∃ c1,cs=c1++r/\RepC w S μ v c1
 | 0,_,_,_,_,h=>by simp[parseT]at h
 | d+1,T,cs,r,v,h=>by
  simp only[parseT]at h
  split at h
  ·split at h
   ·rename_i vs cs' hv
    simp at h
    obtain⟨rfl,rfl⟩:=h
    obtain⟨c1,h1,h2⟩:=parseL_rep (fun T cs v r h=>parseT_rep d T cs r v h) _ _ _ _ hv
    exact⟨c1,h1,.agg _ _ _ h2⟩
   ·cases h
  ·cases h
  ·exact parse1_rep h
theorem zeroT_rep {w:World} {S:Nat->Prop} {μ:Mu} {T:Nat} {v:PV} (h:zeroT P T=some v):∃ i z,P.info? T=some i/\i.zero=some z/\RepC w S μ v z.cells.toList:=by
 unfold zeroT at h
 split at h
 ·rename_i cs hcs
  split at h
  ·rename_i u hu
   simp at h;subst h
   obtain⟨i,z,hi,hz,rfl⟩:=zcT_info hcs
   obtain⟨c1,h1,h2⟩:=parseT_rep (w:=w) (S:=S) (μ:=μ) _ _ _ _ _ hu
   simp at h1
   exact⟨i,z,hi,hz,h1▸h2⟩
  ·cases h
 ·cases h
theorem ptrNew_rep {w:World} {S:Nat->Prop} {μ:Mu} {a z e:Nat}:RepV w S (muNew μ id a z) (.ptr id e 0 0 []) (.pointer (some ⟨a,0,none⟩)):=by
 have:=RepC.ptr (w:=w) (S:=S) (muNew μ id a z) id e 0 0 [] a z (by simp[muNew])
 simp at this
 exact .cell _ _ _ rfl this
theorem slNew_rep {w:World} {S:Nat->Prop} {μ:Mu} {a z e n:Nat} (hz:n*e=z):RepV w S (muNew μ id a z) (.sl id e 0 n) (.slice (some ⟨a,0,none⟩) n n):=
 .cell _ _ _ rfl (.sl _ id e 0 n a z 0 n (by simp[muNew]) (Nat.le_refl _) (by simpa using Nat.le_of_eq hz) (.inl (by simp)))

theorem ok_box {T:Nat} {x:Operand} (ho:o.op=.box T x)
  (hp:(match szT P T,fitsT P T (evO t x)with
  | some e,true=>.one (.ptr id e 0 0 [],[],[⟨e,.vals [evO t x]⟩])
  | _,_=>.fail:OpR).has e):OpOK P t id (hget h) o e:=by
 split at hp
 case h_2=>simp at hp
 rename_i sz hsz hf
 simp at hp;subst hp
 intro w S μ a K Q hr hh hn hK
 have h1:=hr x (by simp[ho,Op.operands])
 obtain⟨n,hnc,hs,_⟩:=fitsT_len hf
 rw[hsz]at hs;cases hs
 obtain⟨cs,hrc,hlen,hcells,_,_⟩:=repV_cells hnc h1
 have hid:μ id=none:=by simpa using hn 0 (by simp)
 refine wp_val (w':=w.alloc (.cells cs.toArray T)) (v:=.pointer (some ⟨w.heap.size,0,none⟩)) ?_ (hK _ _ S _ (Post.newBlk (k:=⟨sz,.vals [evO t x]⟩) hh.lt hid (fun _=>cs) ?_ ?_ ?_ ?_ ptrNew_rep))
 ·simp[execOp,ho,Instr.box,newVar,newRow,hcells]
 ·simp[Cont.len,hlen]
 ·intro i hi;simp[Cont.len]at hi;subst hi;simpa [qD,Cont.get]using hrc
 ·intro i hi;exact hlen
 ·intro i j hi hj;simp[Cont.len]at hi;subst hi;simp

theorem ok_alloc {T:Nat} (ho:o.op=.alloc T)
  (hp:(match arrT P T with
  | some (n,E)=>match szT P E,intT P E,zcT P T with
   | some 1,some k,some zs=>match zs.length==n&&zs.all (fun v=>match v with | .int k' 0=>decide (k=k')|_=>false)with
    | true=>.one (.ptr id 1 0 0 [],[],[⟨1,.ints k (List.replicate n 0)⟩])
    | false=>.fail
   | _,_,_=>.fail
  | none=>match szT P T,zeroT P T with
   | some e,some z=>match fitsT P T z with
    | true=>.one (.ptr id e 0 0 [],[],[⟨e,.vals [z]⟩])
    | false=>.fail
   | _,_=>.fail:OpR).has e):OpOK P t id (hget h) o e:=by
 split at hp
 ·rename_i n E harr
  split at hp
  case h_2=>simp at hp
  rename_i k zs hsz hint hzc
  split at hp
  case h_2=>simp at hp
  rename_i hck
  simp only[Bool.and_eq_true,beq_iff_eq]at hck
  obtain⟨hlen,hall⟩:=hck
  simp at hp;subst hp
  intro w S μ a K Q hr hh hn hK
  have hid:μ id=none:=by simpa using hn 0 (by simp)
  obtain⟨i,z,hi,hz,hzs⟩:=zcT_info hzc
  have hzeq:∀ j,j<n->z.cells[j]? = some (.int k 0):=by
   intro j hj
   have hj':j<zs.length:=by omega
   have hm:=List.all_eq_true.1 hall zs[j] (List.getElem_mem hj')
   have he:z.cells[j]? = some zs[j]:=by rw[<-Array.getElem?_toList,hzs];exact List.getElem?_eq_getElem hj'
   rw[he]
   split at hm
   ·rename_i k' hk';simp at hm;subst hm;rw[hk']
   ·cases hm
  have hsize:z.cells.size=n:=by rw[<-hlen,<-hzs];simp
  have e1:(⟨w.heap.size,0,none⟩:Addr)=⟨w.heap.size,0*1+0,none⟩:=by simp
  refine wp_val (w':=w.alloc (.cells z.cells T)) (v:=.pointer (some ⟨w.heap.size,0,none⟩)) ?_ (hK _ _ S _ (Post.newBlk (k:=⟨1,.ints k (List.replicate n 0)⟩) hh.lt hid (fun _=>[.int k 0]) ?_ ?_ ?_ ?_ ptrNew_rep))
  ·simp[execOp,ho,Instr.alloc,run_zeroValue hi hz,newVar,newRow]
  ·simp[Cont.len,hsize]
  ·intro i hi;simp[Cont.len]at hi;simp[qD,Cont.get,hi];exact .i _ _ _
  ·intro i hi;rfl
  ·intro i j hi hj;simp[Cont.len]at hi hj;subst hj;simp[hzeq i hi]
 ·split at hp
  case h_2=>simp at hp
  rename_i sz z hsz hz
  split at hp
  case h_2=>simp at hp
  rename_i hf
  simp at hp;subst hp
  intro w S μ a K Q hr hh hn hK
  have hid:μ id=none:=by simpa using hn 0 (by simp)
  obtain⟨i,zv,hi,hzv,hrep⟩:=zeroT_rep (w:=w) (S:=S) (μ:=μ) hz
  obtain⟨n,hnc,hs,_⟩:=fitsT_len hf
  rw[hsz]at hs;cases hs
  have hlen:=ncv_len hnc hrep
  refine wp_val (w':=w.alloc (.cells zv.cells T)) (v:=.pointer (some ⟨w.heap.size,0,none⟩)) ?_ (hK _ _ S _ (Post.newBlk (k:=⟨sz,.vals [z]⟩) hh.lt hid (fun _=>zv.cells.toList) ?_ ?_ ?_ ?_ ptrNew_rep))
  ·simp[execOp,ho,Instr.alloc,run_zeroValue hi hzv,newVar,newRow]
  ·simp[Cont.len]at hlen ⊢;omega
  ·intro i hi;simp[Cont.len]at hi;subst hi;simpa [qD,Cont.get]using hrep
  ·intro i hi;exact hlen
  ·intro i j hi hj;simp[Cont.len]at hi;subst hi;simp

theorem run_part {w:World} {S:Nat->Prop} {μ:Mu} {T:Nat} {v:PV} {c1 c2 c3:List Value} (hf:fitsT P T v=true) (hr:RepC w S μ v c2):
  ∃ x,(part T (c1++c2++c3).toArray c1.length).run P w=.ok x w/\RepV w S μ v x:=by
 obtain⟨n,hn,hs,hag⟩:=fitsT_len hf
 have hlen:=ncv_len hn hr
 cases hv:isAgg v with
 | true=>
  rw[hv]at hag
  refine⟨.agg c2.toArray,?_,(repV_of_cells hr).1 hv⟩
  simp only[part,Sem.run_bind,run_isAgg hag,Result.andThen_ok,if_true,run_sizeOf hs,Sem.run_pure]
  congr 2
  apply Array.ext'
  simp only[Array.toList_extract,List.extract_eq_take_drop]
  rw[List.append_assoc,List.drop_left' rfl,Nat.add_sub_cancel_left,List.take_left' hlen]
 | false=>
  rw[hv]at hag
  have h1:n=1:=by
   cases v<;>simp[isAgg]at hv<;>simp[ncv,nc]at hn<;>exact hn.symm
  subst h1
  obtain⟨x,rfl⟩:∃ x,c2=[x]:=by
   match c2,hlen with
   | [x],_=>exact⟨x,rfl⟩
  refine⟨x,?_,(repV_of_cells hr).2 x hv rfl⟩
  have hx:(c1++[x]++c3).toArray[c1.length]? = some x:=by simp
  simp only[part,Sem.run_bind,run_isAgg hag,Result.andThen_ok,Bool.false_eq_true,if_false,hx,Sem.run_pure]
theorem repV_agg {w:World} {S:Nat->Prop} {μ:Mu} {pv:PV} {y:Value} (h1:RepV w S μ pv y) (hagg:isAgg pv=true):∃ cs,y=.agg cs.toArray/\RepC w S μ pv cs:=by
 cases h1 with
 | cell _ _ _ hv=>rw[hagg]at hv;cases hv
 | agg _ _ cs hv h1=>exact⟨cs,rfl,h1⟩
 | tup=>cases hagg
 | und=>cases hagg
 | any=>cases hagg
theorem ok_field {T f:Nat} {x:Operand} (ho:o.op=.field T x f)
  (hp:(match fldT P T f with
  | some fd=>match sub [f] (evO t x)with
   | some (o,u)=>match o==fd.offset&&fitsT P fd.type u with|true=>p1 u|false=>.fail
   | none=>.fail
  | none=>.fail:OpR).has e):OpOK P t id (hget h) o e:=by
 split at hp
 case h_2=>simp at hp
 rename_i fd hfd
 split at hp
 case h_2=>simp at hp
 rename_i o1 u hsub
 split at hp
 case h_2=>simp at hp
 rename_i hck
 simp only[Bool.and_eq_true,beq_iff_eq]at hck
 obtain⟨rfl,hf⟩:=hck
 simp at hp;subst hp
 refine OpOK.pure fun w S μ a hr hh => ?_
 have h1:=hr x (by simp[ho,Op.operands])
 obtain⟨fs,hfs,hff⟩:=fldT_spec hfd
 have hagg:isAgg (evO t x)=true:=by
  simp only[sub]at hsub
  split at hsub
  ·rename_i vs hv
   cases hx:evO t x<;>rw[hx]at hv<;>simp[openq]at hv<;>rfl
  ·cases hsub
 have h2:=repV_agg h1 hagg
 obtain⟨cs,hxv,hrep⟩:=h2
 obtain⟨c1,c2,c3,rfl,hlen,hru⟩:=sub_rep [f] _ _ _ _ hsub hrep
 obtain⟨y,hy,hry⟩:=run_part (c1:=c1) (c3:=c3) hf hru
 refine⟨y,?_,hry⟩
 rw[hlen]at hy
 simp only[execOp,ho,hxv,Instr.field,Sem.run_bind,run_underlying hfs,Result.andThen_ok,hff,asAgg,Sem.run_pure,hy]

theorem szT_pos {T n:Nat} (h:szT P T=some (n+1)) {w:World} {a:Addr} {f:Field} (hT:f.type=T):(fieldPlace a f).run P w=.ok (a.add f.offset) w:=by
 subst hT
 simp only[fieldPlace,Sem.run_bind,run_sizeOf h,Result.andThen_ok]
 rw[if_neg (by omega)];rfl
theorem ok_fieldAddr {T f:Nat} {x:Operand} (ho:o.op=.fieldAddr T x f)
  (hp:(match fldT P T f with
  | some fd=>match evO t x with
   | .ptr b e i off q=>match szT P fd.type with
    | some (_+1)=>p1 (.ptr b e i (off+fd.offset) (q++[f]))
    | _=>.fail
   | .ref v=>match sub [f] v,szT P fd.type with
    | some (o,u),some (_+1)=>match o==fd.offset with|true=>p1 (.ref u)|false=>.fail
    | _,_=>.fail
   | _=>.fail
  | none=>.fail:OpR).has e):OpOK P t id (hget h) o e:=by
 split at hp
 case h_2=>simp at hp
 rename_i fd hfd
 obtain⟨fs,hfs,hff⟩:=fldT_spec hfd
 split at hp
 ·rename_i b e' i off q hx
  split at hp
  case h_2=>simp at hp
  rename_i sz hsz
  simp at hp;subst hp
  refine OpOK.pure fun w S μ a hr hh => ?_
  have h1:=hr x (by simp[ho,Op.operands]);rw[hx]at h1
  obtain⟨a',z,hmu,hxv⟩:=repV_ptr h1
  refine⟨.pointer (some ⟨a',i*e'+(off+fd.offset),none⟩),?_,.cell _ _ _ rfl (.ptr _ _ _ _ _ _ _ _ hmu)⟩
  simp only[execOp,ho,hxv,Instr.fieldAt,Sem.run_bind,run_underlying hfs,Result.andThen_ok,hff,Instr.sureAddr,Sem.run_pure,szT_pos hsz rfl,Addr.add_mid,Nat.add_assoc]
 ·rename_i v hx
  split at hp
  case h_2=>simp at hp
  rename_i o1 u sz hsub hsz
  split at hp
  case h_2=>simp at hp
  rename_i hoo
  simp at hoo;subst hoo
  simp at hp;subst hp
  refine OpOK.pure fun w S μ a hr hh => ?_
  have h1:=hr x (by simp[ho,Op.operands]);rw[hx]at h1
  obtain⟨a',o',cs,hS,hrep,hc,hxv⟩:=repV_ref h1
  obtain⟨c1,c2,c3,rfl,hlen,hru⟩:=sub_rep [f] _ _ _ _ hsub hrep
  refine⟨.pointer (some ⟨a',o'+fd.offset,none⟩),?_,.cell _ _ _ rfl (.ref _ _ _ _ c2 hS hru fun j hj => ?_)⟩
  ·simp only[execOp,ho,hxv,Instr.fieldAt,Sem.run_bind,run_underlying hfs,Result.andThen_ok,hff,Instr.sureAddr,Sem.run_pure,szT_pos hsz rfl,Addr.add_mid]
  ·rw[Nat.add_assoc,hc (fd.offset+j) (by simp;omega),List.append_assoc,List.getElem?_append_right (by omega),hlen,Nat.add_sub_cancel_left,List.getElem?_append_left hj]
 ·simp at hp

theorem ok_indexAddr {T:Nat} {x ix:Operand} (ho:o.op=.indexAddr T x ix) (hp:(idxA P T (evO t x) (evO t ix)).has e):OpOK P t id (hget h) o e:=by
 unfold idxA at hp
 split at hp
 case h_2=>simp at hp
 rename_i k n hix
 split at hp
 ·rename_i e' c hx
  split at hp
  case h_2=>simp at hp
  rename_i E hE
  split at hp
  case h_2=>simp at hp
  rename_i hsz
  simp at hsz hp
  obtain⟨⟨h0,hn⟩,rfl⟩:=hp
  refine OpOK.pure fun w S μ a hr hh => ?_
  have h1:=hr x (by simp[ho,Op.operands]);rw[hx]at h1
  have h2:=hr ix (by simp[ho,Op.operands]);rw[hix]at h2
  obtain⟨a',o',cap,cs,hcap,hS,hrr,hl,hc,hxv⟩:=repV_lst h1
  have hlt:n.toNat<c.len:=by omega
  refine⟨.pointer (some ⟨a',o'+n.toNat*e',none⟩),?_,.cell _ _ _ rfl (.ref _ _ _ _ (cs n.toNat) hS (hrr _ hlt) fun j hj => ?_)⟩
  ·have hb:0<=n/\n<(c.len:Int):=⟨h0,hn⟩
   simp only[execOp,ho,hxv,qU h2,Instr.indexAt,asIntOf,Sem.run_bind,Sem.run_pure,Result.andThen_ok,run_underlying (elT_spec hE),hb,and_self,if_true,run_sizeOf hsz,Addr.add_mid]
  ·rw[Nat.add_assoc,hc n.toNat j hlt (by rw[hl _ hlt]at hj;exact hj)]
 ·rename_i b e' off len hx
  split at hp
  case h_2=>simp at hp
  rename_i E hE
  split at hp
  case h_2=>simp at hp
  rename_i hsz
  simp at hsz hp
  obtain⟨⟨h0,hn⟩,rfl⟩:=hp
  refine OpOK.pure fun w S μ a hr hh => ?_
  have h1:=hr x (by simp[ho,Op.operands]);rw[hx]at h1
  have h2:=hr ix (by simp[ho,Op.operands]);rw[hix]at h2
  obtain⟨a',z,o',cap,hmu,hcap,hz,hoo,hxv⟩:=repV_sl h1
  have hoo':o'=off*e':=by
   rcases hoo with h|⟨h,_⟩
   ·exact h
   ·omega
  subst hoo'
  refine⟨.pointer (some ⟨a',off*e'+n.toNat*e',none⟩),?_,.cell _ _ _ rfl ?_⟩
  ·have hb:0<=n/\n<(len:Int):=⟨h0,hn⟩
   simp only[execOp,ho,hxv,qU h2,Instr.indexAt,asIntOf,Sem.run_bind,Sem.run_pure,Result.andThen_ok,run_underlying (elT_spec hE),hb,and_self,if_true,run_sizeOf hsz,Addr.add_mid]
  ·have:=RepC.ptr (w:=w) (S:=S) μ b e' (off+n.toNat) 0 [] a' z hmu
   rw[Nat.add_mul,Nat.add_zero]at this
   exact this
 ·rename_i b e' hx
  split at hp
  case h_2=>simp at hp
  rename_i len E hE
  split at hp
  case h_2=>simp at hp
  rename_i hsz
  simp at hsz hp
  obtain⟨⟨h0,hn⟩,rfl⟩:=hp
  refine OpOK.pure fun w S μ a hr hh => ?_
  have h1:=hr x (by simp[ho,Op.operands]);rw[hx]at h1
  have h2:=hr ix (by simp[ho,Op.operands]);rw[hix]at h2
  obtain⟨a',z,hmu,hxv⟩:=repV_ptr h1
  refine⟨.pointer (some ⟨a',n.toNat*e'+0,none⟩),?_,.cell _ _ _ rfl (.ptr _ _ _ _ _ _ _ z hmu)⟩
  have hb:0<=n/\n<(len:Int):=⟨h0,hn⟩
  simp only[Nat.zero_mul,Nat.add_zero]at hxv
  simp only[execOp,ho,hxv,qU h2,Instr.indexAt,asIntOf,Sem.run_bind,Sem.run_pure,Result.andThen_ok,run_underlying (arrT_spec hE),hb,and_self,if_true,run_sizeOf hsz,Addr.add_mid,Instr.sureAddr,Nat.zero_add,Nat.add_zero]
 ·simp at hp

theorem ok_index {T:Nat} {x ix:Operand} (ho:o.op=.index T x ix) (hp:(idxS P T (evO t x) (evO t ix)).has e):OpOK P t id (hget h) o e:=by
 unfold idxS at hp
 split at hp
 case h_2=>simp at hp
 rename_i s k n hx hix
 split at hp
 case h_2=>simp at hp
 rename_i hu
 simp at hp
 obtain⟨⟨h0,hn⟩,rfl⟩:=hp
 refine OpOK.pure fun w S μ a hr hh => ?_
 have h1:=hr x (by simp[ho,Op.operands]);rw[hx]at h1
 have h2:=hr ix (by simp[ho,Op.operands]);rw[hix]at h2
 refine⟨_,?_,qC _ _⟩
 have hlt:n.toNat<s.size:=by omega
 have hg:s[n.toNat]? = some s[n.toNat]:=getElem?_pos s n.toNat hlt
 have hv:(s.data[n.toNat]?.getD 0)=s[n.toNat]:=by
  have hlt':n.toNat<s.data.size:=hlt
  rw[getElem?_pos s.data n.toNat hlt']
  rfl
 simp only[execOp,ho,repV_s h1,qU h2,Instr.index,asIntOf,Sem.run_bind,Sem.run_pure,Result.andThen_ok,run_underlying hu,h0,if_true,hg,hv]
end
end
section
open Go
section
variable {P:Program} {t:List PV} {id:Nat} {h:qT} {o:Oper} {e:Eff}
theorem foldl_set (l:List Value) (off:Nat):∀ (k:Nat) (cells:Array Value),off+k+l.length<=cells.size->
  ((l.zipIdx k).foldl (fun cs (c,j)=>cs.setIfInBounds (off+j) c) cells).toList=cells.toList.take (off+k)++l++cells.toList.drop (off+k+l.length):=by
 induction l with
 | nil=>intro k cells h;simp
 | cons c l ih=>
  intro k cells h
  simp only[List.zipIdx_cons,List.foldl_cons]
  simp only[List.length_cons]at h
  have:=ih (k+1) (cells.setIfInBounds (off+k) c) (by simp;omega)
  rw[this]
  simp only[Array.toList_setIfInBounds]
  have e1:=list_seg_step cells.toList (off+k) c l (by simp;omega)
  rw[show off+(k+1)=off+k+1 by omega,e1]
  simp
theorem fill_cons {place:Nat->Option (Nat × Nat)} {cells:Array Value} {i off size:Nat} {v:Value} {rest:List (Nat × Value)} {cs:List Value}
  (hp:place i=some (off,size)) (hv:v.cells=cs.toArray) (hlen:cs.length=size) (hle:off+size<=cells.size):
  Instr.fill place cells ((i,v)::rest)=Instr.fill place (cells.toList.take off++cs++cells.toList.drop (off+size)).toArray rest:=by
 simp only[Instr.fill,hp,hv]
 rw[if_neg (by simp;omega)]
 congr 1
 have:=foldl_set cs off 0 cells (by omega)
 simp only[Nat.add_zero,hlen]at this
 rw[<-this]
 simp[<-Array.foldl_toList]
theorem split_at {vs:List PV} {f:Nat} {w1:PV} (hw:vs[f]? = some w1):vs=vs.take f++w1::vs.drop (f+1):=by
 have hlt:f<vs.length:=(List.getElem?_eq_some_iff.1 hw).1
 have he:vs[f]=w1:=(List.getElem?_eq_some_iff.1 hw).2
 rw[<-he,List.getElem_cons_drop,List.take_append_drop]
theorem bld_rep {w:World} {S:Nat->Prop} {μ:Mu} {T:Nat} {fs:Array Field} (hfs:P.underlying T=some (.struct fs)) (place:Nat->Option (Nat × Nat))
  (hplace:∀ f fd sz,fs[f]? = some fd->szT P fd.type=some sz->place f=some (fd.offset,sz)):
  ∀ (ps:List (Nat × PV)) (xs:List (Nat × Value)) (vs ws:List PV) (cells:Array Value),
   ps.length=xs.length->(∀ (j f:Nat) (v:PV),ps[j]? = some (f,v)->∃ x,xs[j]? = some (f,x)/\RepV w S μ v x)->bldO P T vs ps=some ws->RepL w S μ vs cells.toList->
   ∃ cells',Instr.fill place cells xs=some cells'/\RepL w S μ ws cells'.toList
 | [],xs,vs,ws,cells,hl,_,hb,hr=>by
  simp at hl;simp[bldO]at hb;subst hb
  have:xs=[]:=List.eq_nil_of_length_eq_zero hl.symm
  subst this
  exact⟨cells,rfl,hr⟩
 | (f,v)::ps,xs,vs,ws,cells,hl,hx,hb,hr=>by
  cases xs with
  | nil=>simp at hl
  | cons y xs=>
   obtain⟨x,hy,hrx⟩:=hx 0 f v rfl
   simp at hy;subst hy
   simp only[bldO]at hb
   split at hb
   case h_2=>cases hb
   rename_i fd hfd
   obtain⟨fs',hfs',hff⟩:=fldT_spec hfd
   rw[hfs]at hfs';cases hfs'
   split at hb
   case h_2=>cases hb
   rename_i o1 old ho1 hold
   split at hb
   case h_2=>cases hb
   rename_i hck
   simp only[Bool.and_eq_true,beq_iff_eq]at hck
   obtain⟨⟨rfl,hnc⟩,hf⟩:=hck
   obtain⟨n,hn,hs,_⟩:=fitsT_len hf
   obtain⟨cs,hrc,hlen,hcells,_,_⟩:=repV_cells hn hrx
   have hsplit:=split_at hold
   rw[hsplit]at hr
   obtain⟨c1,c23,hc,h1,h23⟩:=hr.split
   cases h23 with
   | cons _ _ _ c2 c3 h2 h3=>
    have hl1:c1.length=fd.offset:=sumM_len (fun v n cs h hr=>ncv_len h hr) _ _ _ ho1 h1
    have hl2:c2.length=n:=ncv_len (hnc.trans hn) h2
    have hsz:fd.offset+n<=cells.size:=by
     have:cells.size=cells.toList.length:=by simp
     rw[this,hc];simp;omega
    have hset:vs.set f v=vs.take f++v::vs.drop (f+1):=by
     rw[List.set_eq_take_append_cons_drop,if_pos (List.getElem?_eq_some_iff.1 hold).1]
    have hnew:RepL w S μ (vs.set f v) (cells.toList.take fd.offset++cs++cells.toList.drop (fd.offset+n)):=by
     rw[hset,hc]
     have e1:List.take fd.offset (c1++(c2++c3))=c1:=by rw[<-hl1];exact List.take_left
     have e2:List.drop (fd.offset+n) (c1++(c2++c3))=c3:=by
      rw[<-hl1,<-hl2,<-List.append_assoc,<-List.length_append];exact List.drop_left
     rw[e1,e2,List.append_assoc]
     exact h1.append (.cons _ _ _ _ _ hrc h3)
    rw[fill_cons (hplace f fd n hff hs) hcells hlen hsz]
    exact bld_rep hfs place hplace ps xs (vs.set f v) ws _ (by simpa using hl) (fun j f' v' hj=>by have:=hx (j+1) f' v' (by simpa using hj);simpa using this) hb hnew
theorem places_get:∀ (fs:List Field) (l:List (Nat × Nat)),fs.mapM (fun f=>(P.info? f.type).map fun i=>(f.offset,i.size))=some l->
  ∀ (j:Nat) (f:Field) (n:Nat),fs[j]? = some f->szT P f.type=some n->l[j]? = some (f.offset,n)
 | [],l,h,j,f,n,hj,hn=>by simp at hj
 | f::fs,l,h,j,g,n,hj,hn=>by
  simp only[List.mapM_cons,Option.bind_eq_bind,Option.pure_def]at h
  cases hi:P.info? f.type with
  | none=>simp[hi]at h
  | some i=>
   cases hr:fs.mapM (fun f=>(P.info? f.type).map fun i=>(f.offset,i.size))with
   | none=>simp[hi,hr]at h
   | some rest=>
    simp[hi,hr]at h
    subst h
    cases j with
    | zero=>
     simp at hj;subst hj
     obtain⟨i',hi',rfl⟩:=szT_info hn
     rw[hi]at hi';cases hi';rfl
    | succ j=>simp at hj;simpa using places_get fs rest hr j g n hj hn
theorem ok_build {T:Nat} {ps:Array (Nat × Operand)} (ho:o.op=.build T ps)
  (hp:(match zeroT P T with
  | some (.agg vs)=>match bldO P T vs (ps.toList.map fun(j,x)=>(j,evO t x)),P.underlying T with
   | some ws,some (.struct fs)=>match fs.toList.mapM (fun f=>(P.info? f.type).map fun i=>(f.offset,i.size))with
    | some _=>p1 (.agg ws)
    | none=>.fail
   | _,_=>.fail
  | _=>.fail:OpR).has e):OpOK P t id (hget h) o e:=by
 split at hp
 case h_2=>simp at hp
 rename_i vs hz
 split at hp
 case h_2=>simp at hp
 rename_i ws fs hb hfs
 split at hp
 case h_2=>simp at hp
 rename_i places hpl
 simp at hp;subst hp
 refine OpOK.pure fun w S μ a hr hh => ?_
 obtain⟨i,z,hi,hzz,hrep⟩:=zeroT_rep (w:=w) (S:=S) (μ:=μ) hz
 cases hrep with
 | agg _ _ _ hrep=>
  obtain⟨cells,hfill,hrw⟩:=bld_rep hfs (fun x=>places.toArray[x]?) (fun f fd n hf hn=>by simpa using places_get _ _ hpl f fd n (by simpa using hf) hn)
   (ps.toList.map fun(j,x)=>(j,evO t x)) (ps.toList.map fun(j,x)=>(j,a.eval x)) vs ws z.cells (by simp)
   (fun j f v hj=>by
    simp only[List.getElem?_map,Option.map_eq_some_iff]at hj
    obtain⟨⟨j',x⟩,hx,he⟩:=hj
    cases he
    refine⟨a.eval x,by simp only[List.getElem?_map,hx,Option.map_some],hr x ?_⟩
    have:=List.mem_of_getElem? hx
    simp only[ho,Op.operands]
    simp only[List.mem_toArray,List.mem_map]
    exact⟨(j',x),this,rfl⟩) hb hrep
  refine⟨.agg cells,?_,?_⟩
  ·have hbuilt:P.built T (ps.map fun(j,x)=>(j,a.eval x)).toList=some cells:=by
    unfold Program.built
    simp only[hi,hfs,hzz,hpl]
    rw[Array.toList_map]
    exact hfill
   simp only[execOp,ho,Sem.run_bind,run_build w T _ cells hbuilt,Result.andThen_ok,Sem.run_pure]
  ·have:=RepC.agg (w:=w) (S:=S) μ ws cells.toList hrw
   have h2:=RepV.agg (w:=w) (S:=S) μ (.agg ws) cells.toList rfl this
   simpa using h2

theorem fill_order {size:Nat}:∀ (xs:List (Nat × Value)) (k n:Nat) (css:List (List Value)) (cells:Array Value),
  xs.length=css.length->(∀ (j f:Nat) (x:Value),xs[j]? = some (f,x)->f=k+j/\∃ cs,css[j]? = some cs/\x.cells=cs.toArray/\cs.length=size)->k+xs.length=n->cells.size=n*size->
  Instr.fill (fun i=>some (i*size,size)) cells xs=some (cells.toList.take (k*size)++css.flatten).toArray
 | [],k,n,css,cells,hl,_,hn,hsz=>by
  simp at hl
  have:css=[]:=List.eq_nil_of_length_eq_zero hl.symm
  subst this
  simp at hn;subst hn
  simp only[Instr.fill,List.flatten_nil,List.append_nil]
  rw[List.take_of_length_le (by simp;omega)]
 | (f,x)::xs,k,n,css,cells,hl,hx,hn,hsz=>by
  cases css with
  | nil=>simp at hl
  | cons cs css=>
   obtain⟨hf,cs',hcs,hxc,hlen⟩:=hx 0 f x rfl
   simp at hcs;subst hcs
   simp at hf;subst hf
   simp only[List.length_cons]at hn hl
   have hle:f*size+size<=cells.size:=by
    rw[hsz]
    have:=Nat.mul_le_mul_right size (show f+1<=n by omega)
    rw[Nat.add_mul,Nat.one_mul]at this
    exact this
   rw[fill_cons (off:=f*size) (size:=size) rfl hxc hlen hle]
   rw[fill_order xs (f+1) n css _ (by omega) (fun j g y hj=>by
    obtain⟨h1,h2⟩:=hx (j+1) g y (by simpa using hj)
    exact⟨by omega,by simpa using h2⟩) (by omega) (by simp;rw[hsz];rw[hsz]at hle;omega)]
   congr 1
   simp only[List.flatten_cons]
   rw[<-List.append_assoc]
   congr 1
   have ht:(List.take (f*size) cells.toList).length=f*size:=by simp;omega
   rw[List.append_assoc,List.take_append,ht,List.take_of_length_le (by rw[ht,Nat.add_mul];omega)]
   congr 1
   rw[show(f+1)*size-f*size=size by rw[Nat.add_mul,Nat.one_mul];omega,List.take_left' hlen]
theorem inOrder_spec:∀ (ps:List (Nat × PV)) (k:Nat) (vs:List PV),inOrder k ps=some vs->vs.length=ps.length/\∀ (j f:Nat) (v:PV),ps[j]? = some (f,v)->f=k+j/\vs[j]? = some v
 | [],k,vs,h=>by simp[inOrder]at h;subst h;exact⟨rfl,fun j f v h=>by simp at h⟩
 | (f,v)::ps,k,vs,h=>by
  simp only[inOrder]at h
  split at h
  case h_2=>cases h
  rename_i hk
  simp at hk;subst hk
  split at h
  case h_2=>cases h
  rename_i us hus
  simp at h;subst h
  obtain⟨h1,h2⟩:=inOrder_spec ps (k+1) us hus
  refine⟨by simp[h1],fun j g u hj => ?_⟩
  cases j with
  | zero=>simp at hj;obtain⟨rfl,rfl⟩:=hj;exact⟨rfl,rfl⟩
  | succ j=>
   simp at hj
   obtain⟨h3,h4⟩:=h2 j g u hj
   exact⟨by omega,by simpa using h4⟩
theorem allFit_spec {E:Nat}:∀ (vs:List PV),allFit P E vs=true->∀ v∈vs,fitsT P E v=true
 | [],_,v,hv=>by cases hv
 | u::us,h,v,hv=>by
  simp only[allFit,Bool.and_eq_true]at h
  rcases List.mem_cons.1 hv with rfl|hv
  ·exact h.1
  ·exact allFit_spec us h.2 v hv

theorem allInts_spec {k:IntKind}:∀ (vs:List PV) (ns:List Int),allInts k vs=some ns->ns.length=vs.length/\∀ (j:Nat) (v:PV),vs[j]? = some v->v=.i k (ns.getD j 0)
 | [],ns,h=>by simp[allInts]at h;subst h;exact⟨rfl,fun j v h=>by simp at h⟩
 | u::us,ns,h=>by
  unfold allInts at h
  split at h
  ·rename_i he;cases he
  ·rename_i k' n r he
   cases he
   split at h
   ·rename_i hk;simp at hk;subst hk
    split at h
    ·rename_i ms hms
     simp at h;subst h
     obtain⟨h1,h2⟩:=allInts_spec us ms hms
     refine⟨by simp[h1],fun j v hj => ?_⟩
     cases j with
     | zero=>simp at hj;subst hj;rfl
     | succ j=>simp at hj;simpa using h2 j v hj
    ·cases h
   ·cases h
  ·cases h
theorem allRats_spec:∀ (vs:List PV) (n:Nat) (xs:List Rat),allRats vs=some (n,xs)->xs.length=vs.length/\∀ (j:Nat) (v:PV),vs[j]? = some v->∃ m,v=.q (xs.getD j 0) m/\m<=n
 | [],n,xs,h=>by simp[allRats]at h;obtain⟨rfl,rfl⟩:=h;exact⟨rfl,fun j v h=>by simp at h⟩
 | u::us,n,xs,h=>by
  unfold allRats at h
  split at h
  ·rename_i he;cases he
  ·rename_i x m r he
   cases he
   split at h
   ·rename_i m' ys hms
    simp at h;obtain⟨rfl,rfl⟩:=h
    obtain⟨h1,h2⟩:=allRats_spec us m' ys hms
    refine⟨by simp[h1],fun j v hj => ?_⟩
    cases j with
    | zero=>simp at hj;subst hj;exact⟨m,rfl,Nat.le_max_left _ _⟩
    | succ j=>
     simp at hj
     obtain⟨m2,h3,h4⟩:=h2 j v hj
     exact⟨m2,by simpa using h3,Nat.le_trans h4 (Nat.le_max_right _ _)⟩
   ·cases h
  ·cases h
theorem mkC_spec {w:World} {S:Nat->Prop} {μ:Mu} {E:Nat} (vs:List PV):(mkC P E vs).len=vs.length/\
  ∀ (j:Nat) (v:PV) (cs:List Value),vs[j]? = some v->RepC w S μ v cs->RepC w S (qD μ (mkC P E vs)) ((mkC P E vs).get j) cs:=by
 have hvals:(Cont.vals vs).len=vs.length/\∀ (j:Nat) (v:PV) (cs:List Value),vs[j]? = some v->RepC w S μ v cs->RepC w S (qD μ (.vals vs)) ((Cont.vals vs).get j) cs:=
  ⟨rfl,fun j v cs hj hr=>by simpa [Cont.get,qD,List.getD,hj]using hr⟩
 unfold mkC
 split
 ·split
  ·rename_i ns hns
   obtain⟨h1,h2⟩:=allInts_spec _ _ hns
   refine⟨by simp[Cont.len,h1],fun j v cs hj hr => ?_⟩
   rw[h2 j v hj]at hr
   simp only[Cont.get,qD]
   cases hr;exact .i _ _ _
  ·exact hvals
 ·split
  ·split
   ·rename_i n xs hns
    obtain⟨h1,h2⟩:=allRats_spec _ _ _ hns
    refine⟨by simp[Cont.len,h1],fun j v cs hj hr => ?_⟩
    obtain⟨m,hv,hm⟩:=h2 j v hj
    rw[hv]at hr
    simp only[Cont.get,qD]
    cases hr with|q _ _ _ h=>exact .q _ _ _ (Nat.le_trans h hm)
   ·exact hvals
  ·exact hvals
theorem noRefs_rep {w:World} {S:Nat->Prop} {μ:Mu} {c:Cont} {i:Nat} {cs:List Value} (h:c.noRefs=true) (hi:i<c.len) (hr:RepC w S (qD μ c) (c.get i) cs):RepC w S qR (c.get i) cs:=by
 cases c with
 | vals vs=>
  simp only[Cont.noRefs]at h
  simp only[Cont.len]at hi
  have hm:(Cont.vals vs).get i∈vs:=by
   simp only[Cont.get,List.getD]
   rw[List.getElem?_eq_getElem hi]
   exact List.getElem_mem hi
  exact(noRef_rep 8 _ _ (List.all_eq_true.1 h _ hm)).1 _ hr
 | _=>exact hr
theorem run_buildSlice {w:World} {T E n:Nat} {xs:Array (Nat × Value)} {i:TypeInfo} {z:Value} {cells:Array Value} (hT:P.underlying T=some (.slice E)) (hi:P.info? E=some i) (hz:i.zero=some z)
  (hle:n*i.size<=16777216) (hfill:Instr.fill (fun j=>some (j*i.size,i.size)) ((Array.range (n*i.size)).map (z.cells[· % z.cells.size]!)) xs.toList=some cells):
  (Instr.buildSlice T n xs).run P w=.ok (.slice (some ⟨w.heap.size,0,none⟩) n n) (w.alloc (.cells cells E)):=by
 have hle':¬ (2^24<n*i.size):=by omega
 by_cases h0:n*i.size=0
 ·have hf:Instr.fill (fun j=>some (j*i.size,i.size)) #[] xs.toList=some cells:=by simpa [h0,Array.range_zero']using hfill
  simp[Instr.buildSlice,run_underlying hT,Go.sizeOf,typeInfo,hi,hle',h0,newRow,Array.range_zero',hf]
 ·simp[Instr.buildSlice,run_underlying hT,Go.sizeOf,typeInfo,hi,hle',h0,zeroValue,hz,newRow,hfill]
theorem flatten_get {e:Nat}:∀ (css:List (List Value)) (i j:Nat),(∀ cs∈css,cs.length=e)->i<css.length->j<e->css.flatten[i*e+j]? = (css.getD i [])[j]?
 | [],i,j,_,hi,_=>by simp at hi
 | cs::css,i,j,h,hi,hj=>by
  have hlen:=h cs (by simp)
  cases i with
  | zero=>simp only[List.flatten_cons,Nat.zero_mul,Nat.zero_add];rw[List.getElem?_append_left (by omega)];rfl
  | succ i=>
   simp only[List.flatten_cons]
   rw[List.getElem?_append_right (by rw[Nat.add_mul];omega),show(i+1)*e+j-cs.length=i*e+j by rw[Nat.add_mul];omega]
   rw[flatten_get css i j (fun c hc=>h c (by simp[hc])) (by simpa using hi) hj]
   rfl
theorem flatten_len {e:Nat} (css:List (List Value)) (h:∀ cs∈css,cs.length=e):css.flatten.length=css.length*e:=by
 induction css with
 | nil=>simp
 | cons cs css ih=>simp only[List.flatten_cons,List.length_append,List.length_cons];rw[ih (fun c hc=>h c (by simp[hc])),h cs (by simp),Nat.add_mul];omega
theorem ok_buildSlice {own:Bool} {T n:Nat} {ps:Array (Nat × Operand)} (ho:o.op=.buildSlice T n ps)
  (hp:(match elT P T with
  | some E=>match szT P E,zcT P E,inOrder 0 (ps.toList.map fun(j,x)=>(j,evO t x))with
   | some e,some zs,some vs=>match vs.length==n&&allFit P E vs&&(zs.length==e)&&Nat.ble (n*e) 16777216 with
    | true=>match own with
     | true=>.one (.sl id e 0 n,[],[⟨e,mkC P E vs⟩])
     | false=>match (mkC P E vs).noRefs with
      | true=>p1 (.lst e (mkC P E vs))
      | false=>.fail
    | false=>.fail
   | _,_,_=>.fail
  | none=>.fail:OpR).has e):OpOK P t id (hget h) o e:=by
 split at hp
 case h_2=>simp at hp
 rename_i E hE
 split at hp
 case h_2=>simp at hp
 rename_i sz zs vs hsz hzc hord
 split at hp
 case h_2=>simp at hp
 rename_i hck
 simp only[Bool.and_eq_true,beq_iff_eq,Nat.ble_eq]at hck
 obtain⟨⟨⟨hvn,hfit⟩,hzl⟩,hbig⟩:=hck
 obtain⟨hlen,hget⟩:=inOrder_spec _ _ _ hord
 obtain⟨i,hi,his⟩:=szT_info hsz
 obtain⟨i',z,hi',hz,hzz⟩:=zcT_info hzc
 rw[hi]at hi';cases hi'
 -- the cells, in whatever world
 have key:∀ (w:World) (S:Nat->Prop) (μ:Mu) (a:Act),(∀ x,x∈o.op.operands->RepV w S μ (evO t x) (a.eval x))->
   ∃ css:List (List Value),css.length=n/\(∀ cs∈css,cs.length=sz)/\(∀ (j:Nat) (v:PV),vs[j]? = some v->RepC w S μ v (css.getD j []))/\
    (Instr.buildSlice T n (ps.map fun(j,x)=>(j,a.eval x))).run P w=.ok (.slice (some ⟨w.heap.size,0,none⟩) n n) (w.alloc (.cells css.flatten.toArray E)):=by
  intro w S μ a hr
  have hper:∀ (j f:Nat) (x:Operand),ps.toList[j]? = some (f,x)->f=j/\vs[j]? = some (evO t x)/\∃ cs,RepC w S μ (evO t x) cs/\cs.length=sz/\(a.eval x).cells=cs.toArray:=by
   intro j f x hj
   obtain⟨h1,h2⟩:=hget j f (evO t x) (by simp only[List.getElem?_map,hj,Option.map_some])
   have hf:=allFit_spec vs hfit _ (List.mem_of_getElem? h2)
   obtain⟨m,hm,hs,_⟩:=fitsT_len hf
   rw[hsz]at hs;cases hs
   have hmem:x∈o.op.operands:=by
    simp only[ho,Op.operands,List.mem_toArray,List.mem_map]
    exact⟨(f,x),List.mem_of_getElem? hj,rfl⟩
   obtain⟨cs,c1,c2,c3,_,_⟩:=repV_cells hm (hr x hmem)
   exact⟨by omega,h2,cs,c1,c2,c3⟩
  refine⟨ps.toList.map fun p=>(a.eval p.2).cells.toList,by rw[List.length_map];rw[<-hvn,hlen,List.length_map],?_,?_,?_⟩
  ·intro cs hcs
   obtain⟨⟨f,x⟩,hm,rfl⟩:=List.mem_map.1 hcs
   obtain⟨j,hj⟩:=List.mem_iff_getElem?.1 hm
   obtain⟨_,_,cs,_,c2,c3⟩:=hper j f x hj
   simp[c3,c2]
  ·intro j v hv
   have hjl:j<ps.toList.length:=by
    have:=(List.getElem?_eq_some_iff.1 hv).1
    rw[hlen]at this;simpa using this
   obtain⟨f,x⟩:Nat × Operand:=ps.toList[j]
   cases hp:ps.toList[j]? with
   | none=>rw[List.getElem?_eq_none_iff]at hp;omega
   | some q=>
    obtain⟨f,x⟩:=q
    obtain⟨_,h2,cs,c1,c2,c3⟩:=hper j f x hp
    rw[hv]at h2;cases h2
    simp only[List.getD_eq_getElem?_getD,List.getElem?_map,hp,Option.map_some,Option.getD_some,c3]
    exact c1
  ·refine run_buildSlice (elT_spec hE) hi hz (by rw[his];exact hbig) ?_
   have hpl:ps.toList.length=n:=by rw[<-hvn,hlen,List.length_map]
   have hfo:=fill_order (size:=i.size) (ps.map fun(j,x)=>(j,a.eval x)).toList 0 n (ps.toList.map fun p=>(a.eval p.2).cells.toList) ((Array.range (n*i.size)).map (z.cells[· % z.cells.size]!))
    (by simp) (fun j f y hj=>by
     rw[Array.toList_map,List.getElem?_map,Option.map_eq_some_iff]at hj
     obtain⟨⟨f',x⟩,hx,he⟩:=hj
     cases he
     obtain⟨h1,_,cs,_,c2,c3⟩:=hper j _ x hx
     exact⟨by omega,cs,by simp only[List.getElem?_map,hx,Option.map_some,c3],c3,by rw[his];exact c2⟩) (by simpa using hpl) (by simp)
   rw[hfo]
   simp
 have hcl:=(mkC_spec (P:=P) (w:=default) (S:=fun _=>True) (μ:=qR) (E:=E) vs).1
 split at hp
 ·simp at hp;subst hp
  intro w S μ a K Q hr hh hn hK
  have hid:μ id=none:=by simpa using hn 0 (by simp)
  obtain⟨css,hcn,hcl2,hcr,hrun⟩:=key w S μ a hr
  have hfl:=flatten_len css hcl2
  have hget:∀ j,j<n->∃ v,vs[j]? = some v:=fun j hj=>⟨vs[j]'(by omega),List.getElem?_eq_getElem (by omega)⟩
  refine wp_val (w':=w.alloc (.cells css.flatten.toArray E)) (v:=.slice (some ⟨w.heap.size,0,none⟩) n n) ?_ (hK _ _ S _
   (Post.newBlk (k:=⟨sz,mkC P E vs⟩) hh.lt hid (fun j=>css.getD j []) ?_ ?_ ?_ ?_ (slNew_rep (by simp[hfl,hcn]))))
  ·simp only[execOp,ho,Sem.run_bind,hrun,Result.andThen_ok,Sem.run_pure]
  ·simp only[hcl,List.size_toArray,hfl,hcn,hvn];exact Nat.le_refl _
  ·intro j hj
   simp only[hcl,hvn]at hj
   obtain⟨v,hv⟩:=hget j hj
   exact(mkC_spec vs).2 j v _ hv (hcr j v hv)
  ·intro j hj
   simp only[hcl,hvn]at hj
   simp only[List.getD_eq_getElem?_getD]
   rw[List.getElem?_eq_getElem (by omega)]
   exact hcl2 _ (List.getElem_mem _)
  ·intro j j' hj hj'
   simp only[hcl,hvn]at hj
   simp only[List.getElem?_toArray]
   exact flatten_get css j j' hcl2 (by omega) hj'
 ·split at hp
  case h_2=>simp at hp
  rename_i hno
  simp at hp;subst hp
  intro w S μ a K Q hr hh _ hK
  obtain⟨css,hcn,hcl2,hcr,hrun⟩:=key w S μ a hr
  have hfl:=flatten_len css hcl2
  have hget:∀ j,j<n->∃ v,vs[j]? = some v:=fun j hj=>⟨vs[j]'(by omega),List.getElem?_eq_getElem (by omega)⟩
  have hmono:Mono w (w.alloc (.cells css.flatten.toArray E)) S (fun m=>S m\/m=w.heap.size):=
   ⟨fun _ h=>.inl h,fun q hq oo=>World.cell?_alloc_lt w _ ⟨q,oo,none⟩ (hh.lt q hq)⟩
  refine wp_val (w':=w.alloc (.cells css.flatten.toArray E)) (v:=.slice (some ⟨w.heap.size,0,none⟩) n n) ?_ (hK _ _ _ μ
   (Post.newImm rfl rfl rfl (by simp) (fun m hm=>heap_alloc_old w _ m hm) ?_))
  ·simp only[execOp,ho,Sem.run_bind,hrun,Result.andThen_ok,Sem.run_pure]
  ·refine .cell _ _ _ rfl ?_
   have:=RepC.lst (w:=w.alloc (.cells css.flatten.toArray E)) (S:=fun m=>S m\/m=w.heap.size) μ sz (mkC P E vs) w.heap.size 0 n (fun j=>css.getD j [])
    (by rw[hcl];omega) (.inr rfl) (fun j hj=>by
     rw[hcl,hvn]at hj
     obtain⟨v,hv⟩:=hget j hj
     exact(noRefs_rep hno (by rw[hcl];omega) ((mkC_spec vs).2 j v _ hv (hcr j v hv))).mono hmono _ (MuLe.refl _))
    (fun j hj=>by
     rw[hcl,hvn]at hj
     simp only[List.getD_eq_getElem?_getD]
     rw[List.getElem?_eq_getElem (by omega)]
     exact hcl2 _ (List.getElem_mem _))
    (fun j j' hj hj'=>by
     rw[hcl,hvn]at hj
     rw[World.cell?_alloc_new,Nat.zero_add,List.getElem?_toArray]
     exact flatten_get css j j' hcl2 (by omega) hj')
   rw[hcl,hvn]at this
   exact this

theorem madeCells_get (z:Array Value) (n i j:Nat) (hi:i<n) (hj:j<z.size):(madeCells z (n*z.size))[i*z.size+j]? = z[j]? := by
 have hlt:=mul_add_lt hi hj
 simp only[madeCells,Array.getElem?_map]
 rw[Array.getElem?_eq_getElem (by simpa using hlt)]
 simp only[Array.getElem_range,Option.map_some]
 have:(i*z.size+j)%z.size=j:=by rw[Nat.mul_comm,Nat.mul_add_mod,Nat.mod_eq_of_lt hj]
 rw[this,getElem!_pos z j hj,Array.getElem?_eq_getElem hj]
theorem zeroC_spec {w:World} {S:Nat->Prop} {E n:Nat} {c:Cont} (h:zeroC P E n=some c):c.len=n/\
  ∃ i z,P.info? E=some i/\i.zero=some z/\∀ (μ:Mu) (j:Nat),j<n->RepC w S (qD μ c) (c.get j) z.cells.toList:=by
 unfold zeroC at h
 split at h
 ·rename_i k hz
  simp at h;subst h
  obtain⟨i,z,hi,hzz,hr⟩:=zeroT_rep (w:=w) (S:=S) (μ:=qR) hz
  exact⟨by simp[Cont.len],i,z,hi,hzz,fun μ j hj=>by simpa [Cont.get,qD,hj]using hr⟩
 ·rename_i z' hne hz
  simp at h;subst h
  obtain⟨i,z,hi,hzz,hr⟩:=zeroT_rep (w:=w) (S:=S) (μ:=qR) hz
  exact⟨rfl,i,z,hi,hzz,fun μ j hj=>by simpa [Cont.get,qD]using hr⟩
 ·cases h
theorem ok_makeSlice {T:Nat} {x y:Operand} (ho:o.op=.makeSlice T x y)
  (hp:(match evO t x,evO t y,elT P T with
  | .i _ a,.i _ c,some E=>match szT P E,byT P E,zeroC P E a.toNat,zcT P E with
   | some e,some by_,some z,some zs=>match zs.length==e with
    | true=>.cond (decide (a=c)&&decide (0<=a)&&decide (a<=4294967296)&&Nat.ble by_ 1024) (.sl id e 0 a.toNat,[],[⟨e,z⟩])
    | false=>.fail
   | _,_,_,_=>.fail
  | _,_,_=>.fail:OpR).has e):OpOK P t id (hget h) o e:=by
 split at hp
 case h_2=>simp at hp
 rename_i k n k' n' E hx hy hE
 split at hp
 case h_2=>simp at hp
 rename_i sz bys z zs hsz hby hz hzc
 split at hp
 case h_2=>simp at hp
 rename_i hzl
 simp at hzl
 simp only[has_cond,Bool.and_eq_true,decide_eq_true_eq,Nat.ble_eq]at hp
 obtain⟨⟨⟨⟨rfl,h0⟩,hbig⟩,hb⟩,rfl⟩:=hp
 intro w S μ a K Q hr hh hn hK
 have hid:μ id=none:=by simpa using hn 0 (by simp)
 have h1:=hr x (by simp[ho,Op.operands]);rw[hx]at h1
 have h2:=hr y (by simp[ho,Op.operands]);rw[hy]at h2
 obtain⟨hlen,i,zv,hi,hzv,hrep⟩:=zeroC_spec (w:=w) (S:=S) hz
 obtain⟨i2,hi2,his⟩:=szT_info hsz
 rw[hi]at hi2;cases hi2
 obtain⟨i3,hi3,hib⟩:=byT_info hby
 rw[hi]at hi3;cases hi3
 obtain⟨i4,z4,hi4,hz4,hzz⟩:=zcT_info hzc
 rw[hi]at hi4;cases hi4
 rw[hzv]at hz4;cases hz4
 have hzs:zv.cells.size=sz:=by rw[<-hzl,<-hzz];simp
 have hbytes:(i.bytes:Int)*n<=281474976710656:=by
  have h3:(i.bytes:Int)<=1024:=by omega
  have h4:=Int.mul_le_mul h3 hbig h0 (by omega)
  omega
 have hrun:=run_make (P:=P) w T E i zv (elT_spec hE) hi hzv k k' n n h0 (Int.le_refl _) hbytes (by omega)
 refine wp_val (w':=w.alloc (.cells (madeCells zv.cells (n.toNat*i.size)) E)) (v:=.slice (some ⟨w.heap.size,0,none⟩) n.toNat n.toNat) ?_ (hK _ _ S _
   (Post.newBlk (k:=⟨sz,z⟩) hh.lt hid (fun j=>zv.cells.toList) ?_ ?_ ?_ ?_ (slNew_rep (by simp[size_madeCells,his]))))
 ·simp only[execOp,ho,qU h1,qU h2,Sem.run_bind,hrun,Result.andThen_ok,Sem.run_pure]
 ·simp only[hlen,size_madeCells,his];exact Nat.le_refl _
 ·intro j hj;rw[hlen]at hj;exact hrep μ j hj
 ·intro j hj;simpa using hzs
 ·intro j j' hj hj'
  rw[hlen]at hj
  simp only at hj'
  rw[his,<-hzs,madeCells_get zv.cells n.toNat j j' hj (by omega)]
  simp
end
end
section
open Go
section
variable {P:Program} {t:List PV} {id:Nat} {h:qT} {o:Oper} {e:Eff}
def atB (o:Option PV) (n d:Nat):Prop:=match o with|none=>n=d|some v=>∃ k,v=.i k (n:Int)
theorem bnds_spec {len:Nat} {lo hi:Option PV} {ob:Option Bool} {l r:Nat} (h:bnds len lo hi=some (ob,l,r)) (hb:∀ b,ob=some b->b=true):
  l<=r/\r<=len/\atB lo l 0/\atB hi r len:=by
 unfold bnds at h
 split at h
 ·simp at h;obtain⟨rfl,rfl,rfl⟩:=h;exact⟨Nat.zero_le _,Nat.le_refl _,rfl,rfl⟩
 ·simp at h;obtain⟨rfl,rfl,rfl⟩:=h
  have:=hb _ rfl
  simp at this
  exact⟨by omega,Nat.le_refl _,⟨_,by rw[Int.toNat_of_nonneg this.1]⟩,rfl⟩
 ·simp at h;obtain⟨rfl,rfl,rfl⟩:=h
  have:=hb _ rfl
  simp at this
  exact⟨by omega,by omega,rfl,⟨_,by rw[Int.toNat_of_nonneg this.1]⟩⟩
 ·simp at h;obtain⟨rfl,rfl,rfl⟩:=h
  have:=hb _ rfl
  simp at this
  exact⟨by omega,by omega,⟨_,by rw[Int.toNat_of_nonneg this.1.1]⟩,⟨_,by rw[Int.toNat_of_nonneg (by omega)]⟩⟩
 ·cases h
theorem withB_spec {r:Option (Option Bool × Nat × Nat)} {f:Nat->Nat->PV} (hp:(withB r f).has e):∃ ob l r',r=some (ob,l,r')/\(∀ b,ob=some b->b=true)/\e=(f l r',[],[]):=by
 unfold withB at hp
 split at hp
 ·rename_i l r';exact⟨none,l,r',rfl,(fun _ h=>by cases h),by simpa using hp⟩
 ·rename_i b l r';simp at hp;exact⟨some b,l,r',rfl,(fun _ h=>by cases h;exact hp.1),hp.2⟩
 ·simp at hp
theorem run_bounds {w:World} {S:Nat->Prop} {μ:Mu} {a:Act} {isS:Bool} {len cap l r:Nat} {lo hi:Option Operand}
  (hlo:atB (lo.map (evO t)) l 0) (hhi:atB (hi.map (evO t)) r len)
  (hrl:∀ x,lo=some x->RepV w S μ (evO t x) (a.eval x)) (hrh:∀ x,hi=some x->RepV w S μ (evO t x) (a.eval x)) (hlr:l<=r) (hrc:r<=cap):
  (Instr.sliceBounds isS len cap (lo.map a.eval) (hi.map a.eval) none).run P w=.ok (l,r,cap) w:=by
 cases lo with
 | none=>
  simp[atB]at hlo;subst hlo
  cases hi with
  | none=>simp[atB]at hhi;subst hhi;simp[Instr.sliceBounds]
  | some x=>
   simp[atB]at hhi;obtain⟨k,hk⟩:=hhi
   have:=hrh x rfl;rw[hk]at this
   simp[Instr.sliceBounds,qU this,Instr.sliceBound,asIntOf,hrc]
 | some y=>
  simp[atB]at hlo;obtain⟨k,hk⟩:=hlo
  have hy:=hrl y rfl;rw[hk]at hy
  cases hi with
  | none=>simp[atB]at hhi;subst hhi;simp[Instr.sliceBounds,qU hy,Instr.sliceBound,asIntOf,hlr]
  | some x=>
   simp[atB]at hhi;obtain⟨k',hk'⟩:=hhi
   have:=hrh x rfl;rw[hk']at this
   simp[Instr.sliceBounds,qU this,qU hy,Instr.sliceBound,asIntOf,hrc,hlr]
theorem ok_slice {T:Nat} {x:Operand} {lo hi:Option Operand} (ho:o.op=.slice T x lo hi none) (hp:(slcO P h T (evO t x) (lo.map (evO t)) (hi.map (evO t))).has e):OpOK P t id (hget h) o e:=by
 unfold slcO at hp
 have hops:∀ y,(y=x\/lo=some y\/hi=some y)->y∈o.op.operands:=by
  intro y hy
  simp only[ho,Op.operands]
  rcases hy with rfl|rfl|rfl<;>simp
 split at hp
 ·-- a string
  rename_i s hx
  split at hp
  case h_2=>simp at hp
  rename_i hu
  obtain⟨ob,l,r,hb,hob,rfl⟩:=withB_spec hp
  obtain⟨h1,h2,h3,h4⟩:=bnds_spec hb hob
  refine OpOK.pure fun w S μ a hr hh => ?_
  have hxr:=hr x (hops x (.inl rfl));rw[hx]at hxr
  have hbr:=run_bounds (P:=P) (isS:=false) (cap:=s.size) h3 h4 (fun y hy=>hr y (hops y (.inr (.inl hy)))) (fun y hy=>hr y (hops y (.inr (.inr hy)))) h1 h2
  refine⟨.string (s.extract l r),?_,repV_mk_s _⟩
  simp only[execOp,ho,repV_s hxr,Instr.sliceAt,Instr.slice,Sem.run_bind,run_underlying hu,Result.andThen_ok,Option.map_none,Option.isSome_none,Bool.false_eq_true,if_false,hbr,Sem.run_pure]
 ·-- an immutable slice
  rename_i e' c hx
  split at hp
  case h_2=>simp at hp
  rename_i E hE
  split at hp
  case h_2=>simp at hp
  rename_i hsz
  simp at hsz
  obtain⟨ob,l,r,hb,hob,rfl⟩:=withB_spec hp
  obtain⟨h1,h2,h3,h4⟩:=bnds_spec hb hob
  refine OpOK.pure fun w S μ a hr hh => ?_
  have hxr:=hr x (hops x (.inl rfl));rw[hx]at hxr
  obtain⟨a',o',cap,cs,hcap,hS,hrr,hl,hc,hxv⟩:=repV_lst hxr
  have hbr:=run_bounds (P:=P) (isS:=true) (cap:=cap) h3 h4 (fun y hy=>hr y (hops y (.inr (.inl hy)))) (fun y hy=>hr y (hops y (.inr (.inr hy)))) h1 (Nat.le_trans h2 hcap)
  have hcl:(c.cut l (r-l)).len=r-l:=Cont.len_cut c l (r-l) (by omega)
  refine⟨.slice (if cap=l then some ⟨a',o',none⟩else some ⟨a',o'+l*e',none⟩) (r-l) (cap-l),?_,?_⟩
  ·simp only[execOp,ho,hxv,Instr.sliceAt,Instr.slice,Sem.run_bind,run_underlying (elT_spec hE),Result.andThen_ok,Option.map_none,hbr,Sem.run_pure,run_sizeOf hsz,Option.map_some,Addr.add_mid]
  ·have:RepC w S μ (.lst e' (c.cut l (r-l))) [.slice (some ⟨a',if cap=l then o' else o'+l*e',none⟩) (c.cut l (r-l)).len (cap-l)]:=by
    refine .lst _ _ _ _ _ _ (fun j=>cs (l+j)) (by rw[hcl];omega) hS (fun j hj => ?_) (fun j hj => ?_) (fun j j' hj hj' => ?_)
    ·rw[hcl]at hj;rw[Cont.get_cut c l _ j hj];exact hrr _ (by omega)
    ·rw[hcl]at hj;exact hl _ (by omega)
    ·rw[hcl]at hj
     rw[if_neg (by omega),Nat.add_assoc,<-Nat.add_assoc (l*e'),<-Nat.add_mul]
     exact hc _ _ (by omega) hj'
   rw[hcl]at this
   refine .cell _ _ _ rfl ?_
   split<;>simp_all
 ·-- an own slice
  rename_i b e' off len hx
  split at hp
  case h_2=>simp at hp
  rename_i E hE
  split at hp
  case h_2=>simp at hp
  rename_i hsz
  simp at hsz
  obtain⟨ob,l,r,hb,hob,rfl⟩:=withB_spec hp
  obtain⟨h1,h2,h3,h4⟩:=bnds_spec hb hob
  refine OpOK.pure fun w S μ a hr hh => ?_
  have hxr:=hr x (hops x (.inl rfl));rw[hx]at hxr
  obtain⟨a',z,o',cap,hmu,hcap,hz,hoo,hxv⟩:=repV_sl hxr
  have hbr:=run_bounds (P:=P) (isS:=true) (cap:=cap) h3 h4 (fun y hy=>hr y (hops y (.inr (.inl hy)))) (fun y hy=>hr y (hops y (.inr (.inr hy)))) h1 (Nat.le_trans h2 hcap)
  refine⟨.slice (if cap=l then some ⟨a',o',none⟩else some ⟨a',o'+l*e',none⟩) (r-l) (cap-l),?_,?_⟩
  ·simp only[execOp,ho,hxv,Instr.sliceAt,Instr.slice,Sem.run_bind,run_underlying (elT_spec hE),Result.andThen_ok,Option.map_none,hbr,Sem.run_pure,run_sizeOf hsz,Option.map_some,Addr.add_mid]
  ·have:RepC w S μ (.sl b e' (off+l) (r-l)) [.slice (some ⟨a',if cap=l then o' else o'+l*e',none⟩) (r-l) (cap-l)]:=by
    refine .sl _ _ _ _ _ a' z _ _ hmu (by omega) (by rw[show off+l+(cap-l)=off+cap by omega];exact hz) ?_
    by_cases hcl:cap=l
    ·rw[if_pos hcl]
     by_cases hl0:l=0
     ·subst hl0
      rcases hoo with hoo|hoo
      ·exact .inl (by simpa using hoo)
      ·exact .inr ⟨by omega,by omega⟩
     ·exact .inr ⟨by omega,by omega⟩
    ·rw[if_neg hcl]
     rcases hoo with hoo|hoo
     ·exact .inl (by rw[hoo,Nat.add_mul])
     ·omega
   refine .cell _ _ _ rfl ?_
   split<;>simp_all
 ·-- nil
  rename_i hx
  split at hp
  case h_2=>simp at hp
  rename_i E hE
  split at hp
  case h_2=>simp at hp
  rename_i sz hsz
  obtain⟨ob,l,r,hb,hob,rfl⟩:=withB_spec hp
  obtain⟨h1,h2,h3,h4⟩:=bnds_spec hb hob
  refine OpOK.pure fun w S μ a hr hh => ?_
  have hxr:=hr x (hops x (.inl rfl));rw[hx]at hxr
  have hbr:=run_bounds (P:=P) (isS:=true) (cap:=0) h3 h4 (fun y hy=>hr y (hops y (.inr (.inl hy)))) (fun y hy=>hr y (hops y (.inr (.inr hy)))) h1 h2
  have:r=0:=by omega
  subst this
  have:l=0:=by omega
  subst this
  refine⟨.slice none 0 0,?_,.cell _ _ _ rfl (.nil _)⟩
  simp only[execOp,ho,repV_nil hxr,Instr.sliceAt,Instr.slice,Sem.run_bind,run_underlying (elT_spec hE),Result.andThen_ok,Option.map_none,hbr,Sem.run_pure,run_sizeOf hsz]
  simp
 ·-- an array
  rename_i b e' hx
  split at hp
  case h_2=>simp at hp
  rename_i n E k hE hk
  split at hp
  case h_2=>simp at hp
  rename_i hck
  simp only[Bool.and_eq_true,beq_iff_eq]at hck
  obtain⟨⟨hsz,hke⟩,hnk0⟩:=hck
  obtain⟨hlc,hp⟩:=has_withC hp
  have hnk:=lenOk_le hnk0 hlc
  obtain⟨ob,l,r,hb,hob,rfl⟩:=withB_spec hp
  obtain⟨h1,h2,h3,h4⟩:=bnds_spec hb hob
  refine OpOK.pure fun w S μ a hr hh => ?_
  have hxr:=hr x (hops x (.inl rfl));rw[hx]at hxr
  obtain⟨a',z,hmu,hxv⟩:=repV_ptr hxr
  obtain⟨a2,z2,hmu2,cur,T',cs,hg,hz,hle,_⟩:=hh.blk b k hk
  have e1:=hmu.symm.trans hmu2;cases e1
  have hnz:n*e'<=z:=by rw[<-hke];exact Nat.le_trans (Nat.mul_le_mul_right _ hnk) hle
  have hbr:=run_bounds (P:=P) (isS:=false) (cap:=n) h3 h4 (fun y hy=>hr y (hops y (.inr (.inl hy)))) (fun y hy=>hr y (hops y (.inr (.inr hy)))) h1 h2
  simp only[Nat.zero_mul,Nat.add_zero]at hxv
  refine⟨.slice (some (if n=l then ⟨a',0,none⟩else ⟨a',0+l*e',none⟩)) (r-l) (n-l),?_,?_⟩
  ·simp only[execOp,ho,hxv,Instr.sliceAt,Instr.sureAddr,Sem.run_bind,run_underlying (arrT_spec hE),Result.andThen_ok,Option.map_none,hbr,Sem.run_pure,run_sizeOf hsz,Addr.add_mid]
  ·have:RepC w S μ (.sl b e' l (r-l)) [.slice (some ⟨a',if n=l then 0 else 0+l*e',none⟩) (r-l) (n-l)]:=by
    refine .sl _ _ _ _ _ a' z _ _ hmu (by omega) (by rw[show l+(n-l)=n by omega];exact hnz) ?_
    by_cases hcl:n=l
    ·rw[if_pos hcl]
     by_cases hl0:l=0
     ·subst hl0;exact .inl (by simp)
     ·exact .inr ⟨by omega,by omega⟩
    ·rw[if_neg hcl];exact .inl (by omega)
   refine .cell _ _ _ rfl ?_
   split<;>simp_all
 ·simp at hp

theorem exec_builtin {a:Act} {b:Builtin} {args:Array Operand} {argTypes:Array TypeId} (ho:o.op=.call ⟨.builtin b,args,argTypes⟩) {w:World}:
  ∃ consts,(execOp a.eval o).run P w=(builtin b argTypes o.type consts (args.map a.eval)).run P w:=
 ⟨_,by simp only[execOp,ho,resolve,Sem.run_bind,Sem.run_pure,Result.andThen_ok,invoke];rfl⟩
theorem okW_cases {v:PV} (h:okW v=true):v=.nil\/∃ xs,v=.lst 1 (.ints .i64 xs):=by
 unfold okW at h
 split at h
 ·exact .inl rfl
 ·exact .inr ⟨_,rfl⟩
 ·cases h
theorem repV_w {w:World} {S:Nat->Prop} {μ:Mu} {v:PV} {x:Value} (h:RepV w S μ (.w v) x):RepC w S qR v [x]:=by
 cases h with
 | cell _ _ _ _ h=>cases h;assumption
 | agg _ _ _ hv=>cases hv
theorem ok_len {x:Operand} {T:Nat} (ho:o.op=.call ⟨.builtin .len,#[x],#[T]⟩) (hp:(lenO P T (evO t x)).has e):OpOK P t id (hget h) o e:=by
 unfold lenO at hp
 split at hp
 case h_1=>
  rename_i v _ hx hu
  simp at hp
  obtain⟨hw,rfl⟩:=hp
  refine OpOK.pure fun w S μ a hr hh=>⟨_,?_,qC _ _⟩
  have h1:=hr x (by simp[ho,Op.operands,Call.operands]);rw[hx]at h1
  have h2:=repV_w h1
  obtain⟨consts,hex⟩:=exec_builtin (P:=P) (a:=a) (w:=w) ho
  rw[hex]
  rcases okW_cases hw with rfl|⟨xs,rfl⟩
  ·have h3:=repV_nil (.cell qR _ _ rfl h2)
   simp[builtin,Builtin.len_,h3,run_underlying hu,goInt,intsW]
  ·obtain⟨_,_,_,_,_,_,_,_,_,h3⟩:=repV_lst (.cell qR _ _ rfl h2)
   simp[builtin,Builtin.len_,h3,run_underlying hu,goInt,intsW,Cont.len]
 all_goals first|(simp at hp;done)|skip
 all_goals
  rename_i hx hu
  simp at hp;subst hp
  refine OpOK.pure fun w S μ a hr hh=>⟨_,?_,qC _ _⟩
  have h1:=hr x (by simp[ho,Op.operands,Call.operands]);rw[hx]at h1
  obtain⟨consts,hex⟩:=exec_builtin (P:=P) (a:=a) (w:=w) ho
  rw[hex]
 ·simp[builtin,Builtin.len_,repV_s h1,run_underlying hu,goInt]
 ·simp[builtin,Builtin.len_,repV_nil h1,run_underlying hu,goInt]
 ·obtain⟨_,_,_,_,_,_,_,_,_,h2⟩:=repV_lst h1
  simp[builtin,Builtin.len_,h2,run_underlying hu,goInt]
 ·obtain⟨_,_,_,_,_,_,_,_,h2⟩:=repV_sl h1
  simp[builtin,Builtin.len_,h2,run_underlying hu,goInt]
theorem ok_min {x y:Operand} {Ts:Array TypeId} (ho:o.op=.call ⟨.builtin .min,#[x,y],Ts⟩) (hp:(minO (evO t x) (evO t y)).has e):OpOK P t id (hget h) o e:=by
 unfold minO at hp
 split at hp<;>first|(simp at hp;done)|skip
 rename_i k m k' n hx hy
 simp at hp;subst hp
 refine OpOK.pure fun w S μ a hr hh=>⟨_,?_,qC _ _⟩
 have h1:=hr x (by simp[ho,Op.operands,Call.operands]);rw[hx]at h1
 have h2:=hr y (by simp[ho,Op.operands,Call.operands]);rw[hy]at h2
 obtain⟨consts,hex⟩:=exec_builtin (P:=P) (a:=a) (w:=w) ho
 rw[hex]
 simp[builtin,Builtin.min_,Builtin.min2,qU h1,qU h2]
theorem ok_max {x y:Operand} {Ts:Array TypeId} (ho:o.op=.call ⟨.builtin .max,#[x,y],Ts⟩) (hp:(maxO (evO t x) (evO t y)).has e):OpOK P t id (hget h) o e:=by
 unfold maxO at hp
 split at hp<;>first|(simp at hp;done)|skip
 rename_i k m k' n hx hy
 simp at hp;subst hp
 refine OpOK.pure fun w S μ a hr hh=>⟨_,?_,qC _ _⟩
 have h1:=hr x (by simp[ho,Op.operands,Call.operands]);rw[hx]at h1
 have h2:=hr y (by simp[ho,Op.operands,Call.operands]);rw[hy]at h2
 obtain⟨consts,hex⟩:=exec_builtin (P:=P) (a:=a) (w:=w) ho
 rw[hex]
 simp[builtin,Builtin.max_,Builtin.max2,qU h1,qU h2]

theorem foldl_push:∀ (ns:List Int) (s:ByteArray),ns.foldl (fun r n=>r.push (UInt8.ofNat n.toNat)) s=⟨(s.data.toList++ns.map fun n=>UInt8.ofNat n.toNat).toArray⟩
 | [],s=>by simp
 | n::ns,s=>by
  rw[List.foldl_cons,foldl_push ns]
  simp[ByteArray.push]
theorem run_toString {w:World} {src dst E a o len cap:Nat} {ns:List Int} (hl:ns.length=len) (hs:P.underlying src=some (.slice E)) (he:P.underlying E=some (.int .u8)) (hd:P.underlying dst=some .string)
  (hc:∀ j n,ns[j]? = some n->w.cell? ⟨a,o+j,none⟩=some (.int .u8 n)):
  (convert src dst (.slice (some ⟨a,o,none⟩) len cap)).run P w=.ok (.string ⟨(ns.map fun n=>UInt8.ofNat n.toNat).toArray⟩) w:=by
 rw[run_convert_bytes_string w src dst E _ _ _ hs he hd]
 have hlc:(loadCells ⟨a,o,none⟩ len).run P w=.ok (ns.map (Value.int .u8)).toArray w:=by
  have:=run_loadCells_list (P:=P) w ⟨a,o,none⟩ (ns.map (Value.int .u8)) (fun j v hv=>by
   rw[Addr.add_mid]
   simp only[List.getElem?_map,Option.map_eq_some_iff]at hv
   obtain⟨n,hn,rfl⟩:=hv
   exact hc j n hn)
  simpa [hl]using this
 rw[Go.run_bytesToString w _ len cap ns hlc,foldl_push]
 simp
theorem ok_convert {src dst:Nat} {x:Operand} (ho:o.op=.convert src dst x) (hp:(cvtO P h src dst (evO t x)).has e):OpOK P t id (hget h) o e:=by
 unfold cvtO at hp
 have hmem:x∈o.op.operands:=by simp[ho,Op.operands]
 split at hp
 ·simp at hp
 rename_i u hu
 split at hp
 ·rename_i k n hx
  split at hp
  case h_2=>simp at hp
  rename_i kd hkd
  simp at hp;subst hp
  refine OpOK.pure fun w S μ a hr hh=>⟨_,?_,qC _ _⟩
  have h1:=hr x hmem;rw[hx]at h1
  simp only[execOp,ho,qU h1,convert,Sem.run_bind,run_underlying hu,run_underlying (intT_spec hkd),Result.andThen_ok,Conv.intToInt,Sem.run_pure]
 ·rename_i s hx
  split at hp
  ·rename_i hd
   simp at hp;subst hp
   refine OpOK.pure fun w S μ a hr hh=>⟨_,?_,repV_mk_s _⟩
   have h1:=hr x hmem;rw[hx]at h1
   simp only[execOp,ho,repV_s h1,convert,Sem.run_bind,run_underlying hu,run_underlying hd,Result.andThen_ok,Sem.run_pure]
  ·rename_i E hd
   split at hp
   case h_2=>simp at hp
   rename_i hE
   simp only[has_p1]at hp;subst hp
   intro w S μ a K Q hr hh _ hK
   have h1:=hr x hmem;rw[hx]at h1
   have hrun:=Lib.run_convert_string_bytes (P:=P) w src dst E s hu hd (intT_spec hE)
   refine wp_val (w':=Lib.bytesWorld w E s) (v:=.slice (some ⟨w.heap.size,0,none⟩) s.size (grownCap w s.size 0 E)) (by simp only[execOp,ho,repV_s h1,Sem.run_bind,hrun,Result.andThen_ok,Sem.run_pure]) (hK _ _ _ μ
    (Post.newImm rfl rfl rfl (Lib.bytesWorld_size w E s) (fun m hm=>Lib.bytesWorld_at_old w E s m hm) ?_))
   have hlen:(s.data.toList.map fun c=>(c.toNat:Int)).length=s.size:=by simp
   have:=RepC.lst (w:=Lib.bytesWorld w E s) (S:=fun m=>S m\/m=w.heap.size) μ 1 (.ints .u8 (s.data.toList.map fun c=>(c.toNat:Int))) w.heap.size 0 (grownCap w s.size 0 E)
    (fun j=>[.int .u8 ((s.data.toList.getD j 0).toNat:Int)]) (by simp only[Cont.len,hlen];exact grownCap_ge w s.size 0 E) (.inr rfl)
    (fun j hj=>by
     simp only[Cont.len]at hj
     have:(s.data.toList.map fun c=>(c.toNat:Int)).getD j 0=((s.data.toList.getD j 0).toNat:Int):=by
      simp only[List.getD_eq_getElem?_getD,List.getElem?_map]
      rw[List.getElem?_eq_getElem (by simpa using hj)]
      rfl
     simp only[Cont.get,this];exact .i _ _ _)
    (fun j hj=>rfl) (fun j j' hj hj'=>by
     simp only[Cont.len,hlen]at hj
     have:j'=0:=by omega
     subst this
     rw[show 0+(j*1+0)=j by omega,Lib.bytesWorld_cell w E s j hj];rfl)
   simp only[Cont.len,hlen]at this
   exact .cell _ _ _ rfl this
  ·simp at hp
 ·rename_i xs hx
  split at hp
  case h_2=>simp at hp
  rename_i E hd hE
  split at hp
  case h_2=>simp at hp
  rename_i hint
  simp only[has_p1]at hp;subst hp
  refine OpOK.pure fun w S μ a hr hh=>⟨_,?_,repV_mk_s _⟩
  have h1:=hr x hmem;rw[hx]at h1
  obtain⟨a',o',cap,cs,hcap,hS,hrr,hl,hc,hxv⟩:=repV_lst h1
  have hrun:=run_toString (P:=P) (w:=w) (src:=src) (dst:=dst) (a:=a') (o:=o') (len:=xs.length) (cap:=cap) (ns:=xs) rfl (elT_spec hE) (intT_spec hint) hd (fun j n hj=>by
   have hjl:=(List.getElem?_eq_some_iff.1 hj).1
   have h2:=hrr j hjl
   have h3:=hc j 0 hjl (by omega)
   simp only[Cont.get]at h2
   rw[List.getD_eq_getElem?_getD,hj]at h2
   generalize hcs:cs j=csj at h2 h3
   cases h2
   rw[show o'+j=o'+(j*1+0) by omega,h3];rfl)
  simp only[execOp,ho,hxv,Cont.len,Sem.run_bind,hrun,Result.andThen_ok,Sem.run_pure]
 ·rename_i b off len hx
  split at hp
  case h_2=>simp at hp
  rename_i E xs hd hE hk
  split at hp
  case h_2=>simp at hp
  rename_i hint
  simp only[has_pc,Nat.ble_eq]at hp
  obtain⟨hle,rfl⟩:=hp
  refine OpOK.pure fun w S μ a hr hh=>⟨_,?_,repV_mk_s _⟩
  have h1:=hr x hmem;rw[hx]at h1
  obtain⟨a',z,o',cap,hmu,hcap,hz,hoo,hxv⟩:=repV_sl h1
  obtain⟨a2,z2,hmu2,cur,T',cs,hg,hzz,hlez,hrr,hl,hc⟩:=hh.blk b _ hk
  have e1:=hmu.symm.trans hmu2;cases e1
  have hns:((xs.drop off).take len).length=len:=by simp;omega
  have hrun:=run_toString (P:=P) (w:=w) (src:=src) (dst:=dst) (a:=a') (o:=o') (len:=len) (cap:=cap) (ns:=(xs.drop off).take len) hns (elT_spec hE) (intT_spec hint) hd (fun j n hj=>by
   have hjl:=(List.getElem?_eq_some_iff.1 hj).1
   rw[hns]at hjl
   rw[List.getElem?_take,if_pos hjl,List.getElem?_drop]at hj
   have hlt:off+j<xs.length:=(List.getElem?_eq_some_iff.1 hj).1
   have h2:=hrr (off+j) hlt
   have h3:=hc (off+j) 0 hlt (by simp)
   simp only[Cont.get]at h2
   rw[List.getD_eq_getElem?_getD,hj]at h2
   generalize hcs:cs (off+j)=csj at h2 h3
   cases h2
   have ho':o'=off*1:=by
    rcases hoo with h|⟨h,_⟩
    ·exact h
    ·omega
   rw[cell_of_row w a' _ cur T' _ hg,show o'+j=(off+j)*1+0 by omega]
   simpa using h3)
  simp only[execOp,ho,hxv,Sem.run_bind,hrun,Result.andThen_ok,Sem.run_pure]
 ·rename_i hx
  split at hp
  case h_2=>simp at hp
  rename_i E hd hE
  split at hp
  case h_2=>simp at hp
  rename_i hint
  simp only[has_p1]at hp;subst hp
  refine OpOK.pure fun w S μ a hr hh=>⟨_,?_,repV_mk_s _⟩
  have h1:=hr x hmem;rw[hx]at h1
  simp only[execOp,ho,repV_nil h1,Sem.run_bind,run_convert_bytes_string w src dst E _ _ _ (elT_spec hE) (intT_spec hint) hd,Conv.bytesToString,Sem.run_pure,Result.andThen_ok]
  rfl
 ·simp at hp
end
end
section
open Go
def bval (s:Nat) (l:List UInt8):Nat:=l.foldl (fun s b=>s*256+b.toNat) s
theorem bval_append (s:Nat) (l r:List UInt8):bval s (l++r)=bval (bval s l) r:=by simp[bval]
theorem natBytesL_spec:∀ (d n:Nat) (acc:List UInt8),n<=d->∃ l,qa d n acc=l++acc/\bval 0 l=n
 | 0,n,acc,h=>⟨[],rfl,by simp[bval];omega⟩
 | d+1,n,acc,h=>by
  simp only[qa]
  split
  ·rename_i h0;exact⟨[],rfl,by simp[bval,h0]⟩
  ·rename_i h0
   obtain⟨l,h1,h2⟩:=natBytesL_spec d (n/256) (UInt8.ofNat (n%256)::acc) (by omega)
   refine⟨l++[UInt8.ofNat (n%256)],by rw[h1];simp,?_⟩
   rw[bval_append,h2]
   simp only[bval,List.foldl_cons,List.foldl_nil,UInt8.toNat_ofNat']
   omega
theorem nb_val (n:Nat):bval 0 (nb n).data.toList=n:=by
 obtain⟨l,h1,h2⟩:=natBytesL_spec n n [] (Nat.le_refl _)
 simp only[nb,h1]
 simpa using h2
theorem nb_inj {n m:Nat} (h:nb n=nb m):n=m:=by rw[<-nb_val n,h,nb_val]
theorem ba_beq (a b:ByteArray):(a==b)=decide (a=b):=by
 rw[beq_toListBytes,ByteArray.toList_eq,ByteArray.toList_eq]
 by_cases h:a=b
 ·subst h;simp
 ·have:a.data.toList≠b.data.toList:=fun he=>h (by
   obtain⟨⟨x⟩⟩:=a;obtain⟨⟨y⟩⟩:=b;simp at he;subst he;rfl)
  rw[beq_false_of_ne this];simp[h]
theorem rat_fields (a c:Rat):(qo a==qo c&&(qt a==qt c&&qu a==qu c))=decide (a=c):=by
 by_cases h:a=c
 ·subst h;simp[ba_beq]
 ·simp only[h,decide_false]
  cases h1:(qo a==qo c)
  ·rfl
  cases h2:(qt a==qt c)
  ·rfl
  cases h3:(qu a==qu c)
  ·rfl
  exfalso
  apply h
  simp only[ba_beq,beq_iff_eq,decide_eq_true_eq]at h1 h2 h3
  have e2:=nb_inj h2
  have e3:=nb_inj h3
  simp only[qo,decide_eq_decide]at h1
  refine Rat.ext ?_ e3
  omega

section
variable {P:Program} {w:World} {S:Nat->Prop} {μ:Mu}
theorem repV_q {x:Rat} {n:Nat} {v:Value} (h:RepV w S μ (.q x n) v):v=.agg #[.bool (qo x),.string (qt x),.string (qu x)]:=by
 cases h with
 | cell _ _ _ hv=>cases hv
 | agg _ _ _ _ h=>cases h;rfl
theorem eqFs_run {d:Nat} {g:Nat->PV->PV->Option Bool}
  (hg:∀ (T:Nat) (x y:PV) (r:Bool),g T x y=some r->∀ vx vy,RepV w S μ x vx->RepV w S μ y vy->(Op.equalIn d T vx vy).run P w=.ok r w):
  ∀ (fs:List Field) (o:Nat) (xs ys:List PV) (r:Bool) (c1 c2 d1 d2:List Value),eqFs P g o fs xs ys=some r->RepL w S μ xs c2->RepL w S μ ys d2->c1.length=o->d1.length=o->
   (Op.eqFields d (c1++c2).toArray (d1++d2).toArray fs).run P w=.ok r w
 | [],o,xs,ys,r,c1,c2,d1,d2,h,hx,hy,h1,h2=>by
  cases xs<;>cases ys<;>simp[eqFs]at h
  subst h;simp[Op.eqFields]
 | f::fs,o,xs,ys,r,c1,c2,d1,d2,h,hx,hy,h1,h2=>by
  cases xs with
  | nil=>simp[eqFs]at h
  | cons x xs=>
   cases ys with
   | nil=>simp[eqFs]at h
   | cons y ys=>
    simp only[eqFs]at h
    split at h
    case h_2=>cases h
    rename_i n hck hn
    simp only[Bool.and_eq_true,beq_iff_eq,bne_iff_ne,ne_eq]at hck
    obtain⟨⟨⟨hoff,hfx⟩,hfy⟩,hname⟩:=hck
    split at h
    case h_2=>cases h
    rename_i a c ha hc
    simp at h;subst h
    cases hx with
    | cons _ _ _ x1 x2 hx1 hx2=>
     cases hy with
     | cons _ _ _ y1 y2 hy1 hy2=>
      obtain⟨vx,hvx,hrx⟩:=run_part (c1:=c1) (c3:=x2) hfx hx1
      obtain⟨vy,hvy,hry⟩:=run_part (c1:=d1) (c3:=y2) hfy hy1
      obtain⟨m1,hm1,hs1,_⟩:=fitsT_len hfx
      obtain⟨m2,hm2,hs2,_⟩:=fitsT_len hfy
      rw[hs1]at hs2;cases hs2
      rw[hn]at hm1;cases hm1
      rw[h1,<-hoff,List.append_assoc]at hvx
      rw[h2,<-hoff,List.append_assoc]at hvy
      have hrest:=eqFs_run hg fs (o+n) xs ys c (c1++x1) x2 (d1++y1) y2 hc hx2 hy2 (by rw[List.length_append,h1,ncv_len hn hx1]) (by rw[List.length_append,h2,ncv_len hm2 hy1])
      rw[List.append_assoc,List.append_assoc]at hrest
      simp only[Op.eqFields]
      rw[if_pos hname]
      simp only[Sem.run_bind,hvx,hvy,Result.andThen_ok,hg _ _ _ _ ha _ _ hrx hry]
      cases a
      ·simp
      ·simpa using hrest
theorem eqT_run:∀ (n T:Nat) (x y:PV) (r:Bool),eqT P n T x y=some r->∀ (d:Nat) (vx vy:Value),n<=d->RepV w S μ x vx->RepV w S μ y vy->(Op.equalIn d T vx vy).run P w=.ok r w
 | 0,_,_,_,_,h,_,_,_,_,_,_=>by simp[eqT]at h
 | n+1,T,x,y,r,h,d,vx,vy,hd,hx,hy=>by
  obtain⟨d,rfl⟩:∃ k,d=k+1:=⟨d-1,by omega⟩
  simp only[eqT]at h
  split at h
  ·rename_i hu
   split at h
   case h_2=>cases h
   rename_i a c ha hc
   simp at h;subst h
   rw[repV_bof ha hx,repV_bof hc hy,run_equalIn_bool w d T a c hu]
  ·rename_i hu
   split at h
   case h_2=>cases h
   split at h
   case h_2=>cases h
   rename_i hk
   simp at hk;subst hk
   simp at h;subst h
   rw[qU hx,qU hy,run_equalIn_int w d T _ _ _ _ hu]
   congr 1
  ·rename_i hu
   split at h
   case h_2=>cases h
   simp at h;subst h
   rw[repV_s hx,repV_s hy,run_equalIn_string w d T _ _ hu,<-beq_toListBytes,ba_beq]
  ·rename_i E hu
   split at h
   ·simp at h;subst h;rw[repV_nil hx,repV_nil hy];simp[Op.equalIn,run_underlying hu]
   ·simp at h;subst h
    obtain⟨_,_,_,_,_,_,_,_,_,h2⟩:=repV_lst hy
    rw[repV_nil hx,h2];simp[Op.equalIn,run_underlying hu]
   ·simp at h;subst h
    obtain⟨_,_,_,_,_,_,_,_,h2⟩:=repV_sl hy
    rw[repV_nil hx,h2];simp[Op.equalIn,run_underlying hu]
   ·simp at h;subst h
    obtain⟨_,_,_,_,_,_,_,_,_,h2⟩:=repV_lst hx
    rw[repV_nil hy,h2];simp[Op.equalIn,run_underlying hu]
   ·simp at h;subst h
    obtain⟨_,_,_,_,_,_,_,_,h2⟩:=repV_sl hx
    rw[repV_nil hy,h2];simp[Op.equalIn,run_underlying hu]
   ·cases h
  ·rename_i fs hu
   split at h
   ·cases h
   rename_i hst
   have hfs:P.fieldsOf T=fs:=by simp[Program.fieldsOf,hu]
   split at h
   ·rename_i a _ c _
    split at h
    case h_2=>cases h
    rename_i hrat
    simp only[Bool.and_eq_true,Nat.ble_eq]at hrat
    obtain⟨hrat,hn1⟩:=hrat
    obtain⟨d,rfl⟩:∃ k,d=k+1:=⟨d-1,by omega⟩
    simp at h;subst h
    rw[repV_q hx,repV_q hy,run_equalIn_struct w _ T _ _ (by rw[hfs];exact hu) hst,hfs]
    unfold isRat at hrat
    split at hrat
    case h_2=>cases hrat
    rename_i f g k hfl
    rw[hfl]
    simp only[Bool.and_eq_true,beq_iff_eq,bne_iff_ne,ne_eq]at hrat
    obtain⟨⟨⟨⟨⟨⟨h1,h2⟩,h3⟩,n1⟩,n2⟩,n3⟩,hT⟩:=hrat
    split at hT
    case h_2=>cases hT
    rename_i u1 u2 u3
    have p1:∀ (v1 v2 v3:Value),(part f.type #[v1,v2,v3] f.offset).run P w=.ok v1 w:=fun v1 v2 v3=>by
     simp[part,run_isAgg (P:=P) (b:=false) (T:=f.type) (by simp[aggT,u1]),h1]
    have p2:∀ (v1 v2 v3:Value),(part g.type #[v1,v2,v3] g.offset).run P w=.ok v2 w:=fun v1 v2 v3=>by
     simp[part,run_isAgg (P:=P) (b:=false) (T:=g.type) (by simp[aggT,u2]),h2]
    have p3:∀ (v1 v2 v3:Value),(part k.type #[v1,v2,v3] k.offset).run P w=.ok v3 w:=fun v1 v2 v3=>by
     simp[part,run_isAgg (P:=P) (b:=false) (T:=k.type) (by simp[aggT,u3]),h3]
    have e1:=run_equalIn_bool w d f.type (qo a) (qo c) u1
    have e2:=run_equalIn_string w d g.type (qt a) (qt c) u2
    have e3:=run_equalIn_string w d k.type (qu a) (qu c) u3
    rw[<-beq_toListBytes]at e2 e3
    have hf:=rat_fields a c
    rw[<-hf]
    generalize (qo a==qo c)=b1 at*
    generalize (qt a==qt c)=b2 at*
    generalize (qu a==qu c)=b3 at*
    cases b1<;>cases b2<;>cases b3<;>simp[Op.eqFields,n1,n2,n3,p1,p2,p3,e1,e2,e3]
   ·rename_i xs ys
    obtain⟨cx,rfl,hcx⟩:=repV_agg hx rfl
    obtain⟨cy,rfl,hcy⟩:=repV_agg hy rfl
    cases hcx with
    | agg _ _ _ hcx=>
     cases hcy with
     | agg _ _ _ hcy=>
      rw[run_equalIn_struct w _ T _ _ (by rw[hfs];exact hu) hst,hfs]
      exact eqFs_run (fun T x y r h vx vy hx hy=>eqT_run n T x y r h d vx vy (by omega) hx hy) fs.toList 0 xs ys r [] cx [] cy h hcx hcy rfl rfl
   ·cases h
  ·cases h
end
end
section
open Go
section
variable {P:Program} {t:List PV} {id:Nat} {h:qT} {o:Oper} {e:Eff}
theorem binI_run {w:World} {S:Nat->Prop} {μ:Mu} {op:BinOp} {k:IntKind} {a c:Int} {T:Nat} (hp:(binI op k a c).has e) (h1:op ≠ .eql) (h2:op ≠ .neq) (h3:op ≠ .shl) (h4:op ≠ .shr):
  ∃ pv v,e=(pv,[],[])/\(binOp op T (.int k a) (.int k c)).run P w=.ok v w/\RepV w S μ pv v:=by
 unfold binI at hp
 split at hp
 ·exact⟨_,_,arA_has hp,by simp[binOp,Op.intArith],qC _ _⟩
 ·exact⟨_,_,arS_has hp,by simp[binOp,Op.intArith],qC _ _⟩
 ·exact⟨_,_,arA_has hp,by simp[binOp,Op.intArith],qC _ _⟩
 ·obtain⟨h0,hp⟩:=has_withC hp
  simp[holds]at h0
  exact⟨_,_,arS_has hp,by simp[binOp,Op.intDiv,h0],qC _ _⟩
 ·simp at hp;exact⟨_,_,hp.2,by simp[binOp,Op.intDiv,hp.1],qC _ _⟩
 ·simp at hp;exact⟨_,_,hp,by simp[binOp,Op.intCmp],repV_mk_b _⟩
 ·simp at hp;exact⟨_,_,hp,by simp[binOp,Op.intCmp],repV_mk_b _⟩
 ·simp at hp;exact⟨_,_,hp,by simp[binOp,Op.intCmp],repV_mk_b _⟩
 ·simp at hp;exact⟨_,_,hp,by simp[binOp,Op.intCmp],repV_mk_b _⟩
 ·split at hp
  ·rename_i n hn
   simp at hp
   unfold ibits at hn
   split at hn
   ·simp at hn;subst hn;exact⟨_,_,hp,by simp[binOp,Op.intBits],qC _ _⟩
   ·simp at hn;subst hn;exact⟨_,_,hp,by simp[binOp,Op.intBits],qC _ _⟩
   ·simp at hn;subst hn;exact⟨_,_,hp,by simp[binOp,Op.intBits],qC _ _⟩
   ·cases hn
  ·simp at hp
theorem run_eqGuard_ne {w:World} {op:BinOp} {T:Nat} {x y:Operand} {u v:Value} (h1:op ≠ .eql) (h2:op ≠ .neq):(eqGuard op T x y u v).run P w=.ok () w:=by
 cases op<;>first|exact absurd rfl h1|exact absurd rfl h2|simp[eqGuard]
theorem run_eqGuard_eq {w:World} {S:Nat->Prop} {μ:Mu} {op:BinOp} {T:Nat} {x y:Operand} {u v:Value} {pv:PV} (hg:eqG P T pv=true) (hr:RepV w S μ pv u) (hne:pv ≠ .any) (hnt:∀ vs,pv ≠ .tup vs) (hnw:∀ v,pv ≠ .w v):(eqGuard op T x y u v).run P w=.ok () w:=by
 by_cases ha:isAgg pv=true
 ·obtain⟨cs,rfl,_⟩:=repV_agg hr ha
  have hq:P.eqGuardType P.depth T=false:=by
   cases pv<;>simp[isAgg]at ha<;>simpa [eqG]using hg
  cases v with
  | agg ys=>exact run_eqGuard_agg w op T x y _ _ hq
  | _=>cases op<;>simp[eqGuard]
 ·have hu:∀ cs,u ≠ .agg cs:=by
   intro cs hcs
   subst hcs
   cases hr with
   | cell _ _ _ _ h=>have:=repC_one h (.agg cs) (by simp);simp[Value.oneCell']at this
   | agg _ _ _ hv=>exact ha hv
   | any=>exact hne rfl
  have hn:u ≠ .nilIface:=by
   intro hcs
   subst hcs
   cases hr with
   | cell _ _ _ _ h=>cases h<;>first|exact ha rfl|exact hnw _ rfl|(simp[eqG]at hg;done)
   | any=>exact hne rfl
  cases u with
  | agg cs=>exact absurd rfl (hu cs)
  | nilIface=>exact absurd rfl hn
  | _=>cases op<;>simp[eqGuard]
theorem eqT_shape {n T:Nat} {x y:PV} {r:Bool} (h:eqT P n T x y=some r):x ≠ .any/\(∀ vs,x ≠ .tup vs)/\∀ v,x ≠ .w v:=by
 cases n with
 | zero=>simp[eqT]at h
 | succ n=>
  unfold eqT at h
  constructor
  ·rintro rfl
   repeat' split at h
   all_goals simp_all [bof]
  constructor
  ·rintro vs rfl
   repeat' split at h
   all_goals simp_all [bof]
  ·rintro vs rfl
   repeat' split at h
   all_goals simp_all [bof]
theorem run_underlying_none {T:Nat} {w:World} (h:P.underlying T=none):(underlying T).run P w=.halt (.stuck "no such type") w:=by
 simp[underlying,h]
theorem run_binOp_eql {w:World} {T:Nat} {u v:Value} {r:Bool} (hf:∀ k b,u ≠ .float k b) (hc:∀ k b c,u ≠ .complex k b c) (h:(Op.equalIn Op.maxDepth T u v).run P w=.ok r w):
  (binOp .eql T u v).run P w=.ok (.bool r) w/\(binOp .neq T u v).run P w=.ok (.bool (!r)) w:=by
 have hE:(Op.equal T u v).run P w=.ok r w:=h
 obtain⟨d0,hd0⟩:∃ d,Op.maxDepth=d+1:=⟨9999,rfl⟩
 rw[hd0]at h
 clear hd0
 have other:(∀ k a k' b,¬ (u=.int k a/\v=.int k' b))->(∀ a b,¬ (u=.string a/\v=.string b))->
   (binOp .eql T u v).run P w=.ok (.bool r) w/\(binOp .neq T u v).run P w=.ok (.bool (!r)) w:=by
  intro h1 h2
  cases u<;>cases v<;>first
   | exact absurd ⟨rfl,rfl⟩ (h1 _ _ _ _)
   | exact absurd ⟨rfl,rfl⟩ (h2 _ _)
   | exact absurd rfl (hf _ _)
   | exact absurd rfl (hc _ _ _)
   | (constructor<;>simp[binOp,hE])
 cases hu:P.underlying T with
 | none=>
  simp only[Op.equalIn,Sem.run_bind,run_underlying_none hu,Result.andThen]at h
  cases h
 | some d=>
  by_cases hi:∃ k a k' b,u=.int k a/\v=.int k' b
  ·obtain⟨k,a,k',b,rfl,rfl⟩:=hi
   have h2:=h
   simp only[Op.equalIn,Sem.run_bind,run_underlying hu,Result.andThen_ok]at h2
   cases d<;>simp at h2
   rename_i kk
   obtain⟨hk,hr⟩:k=k'/\(a==b)=r:=by
    by_cases hk:k=k'
    ·simp[hk]at h2;exact⟨hk,by simpa using h2⟩
    ·simp[hk]at h2
   subst hk;subst hr
   constructor<;>simp[binOp,Op.intCmp,bne]
  ·by_cases hs:∃ a b,u=.string a/\v=.string b
   ·obtain⟨a,b,rfl,rfl⟩:=hs
    have h2:=h
    simp only[Op.equalIn,Sem.run_bind,run_underlying hu,Result.andThen_ok]at h2
    cases d<;>simp at h2
    subst h2
    constructor<;>simp[binOp,Op.stringOp,beq_toListBytes]
   ·exact other (fun k a k' b hh=>hi ⟨k,a,k',b,hh.1,hh.2⟩) (fun a b hh=>hs ⟨a,b,hh.1,hh.2⟩)
theorem repV_noFloat {w:World} {S:Nat->Prop} {μ:Mu} {pv:PV} {u:Value} (hr:RepV w S μ pv u) (hne:pv ≠ .any) (hnw:∀ v,pv ≠ .w v):(∀ k b,u ≠ .float k b)/\(∀ k b c,u ≠ .complex k b c):=by
 constructor
 ·rintro k b rfl
  cases hr with
  | cell _ _ _ hv h=>cases h<;>first|exact hnw _ rfl|cases hv
  | any=>exact hne rfl
 ·rintro k b c rfl
  cases hr with
  | cell _ _ _ hv h=>cases h<;>first|exact hnw _ rfl|cases hv
  | any=>exact hne rfl
theorem ok_binOp {op:BinOp} {T T':Nat} {x y:Operand} (ho:o.op=.binOp op T x y T') (hp:(binO P op T (evO t x) (evO t y)).has e):OpOK P t id (hget h) o e:=by
 unfold binO at hp
 split at hp
 ·split at hp
  case h_2=>simp at hp
  rename_i r hr0 hg
  simp at hp;subst hp
  refine OpOK.pure fun w S μ a hr hh=>⟨.bool r,?_,repV_mk_b _⟩
  have h1:=hr x (by simp[ho,Op.operands])
  have h2:=hr y (by simp[ho,Op.operands])
  have hs:=eqT_shape hr0
  have he:=eqT_run 6 T _ _ r hr0 Op.maxDepth _ _ (by simp[Op.maxDepth]) h1 h2
  simp only[execOp,ho,Sem.run_bind,run_eqGuard_eq hg h1 hs.1 hs.2.1 hs.2.2,Result.andThen_ok,(run_binOp_eql (repV_noFloat h1 hs.1 hs.2.2).1 (repV_noFloat h1 hs.1 hs.2.2).2 he).1,Sem.run_pure]
 ·split at hp
  case h_2=>simp at hp
  rename_i r hr0 hg
  simp at hp;subst hp
  refine OpOK.pure fun w S μ a hr hh=>⟨.bool (!r),?_,repV_mk_b _⟩
  have h1:=hr x (by simp[ho,Op.operands])
  have h2:=hr y (by simp[ho,Op.operands])
  have hs:=eqT_shape hr0
  have he:=eqT_run 6 T _ _ r hr0 Op.maxDepth _ _ (by simp[Op.maxDepth]) h1 h2
  simp only[execOp,ho,Sem.run_bind,run_eqGuard_eq hg h1 hs.1 hs.2.1 hs.2.2,Result.andThen_ok,(run_binOp_eql (repV_noFloat h1 hs.1 hs.2.2).1 (repV_noFloat h1 hs.1 hs.2.2).2 he).2,Sem.run_pure]
 ·split at hp
  case h_2=>simp at hp
  rename_i k m k' n hx hy
  simp at hp;obtain⟨h0,rfl⟩:=hp
  refine OpOK.pure fun w S μ a hr hh=>⟨_,?_,qC _ _⟩
  have h1:=hr x (by simp[ho,Op.operands]);rw[hx]at h1
  have h2:=hr y (by simp[ho,Op.operands]);rw[hy]at h2
  have h0':¬ n<0:=by omega
  simp[execOp,ho,run_eqGuard_ne,qU h1,qU h2,binOp,Op.shift,h0']
 ·split at hp
  case h_2=>simp at hp
  rename_i k m k' n hx hy
  simp at hp;obtain⟨h0,rfl⟩:=hp
  refine OpOK.pure fun w S μ a hr hh=>⟨_,?_,qC _ _⟩
  have h1:=hr x (by simp[ho,Op.operands]);rw[hx]at h1
  have h2:=hr y (by simp[ho,Op.operands]);rw[hy]at h2
  have h0':¬ n<0:=by omega
  simp[execOp,ho,run_eqGuard_ne,qU h1,qU h2,binOp,Op.shift,h0']
 ·rename_i n1 n2 n3 n4
  split at hp
  ·rename_i k m k' n hx hy
   split at hp
   case h_2=>simp at hp
   rename_i hk
   simp at hk;subst hk
   refine fun w S μ a K Q hr hh hn hK => ?_
   obtain⟨pv,v,rfl,hrun,hrep⟩:=binI_run (P:=P) (w:=w) (S:=S) (μ:=μ) (T:=T) hp n1 n2 n3 n4
   have h1:=hr x (by simp[ho,Op.operands]);rw[hx]at h1
   have h2:=hr y (by simp[ho,Op.operands]);rw[hy]at h2
   refine wp_val (v:=v) ?_ (hK v w S μ (Post.same hrep))
   simp only[execOp,ho,Sem.run_bind,run_eqGuard_ne n1 n2,Result.andThen_ok,qU h1,qU h2,hrun,Sem.run_pure]
  ·rename_i s1 s2 hx hy
   split at hp
   case h_2=>simp at hp
   simp at hp;obtain⟨h0,rfl⟩:=hp
   refine OpOK.pure fun w S μ a hr hh=>⟨_,?_,repV_mk_s _⟩
   have h1:=hr x (by simp[ho,Op.operands]);rw[hx]at h1
   have h2:=hr y (by simp[ho,Op.operands]);rw[hy]at h2
   have hsz:¬ ((s1.size+s2.size:Nat):Int)>IntKind.i64.max:=by
    have:IntKind.i64.max=9223372036854775807:=by decide
    rw[this];omega
   simp only[execOp,ho,Sem.run_bind,run_eqGuard_ne n1 n2,Result.andThen_ok,repV_s h1,repV_s h2,binOp,Op.stringOp,if_neg hsz,Sem.run_pure]
  ·simp at hp
theorem ok_wrpO {op:BinOp} {T T':Nat} {x y:Operand} (ho:o.op=.binOp op T x y T') (hp:(wrpO op (evO t x) (evO t y)).has e):OpOK P t id (hget h) o e:=by
 unfold wrpO at hp
 split at hp
 case h_2=>simp at hp
 split at hp
 case h_2=>simp at hp
 rename_i k a k' c hx hy
 split at hp
 case h_2=>simp at hp
 rename_i hk
 simp at hk;subst hk
 simp at hp;subst hp
 refine OpOK.pure fun w S μ a hr hh=>⟨_,?_,qC _ _⟩
 have h1:=hr x (by simp[ho,Op.operands]);rw[hx]at h1
 have h2:=hr y (by simp[ho,Op.operands]);rw[hy]at h2
 simp[execOp,ho,run_eqGuard_ne,qU h1,qU h2,binOp,Op.intArith]
end
end
section
open Go
section
variable {P:Program} {t:List PV} {id:Nat} {h:qT} {o:Oper} {e:Eff}
theorem rowMu_cut (μ:Mu) (c:Cont) (lo n:Nat):qD μ (c.cut lo n)=qD μ c:=by cases c<;>rfl
theorem app_rep {w:World} {S:Nat->Prop} {μ:Mu} {c d c':Cont} {cs ds:Nat->List Value} (h:c.app d=some c') (hc:∀ i,i<c.len->RepC w S (qD μ c) (c.get i) (cs i))
  (hd:∀ i,i<d.len->RepC w S (qD μ d) (d.get i) (ds i)):c'.len=c.len+d.len/\∀ i,i<c.len+d.len->RepC w S (qD μ c') (c'.get i) (if i<c.len then cs i else ds (i-c.len)):=by
 have getApp:∀ {α:Type} (xs ys:List α) (z:α) (i:Nat),(xs++ys).getD i z=if i<xs.length then xs.getD i z else ys.getD (i-xs.length) z:=by
  intro α xs ys z i
  simp only[List.getD_eq_getElem?_getD,List.getElem?_append]
  split<;>rfl
 unfold Cont.app at h
 split at h
 ·rename_i k1 xs k2 ys
  split at h
  case h_2=>cases h
  rename_i hk
  simp at hk;subst hk
  simp at h;subst h
  refine⟨by simp[Cont.len],fun i hi => ?_⟩
  simp only[Cont.len,Cont.get,qD]at*
  rw[getApp]
  by_cases hlt:i<xs.length
  ·simp only[hlt,↓reduceIte];exact hc i hlt
  ·simp only[hlt,↓reduceIte];exact hd _ (by omega)
 ·rename_i n xs m ys
  simp at h;subst h
  refine⟨by simp[Cont.len],fun i hi => ?_⟩
  simp only[Cont.len,Cont.get,qD]at*
  rw[getApp]
  by_cases hlt:i<xs.length
  ·simp only[hlt,↓reduceIte];exact(hc i hlt).weaken (Nat.le_max_left _ _)
  ·simp only[hlt,↓reduceIte];exact(hd _ (by omega)).weaken (Nat.le_max_right _ _)
 ·rename_i xs ys
  simp at h;subst h
  refine⟨by simp[Cont.len],fun i hi => ?_⟩
  simp only[Cont.len,Cont.get,qD]at*
  rw[getApp]
  by_cases hlt:i<xs.length
  ·simp only[hlt,↓reduceIte];exact hc i hlt
  ·simp only[hlt,↓reduceIte];exact hd _ (by omega)
 ·rename_i k ys
  simp at h;subst h
  refine⟨by simp[Cont.len],fun i hi => ?_⟩
  simp only[Cont.len,List.length_nil,Nat.zero_add]at hi
  simpa [Cont.len]using hd i hi
 ·rename_i n ys
  simp at h;subst h
  refine⟨by simp[Cont.len],fun i hi => ?_⟩
  simp only[Cont.len,List.length_nil,Nat.zero_add]at hi
  simpa [Cont.len]using hd i hi
 ·rename_i k xs
  simp at h;subst h
  refine⟨by simp[Cont.len],fun i hi => ?_⟩
  simp only[Cont.len,List.length_nil,Nat.add_zero]at hi
  rw[if_pos (by simpa [Cont.len]using hi)]
  exact hc i hi
 ·rename_i n xs
  simp at h;subst h
  refine⟨by simp[Cont.len],fun i hi => ?_⟩
  simp only[Cont.len,List.length_nil,Nat.add_zero]at hi
  rw[if_pos (by simpa [Cont.len]using hi)]
  exact hc i hi
 ·split at h
  case h_2=>cases h
  rename_i hno
  simp at hno
  simp at h;subst h
  refine⟨rfl,fun i hi => ?_⟩
  simp only[Cont.both,Cont.get,qD]
  by_cases hlt:i<c.len
  ·have:Nat.blt i c.len=true:=by simpa using hlt
   rw[this,if_pos hlt]
   exact noRefs_rep hno.1 hlt (hc i hlt)
  ·have:Nat.blt i c.len=false:=by rw[<-Bool.not_eq_true,Nat.blt_eq];exact hlt
   rw[this,if_neg hlt]
   exact noRefs_rep hno.2 (by omega) (hd _ (by omega))
theorem appC_spec {w:World} {S:Nat->Prop} {μ:Mu} {e:Nat} {pv:PV} {v:Value} {yc:Cont} (hy:appC h e pv=some yc) (hyt:holds (appT h pv)) (hr:RepV w S μ pv v) (hh:HRel w S μ (hget h)):
  ∃ (ao:Option Addr) (cap:Nat) (cs:Nat->List Value),v=.slice ao yc.len cap/\(∀ i,i<yc.len->RepC w S (qD μ yc) (yc.get i) (cs i))/\(∀ i,i<yc.len->(cs i).length=e)/\
   ((ao=none/\yc.len=0)\/∃ a' o',ao=some ⟨a',o',none⟩/\∀ i j,i<yc.len->j<e->w.cell? ⟨a',o'+(i*e+j),none⟩=(cs i)[j]?):=by
 unfold appC at hy
 split at hy
 ·simp at hy;subst hy
  exact⟨none,0,fun _=>[],repV_nil hr,fun i hi=>by simp[Cont.len]at hi,fun i hi=>by simp[Cont.len]at hi,.inl ⟨rfl,rfl⟩⟩
 ·split at hy
  case h_2=>cases hy
  rename_i he
  simp at he;subst he
  simp at hy;subst hy
  obtain⟨a',o',cap,cs,hcap,hS,hrr,hl,hc,hxv⟩:=repV_lst hr
  exact⟨_,cap,cs,hxv,fun i hi=>(hrr i hi).mono (w':=w) (S':=S) ⟨fun _ h=>h,fun _ _ _=>rfl⟩ _ (MuLe.none _),hl,.inr ⟨a',o',rfl,hc⟩⟩
 ·rename_i b e' off len
  split at hy
  case h_2=>cases hy
  rename_i k hk
  split at hy
  case h_2=>cases hy
  rename_i hck
  simp only[Bool.and_eq_true,beq_iff_eq]at hck
  obtain⟨⟨hke,he'⟩,hle0⟩:=hck
  simp only[appT,hk]at hyt
  have hle:=lenOk_le hle0 hyt
  simp at hy;subst hy
  obtain⟨a',z,o',cap,hmu,hcap,hz,hoo,hxv⟩:=repV_sl hr
  obtain⟨a2,z2,hmu2,cur,T',cs,hg,hzz,hlez,hrr,hl,hc⟩:=hh.blk b _ hk
  have e1:=hmu.symm.trans hmu2;cases e1
  have hcl:=Cont.len_cut k.c off len hle
  refine⟨_,cap,fun i=>cs (off+i),by rw[hcl];exact hxv,fun i hi => ?_,fun i hi => ?_,.inr ⟨a',o',rfl,fun i j hi hj => ?_⟩⟩
  ·rw[hcl]at hi;rw[rowMu_cut,Cont.get_cut _ _ _ _ hi];exact hrr _ (by omega)
  ·rw[hcl]at hi;rw[<-hke];exact hl _ (by omega)
  ·rw[hcl]at hi
   have ho':o'=off*e':=by
    rcases hoo with h|⟨h,_⟩
    ·exact h
    ·omega
   rw[cell_of_row w a' _ cur T' _ hg,ho',he',<-hke,<-Nat.add_assoc,<-Nat.add_mul]
   exact hc _ _ (by omega) (by omega)
 ·cases hy
def cellsN (cs:Nat->List Value) (n:Nat):List Value:=((List.range n).map cs).flatten
theorem cellsN_len {cs:Nat->List Value} {n e:Nat} (hl:∀ i,i<n->(cs i).length=e):(cellsN cs n).length=n*e:=by
 unfold cellsN
 rw[flatten_len (e:=e)]
 ·simp
 ·intro c hc;obtain⟨i,hi,rfl⟩:=List.mem_map.1 hc;exact hl i (by simpa using hi)
theorem cellsN_get {cs:Nat->List Value} {n e i j:Nat} (hl:∀ i,i<n->(cs i).length=e) (hi:i<n) (hj:j<e):(cellsN cs n)[i*e+j]? = (cs i)[j]? := by
 unfold cellsN
 rw[flatten_get (e:=e) _ i j (fun c hc=>by obtain⟨i,hi,rfl⟩:=List.mem_map.1 hc;exact hl i (by simpa using hi)) (by simpa using hi) hj]
 simp[hi]
theorem cellsN_at {w:World} {cs:Nat->List Value} {n e a o:Nat} (hl:∀ i,i<n->(cs i).length=e) (he:0<e) (hc:∀ i j,i<n->j<e->w.cell? ⟨a,o+(i*e+j),none⟩=(cs i)[j]?):
  ∀ (j:Nat) (u:Value),(cellsN cs n)[j]? = some u->w.cell? ((⟨a,o,none⟩:Addr).add j)=some u:=by
 intro j u hu
 have hlt:=(List.getElem?_eq_some_iff.1 hu).1
 rw[cellsN_len hl]at hlt
 have h1:j/e<n:=(Nat.div_lt_iff_lt_mul he).2 hlt
 have h2:j%e<e:=Nat.mod_lt _ he
 have h3:j=j/e*e+j%e:=by rw[Nat.mul_comm];exact(Nat.div_add_mod j e).symm
 rw[Addr.add_mid,h3,hc _ _ h1 h2,<-cellsN_get hl h1 h2,<-h3]
 exact hu
theorem cellsN_one {w:World} {S:Nat->Prop} {c:Cont} {μ:Mu} {cs:Nat->List Value} {n:Nat} (hr:∀ i,i<n->RepC w S μ (c.get i) (cs i)):∀ u∈cellsN cs n,u.oneCell'=true:=by
 intro u hu
 unfold cellsN at hu
 obtain⟨l,hl,hul⟩:=List.mem_flatten.1 hu
 obtain⟨i,hi,rfl⟩:=List.mem_map.1 hl
 exact repC_one (hr i (by simpa using hi)) u hul

theorem muNew_self {μ:Mu} {id a z:Nat}:muNew μ id a z id=some (a,z):=by simp[muNew]
theorem run_append_in {w:World} {t ty e:TypeId} {i:TypeInfo} (ht:P.underlying t=some (.slice e)) (hi:P.info? e=some i)
  {g sLen sCap:Nat} {cur:Array Value} {T:TypeId} (hg:w.heap[g]? = some (.cells cur T (0,0)))
  {a:Addr} {m c:Nat} {news:List Value} (hl:news.length=m*i.size) (hnews:∀ (j:Nat) (u:Value),news[j]? = some u->w.cell? (a.add j)=some u) (h1:∀ u∈news,u.oneCell'=true)
  (hroom:sLen+m<=sCap) (hfit:sLen*i.size+news.length<=cur.size):
  (Builtin.append_ #[t,t] ty #[.slice (some ⟨g,0,none⟩) sLen sCap,.slice (some a) m c]).run P w=
   .ok (.slice (some ⟨g,0,none⟩) (sLen+m) sCap) (w.setRow g (cur.toList.take (sLen*i.size)++news++cur.toList.drop (sLen*i.size+news.length)).toArray):=by
 have hf:=run_firstCells_some (P:=P) w i.size m a m c news hl hnews
 have hst:=run_storeCells_at P g (sLen*i.size) T news 0 cur w hg (by simpa using hfit) h1
 simp only[Nat.add_zero]at hst
 simp[Builtin.append_,run_underlying ht,Go.sizeOf,typeInfo,hi,Builtin.lenOf,hroom,hf,Addr.add_mid,hst]
theorem Post.ofDrew {w w':World} {S S':Nat->Prop} {μ μ':Mu} {v:Value} {e:Eff} (p:Post w.drew w' S S' μ μ' id e v):Post w w' S S' μ μ' id e v:=
 ⟨p.os,p.tape,p.output,p.size,p.old,p.subS,p.newS,p.rep,p.mu,p.wr,p.nw,p.nwInj⟩
theorem ok_append {x y:Operand} {T:Nat} (ho:o.op=.call ⟨.builtin .append,#[x,y],#[T,T]⟩) (hp:(appO P T id h (evO t x) (evO t y)).has e):OpOK P t id (hget h) o e:=by
 unfold appO at hp
 split at hp
 ·simp at hp
 rename_i E hE
 split at hp
 case h_2=>simp at hp
 rename_i sz zs bys hsz hzc hby
 split at hp
 ·simp at hp
 rename_i hck
 simp only[Bool.and_eq_true,beq_iff_eq,Nat.blt_eq,Nat.ble_eq]at hck
 obtain⟨⟨hzl,hpos⟩,hb1024⟩:=hck
 obtain⟨i,hi,his⟩:=szT_info hsz
 obtain⟨i2,hi2,hib⟩:=byT_info hby
 rw[hi]at hi2;cases hi2
 obtain⟨i3,z,hi3,hz,hzz⟩:=zcT_info hzc
 rw[hi]at hi3;cases hi3
 have hzs:z.cells.size=sz:=by rw[<-hzl,<-hzz];simp
 split at hp
 ·simp at hp
 rename_i yc hyc
 obtain⟨hyt,hp⟩:=has_withC hp
 have hxm:x∈o.op.operands:=by simp[ho,Op.operands,Call.operands]
 have hym:y∈o.op.operands:=by simp[ho,Op.operands,Call.operands]
 split at hp
 ·-- nil
  rename_i hx
  split at hp
  ·rename_i hlz
   simp only[has_p1]at hp;subst hp
   refine OpOK.pure fun w S μ a hr hh=>⟨.slice none 0 0,?_,.cell _ _ _ rfl (.nil _)⟩
   have h1:=hr x hxm;rw[hx]at h1
   obtain⟨ao,cap,cs,hyv,_,_,hao⟩:=appC_spec hyc hyt (hr y hym) hh
   have hy0:yc.len=0:=by
    unfold lenZ at hlz
    split at hlz
    ·rfl
    ·cases hlz
   obtain⟨consts,hex⟩:=exec_builtin (P:=P) (a:=a) (w:=w) ho
   rw[hex]
   have hrun:(Builtin.append_ #[T,T] o.type #[.slice none 0 0,.slice ao 0 cap]).run P w=.ok (.slice none 0 0) w:=by
    cases ao<;>simp[Builtin.append_,run_underlying (elT_spec hE),Go.sizeOf,typeInfo,hi,Builtin.lenOf,Builtin.firstCells,loadCells,loadCellsFrom]
   simp only[hy0]at hyv
   simp[builtin,repV_nil h1,hyv,hrun]
  ·simp only[has_cond,Bool.and_eq_true,Nat.blt_eq,Nat.ble_eq]at hp
   obtain⟨⟨h0,hbig⟩,rfl⟩:=hp
   intro w S μ a K Q hr hh hn hK
   have hid:μ id=none:=by simpa using hn 0 (by simp)
   have h1:=hr x hxm;rw[hx]at h1
   obtain⟨ao,cap,cs,hyv,hrr,hl,hao⟩:=appC_spec hyc hyt (hr y hym) hh
   rcases hao with ⟨_,hao⟩|⟨a',o',rfl,hc⟩
   ·omega
   obtain⟨consts,hex⟩:=exec_builtin (P:=P) (a:=a) (w:=w) ho
   have hby2:yc.len*i.bytes<=140737488355328:=by
    have:=Nat.mul_le_mul hbig (show i.bytes<=1024 by omega)
    omega
   have hrun:=run_append_nil (P:=P) w T o.type E i z (elT_spec hE) hi hz ⟨a',o',none⟩ yc.len cap (cellsN cs yc.len) (by rw[cellsN_len hl,his]) (cellsN_at hl hpos hc) h0 (by omega) (by omega)
   have hge:=grownCap_ge w yc.len 0 E
   refine wp_val (w':=w.drew.alloc (.cells ((cellsN cs yc.len).toArray++Builtin.zeroCells z.cells (grownCap w yc.len 0 E-yc.len)) E)) (v:=.slice (some ⟨w.heap.size,0,none⟩) yc.len (grownCap w yc.len 0 E)) ?_
    (hK _ _ S _ (Post.newBlk (w:=w.drew) (k:=⟨sz,yc⟩) hh.lt hid cs ?_ (fun j hj=>(hrr j hj).mono (w:=w) (w':=w.drew) (S':=S) ⟨fun _ h=>h,fun _ _ _=>rfl⟩ _ (MuLe.refl _)) hl ?_ ?_).ofDrew)
   ·rw[hex];simp[builtin,repV_nil h1,hyv,hrun]
   ·simp[cellsN_len hl]
   ·intro j j' hj hj'
    have hlt:=mul_add_lt hj hj'
    rw[Array.getElem?_append_left (by simpa [cellsN_len hl]using hlt)]
    simpa using cellsN_get hl hj hj'
   ·refine .cell _ _ _ rfl (.sl _ id sz 0 yc.len w.heap.size _ 0 _ muNew_self hge ?_ (.inl (by simp)))
    simp only[Array.size_append,List.size_toArray,cellsN_len hl,size_zeroCells,hzs,<-Nat.add_mul]
    rw[show 0+grownCap w yc.len 0 E=yc.len+(grownCap w yc.len 0 E-yc.len) by omega]
    exact Nat.le_refl _
 ·-- an own slice
  rename_i b e' len hx
  split at hp
  case h_2=>simp at hp
  rename_i k hk
  split at hp
  case h_2=>simp at hp
  rename_i hck2
  simp only[Bool.and_eq_true,beq_iff_eq]at hck2
  obtain⟨⟨hke,he'⟩,hlek0⟩:=hck2
  subst he'
  split at hp
  case h_2=>simp at hp
  rename_i c happ
  obtain⟨hlc,hp⟩:=has_withC hp
  have hlek:=lenOk_le hlek0 hlc
  simp only[has_cond,Nat.ble_eq]at hp
  obtain⟨hbig,rfl⟩:=hp
  intro w S μ a K Q hr hh hn hK
  have hid:μ id=none:=by simpa using hn 0 (by simp)
  have h1:=hr x hxm;rw[hx]at h1
  obtain⟨ao,cap,cs,hyv,hrr,hl,hao⟩:=appC_spec hyc hyt (hr y hym) hh
  obtain⟨a2,z2,o2,cap2,hmu,hcap2,hz2,ho2,hxv⟩:=repV_sl h1
  have ho20:o2=0:=by
   rcases ho2 with h|⟨_,h⟩
   ·simpa using h
   ·omega
  subst ho20
  obtain⟨a3,z3,hmu3,cur,T',ks,hg,hzz3,hlez,hkr,hkl,hkc⟩:=hh.blk b k hk
  have e1:=hmu.symm.trans hmu3;cases e1
  have hcl:=Cont.len_cut k.c 0 len (by omega)
  obtain⟨hclen,hcr⟩:=app_rep (w:=w) (S:=S) (μ:=μ) (cs:=ks) (ds:=cs) happ (fun j hj=>by
   rw[hcl]at hj;rw[rowMu_cut,Cont.get_cut _ _ _ _ hj,Nat.zero_add];exact hkr j (by omega)) hrr
  rw[hcl]at hclen hcr
  have hkl':∀ j,j<len->(ks j).length=e':=fun j hj=>by rw[<-hke];exact hkl j (by omega)
  have hold2:∀ (j:Nat) (u:Value),(cellsN ks len)[j]? = some u->w.cell? ((⟨a2,0,none⟩:Addr).add j)=some u:=
   cellsN_at hkl' hpos (fun j j' hj hj'=>by
    rw[cell_of_row w a2 _ cur T' _ hg,Nat.zero_add,<-hke]
    exact hkc j j' (by omega) (by omega))
  obtain⟨consts,hex⟩:=exec_builtin (P:=P) (a:=a) (w:=w) ho
  -- what is appended, by address
  have hnews:∃ ad:Option Addr,ao=ad/\∀ q,ad=some q->∀ (j:Nat) (u:Value),(cellsN cs yc.len)[j]? = some u->w.cell? (q.add j)=some u:=by
   refine⟨ao,rfl,fun q hq => ?_⟩
   rcases hao with ⟨h,_⟩|⟨a',o',h,hc⟩
   ·rw[h]at hq;cases hq
   ·rw[h]at hq;cases hq;exact cellsN_at hl hpos hc
  -- both lists of cells, as the new row has them
  let ms:Nat->List Value:=fun j=>if j<len then ks j else cs (j-len)
  have hml:∀ j,j<len+yc.len->(ms j).length=e':=by
   intro j hj
   simp only[ms]
   split
   ·rename_i hlt;exact hkl' j hlt
   ·rename_i hlt;exact hl _ (by omega)
  have hget:∀ (L:List Value) (j j':Nat),j<len+yc.len->j'<e'->(cellsN ks len++(cellsN cs yc.len++L))[j*e'+j']? = (ms j)[j']? := by
   intro L j j' hj hj'
   simp only[ms]
   by_cases hlt:j<len
   ·rw[if_pos hlt,List.getElem?_append_left (by rw[cellsN_len hkl'];exact mul_add_lt hlt hj')]
    exact cellsN_get hkl' hlt hj'
   ·rw[if_neg hlt]
    have e2:j*e'=len*e'+(j-len)*e':=by rw[<-Nat.add_mul];congr 1;omega
    rw[List.getElem?_append_right (by rw[cellsN_len hkl',e2];omega),cellsN_len hkl',e2,
     show len*e'+(j-len)*e'+j'-len*e'=(j-len)*e'+j' by omega,
     List.getElem?_append_left (by rw[cellsN_len hl];exact mul_add_lt (by omega) hj')]
    exact cellsN_get hl (by omega) hj'
  have hcol:(cellsN ks len).length=len*e':=cellsN_len hkl'
  have hncl:(cellsN cs yc.len).length=yc.len*e':=cellsN_len hl
  have hn63:len+yc.len<=4294967296:=hbig
  by_cases hroom:len+yc.len<=cap2
  ·-- in place
   have hfit:len*i.size+(cellsN cs yc.len).length<=cur.size:=by
    rw[hncl,his,<-Nat.add_mul]
    have:=Nat.mul_le_mul_right e' hroom
    rw[Nat.zero_add]at hz2
    omega
   have hrun:(Builtin.append_ #[T,T] o.type #[.slice (some ⟨a2,0,none⟩) len cap2,.slice ao yc.len cap]).run P w=
     .ok (.slice (some ⟨a2,0,none⟩) (len+yc.len) cap2) (w.setRow a2 (cur.toList.take (len*i.size)++cellsN cs yc.len++cur.toList.drop (len*i.size+(cellsN cs yc.len).length)).toArray):=by
    rcases hao with ⟨rfl,h0⟩|⟨a',o',rfl,hc⟩
    ·have hn0:cellsN cs yc.len=[]:=List.eq_nil_of_length_eq_zero (by rw[hncl,h0,Nat.zero_mul])
     rw[hn0,h0]
     simp only[List.append_nil,List.length_nil,Nat.add_zero,List.take_append_drop]
     rw[show(cur.toList).toArray=cur by simp,setRow_self w a2 cur T' (0,0) hg]
     have:len<=cap2:=by omega
     simp[Builtin.append_,run_underlying (elT_spec hE),Go.sizeOf,typeInfo,hi,Builtin.lenOf,Builtin.firstCells,storeCells,this]
    ·exact run_append_in (elT_spec hE) hi hg (by rw[hncl,his]) (cellsN_at hl hpos hc) (cellsN_one (c:=yc) hrr) hroom hfit
   rw[hncl,his,<-Nat.add_mul]at hrun
   rw[hncl,his,<-Nat.add_mul]at hfit
   have hle1:len*e'<=cur.size:=Nat.le_trans (Nat.mul_le_mul_right e' (show len<=len+yc.len by omega)) hfit
   have hmono:Mono w (w.setRow a2 (cur.toList.take (len*e')++cellsN cs yc.len++cur.toList.drop ((len+yc.len)*e')).toArray) S S:=
    ⟨fun _ h=>h,fun q hq oo=>cell_setRow_other w a2 _ ⟨q,oo,none⟩ (fun hqa=>hh.sep b k a2 z2 hk hmu (by have:q=a2:=hqa;subst this;exact hq))⟩
   have hmuLe:=muNew_le (μ:=μ) (a:=a2) (z:=z2) hid
   have hwr:∀ j,(cur.toList.take (len*e')++cellsN cs yc.len++cur.toList.drop ((len+yc.len)*e')).toArray[j]? = if len*e'<=j/\j<(len+yc.len)*e' then (cellsN cs yc.len)[j-len*e']? else cur[j]? := by
    intro j
    have:=getElem?_write cur (len*e') (yc.len*e') j (cellsN cs yc.len) hncl (by rw[<-Nat.add_mul];exact hfit)
    rw[<-Nat.add_mul]at this
    exact this
   refine wp_val (w':=w.setRow a2 (cur.toList.take (len*e')++cellsN cs yc.len++cur.toList.drop ((len+yc.len)*e')).toArray) (v:=.slice (some ⟨a2,0,none⟩) (len+yc.len) cap2) ?_
    (hK _ _ S (muNew μ id a2 z2) ⟨rfl,rfl,rfl,by simp,fun q hq hno => ?_,fun _ h=>h,fun _ h=>.inl h,?_,fun b' hb' => ?_,fun b' k' hm => ?_,fun j k' hj => ?_,fun j j' _ _ _ hj hj' _ _ => ?_⟩)
   ·rw[hex];simp[builtin,hxv,hyv,hrun]
   ·exact setRow_other w a2 q _ (fun hqa=>hno b none z2 (List.mem_cons_self ..) (by subst hqa;exact hmu))
   ·refine .cell _ _ _ rfl (.sl _ id e' 0 (len+yc.len) a2 z2 0 cap2 muNew_self hroom hz2 (.inl (by simp)))
   ·simp at hb';simp only[muNew];rw[if_neg (by omega)]
   ·simp at hm
   ·simp at hj
    rcases j with _|j
    ·simp at hj;subst hj
     refine⟨a2,z2,by simp[muNew],⟨_,T',ms,setRow_heap w a2 cur _ T' (0,0) hg,?_,?_,?_,?_,?_⟩,hh.sep b k a2 z2 hk hmu,.inr ⟨b,z2,by simp,hmu⟩⟩
     ·simp only[List.size_toArray,List.length_append,List.length_take,List.length_drop,Array.length_toList,hncl]
      rw[Nat.add_mul]at hfit ⊢
      omega
     ·simp only[hclen];rw[<-hzz3];exact hfit
     ·intro j hj
      simp only[hclen]at hj
      exact(hcr j hj).mono hmono _ (rowMu_le hmuLe _)
     ·intro j hj;simp only[hclen]at hj;exact hml j hj
     ·intro j j' hj hj'
      simp only[hclen]at hj
      simp only at hj'
      rw[hwr]
      simp only[ms]
      have hmul:=Nat.add_mul len yc.len e'
      by_cases hlt:j<len
      ·have h4:=mul_add_lt hlt hj'
       rw[if_neg (by omega),if_pos hlt,<-hke]
       exact hkc j j' (by omega) (by omega)
      ·have h4:=mul_add_lt (show j-len<yc.len by omega) hj'
       have e2:j*e'=len*e'+(j-len)*e':=by rw[<-Nat.add_mul];congr 1;omega
       rw[if_neg hlt,if_pos (by omega),e2,show len*e'+(j-len)*e'+j'-len*e'=(j-len)*e'+j' by omega]
       exact cellsN_get hl (by omega) hj'
    ·simp at hj
   ·simp at hj hj';omega
  ·-- a new row
   have hnb:(len+yc.len)*i.bytes<=140737488355328:=by
    have:=Nat.mul_le_mul hn63 (show i.bytes<=1024 by omega)
    omega
   have hm0:0<yc.len:=by omega
   rcases hao with ⟨_,h0⟩|⟨a',o',rfl,hc⟩
   ·omega
   have hrun:=run_append_grow (P:=P) w T o.type E i z (elT_spec hE) hi hz ⟨a2,0,none⟩ len cap2 (cellsN ks len) (by rw[hcol,his]) hold2 ⟨a',o',none⟩ yc.len cap (cellsN cs yc.len) (by rw[hncl,his]) (cellsN_at hl hpos hc)
    (by omega) (by omega) (growslice_fits (by omega) hnb)
   have hge:=grownCap_ge w (len+yc.len) cap2 E
   have hmono:Mono w w.drew S S:=⟨fun _ h=>h,fun _ _ _=>rfl⟩
   have hp:=(Post.newBlk (w:=w.drew) (S:=S) (μ:=μ) (id:=id) (k:=⟨e',c⟩) (pv:=.sl id e' 0 (len+yc.len)) (v:=.slice (some ⟨w.heap.size,0,none⟩) (len+yc.len) (grownCap w (len+yc.len) cap2 E))
    (cells:=(cellsN ks len).toArray++(cellsN cs yc.len).toArray++Builtin.zeroCells z.cells (grownCap w (len+yc.len) cap2 E-(len+yc.len))) (T:=E) hh.lt hid ms
    (by simp only[hclen,Array.size_append,List.size_toArray,hcol,hncl,Nat.add_mul];omega)
    (fun j hj=>by simp only[hclen]at hj;exact(hcr j hj).mono hmono _ (MuLe.refl _))
    (fun j hj=>by simp only[hclen]at hj;exact hml j hj)
    (fun j j' hj hj'=>by
     simp only[hclen]at hj
     have:=hget (Builtin.zeroCells z.cells (grownCap w (len+yc.len) cap2 E-(len+yc.len))).toList j j' hj hj'
     rw[<-this,<-Array.getElem?_toList]
     simp)
    (.cell _ _ _ rfl (.sl _ id e' 0 (len+yc.len) w.heap.size _ 0 _ muNew_self hge (by
     simp only[Array.size_append,List.size_toArray,hcol,hncl,size_zeroCells,hzs,<-Nat.add_mul]
     rw[show 0+grownCap w (len+yc.len) cap2 E=len+yc.len+(grownCap w (len+yc.len) cap2 E-(len+yc.len)) by omega]
     exact Nat.le_refl _) (.inl (by simp))))).ofDrew
   refine wp_val ?_ (hK _ _ S _ ⟨hp.os,hp.tape,hp.output,hp.size,fun q hq _=>hp.old q hq (fun _ _ _ h=>by cases h),hp.subS,(fun q hq=>(hp.newS q hq).imp_right fun h=>h.imp_right fun⟨_,_,h1,_⟩=>(nomatch h1)),hp.rep,hp.mu,fun b' k' hm=>(by simp at hm),fun j k' hj => ?_,hp.nwInj⟩)
   ·rw[hex];simp[builtin,hxv,hyv,hrun]
   ·obtain⟨a5,z5,q1,q2,q3,q4⟩:=hp.nw j k' hj
    refine⟨a5,z5,q1,q2,q3,?_⟩
    rcases q4 with q4|⟨_,_,q4,_⟩
    ·exact .inl q4
    ·cases q4
 ·simp at hp
end
end
section
open Go
section
variable {P:Program} {t:List PV} {id:Nat} {h:qT} {o:Oper} {e:Eff}
theorem toList_one {α:Type} {a:Array α} {x:α} (h:a.toList=[x]):a = #[x]:=by
 apply Array.ext';simpa using h
theorem toList_two {α:Type} {a:Array α} {x y:α} (h:a.toList=[x,y]):a = #[x,y]:=by
 apply Array.ext';simpa using h
theorem popV_ok {own:Bool} (hp:(popV P own t id h o.op).has e):OpOK P t id (hget h) o e:=by
 cases ho:o.op<;>rw[ho]at hp<;>simp only[popV]at hp
 case move x=>simp only[has_p1]at hp;subst hp;exact ok_move (.inl ho)
 case assign x=>simp only[has_p1]at hp;subst hp;exact ok_move (.inr ho)
 case pick c x y=>exact ok_pick ho hp
 case alloc T=>exact ok_alloc ho hp
 case box T x=>exact ok_box ho hp
 case build T ps=>exact ok_build ho hp
 case buildSlice T n ps=>exact ok_buildSlice ho hp
 case load T x=>exact ok_load ho hp
 case store T x y=>exact ok_store ho hp
 case nilCheck x=>exact ok_nilCheck ho hp
 case binOp op T x y T'=>
  cases own with
  | true=>exact ok_wrpO ho hp
  | false=>exact ok_binOp ho hp
 case unOp op T x=>exact ok_unOp ho hp
 case convert s d x=>exact ok_convert ho hp
 case makeInterface T x=>exact ok_makeInterface ho hp
 case makeFunc f first caps=>
  cases f with
  | func f=>exact ok_makeFunc ho hp
  | _=>simp at hp
 case makeSlice T x y=>exact ok_makeSlice ho hp
 case slice T x lo hi mx=>
  cases mx with
  | none=>exact ok_slice ho hp
  | some m=>simp at hp
 case fieldAddr T x f=>exact ok_fieldAddr ho hp
 case field T x f=>exact ok_field ho hp
 case indexAddr T x ix=>exact ok_indexAddr ho hp
 case index T x ix=>exact ok_index ho hp
 case extract x k=>exact ok_extract ho hp
 case call c=>
  obtain⟨cal,args,Ts⟩:=c
  cases cal with
  | builtin b=>
   simp only at hp
   split at hp
   ·rename_i x T hargs hTs
    rw[toList_one hargs,toList_one hTs]at ho
    exact ok_len ho hp
   ·rename_i x y hargs
    rw[toList_two hargs]at ho
    exact ok_min ho hp
   ·rename_i x y hargs
    rw[toList_two hargs]at ho
    exact ok_max ho hp
   ·rename_i x y T T' hargs hTs
    split at hp
    case h_2=>simp at hp
    rename_i hT
    simp at hT;subst hT
    rw[toList_two hargs,toList_two hTs]at ho
    exact ok_append ho hp
   ·simp at hp
  | _=>simp at hp
 all_goals (simp at hp)
end
end
section
open Go
section
variable {w:World} {S S2:Nat->Prop} {μ:Mu} {h:qT}
theorem mapO_L {g:PV->Option PV} {Q:PV->Prop} (hg:∀ v v' cs,Q v->g v=some v'->RepC w S μ v cs->RepC w S2 qR v' cs):
  ∀ (vs ws:List PV) (cs:List Value),(∀ v∈vs,Q v)->mapO g vs=some ws->RepL w S μ vs cs->RepL w S2 qR ws cs
 | [],ws,cs,_,h,hr=>by cases hr;simp[mapO]at h;subst h;exact .nil _
 | v::vs,ws,cs,hq,h,hr=>by
  simp only[mapO]at h
  split at h
  case h_2=>cases h
  rename_i v' hv
  split at h
  case h_2=>cases h
  rename_i us hus
  simp at h;subst h
  cases hr with
  | cons _ _ _ c1 c2 h1 h2=>exact .cons _ _ _ _ _ (hg v v' c1 (hq v (by simp)) hv h1) (mapO_L hg vs us c2 (fun u hu=>hq u (by simp[hu])) hus h2)
theorem mapO_VL {g:PV->Option PV} {Q:PV->Prop} (hg:∀ v v' x,Q v->g v=some v'->RepV w S μ v x->RepV w S2 qR v' x):
  ∀ (vs ws:List PV) (xs:List Value),(∀ v∈vs,Q v)->mapO g vs=some ws->RepVL w S μ vs xs->RepVL w S2 qR ws xs
 | [],ws,xs,_,h,hr=>by cases hr;simp[mapO]at h;subst h;exact .nil _
 | v::vs,ws,xs,hq,h,hr=>by
  simp only[mapO]at h
  split at h
  case h_2=>cases h
  rename_i v' hv
  split at h
  case h_2=>cases h
  rename_i us hus
  simp at h;subst h
  cases hr with
  | cons _ _ _ x xs h1 h2=>exact .cons _ _ _ _ _ (hg v v' x (hq v (by simp)) hv h1) (mapO_VL hg vs us xs (fun u hu=>hq u (by simp[hu])) hus h2)
theorem mapO_get {g:PV->Option PV}:∀ (vs ws:List PV),mapO g vs=some ws->ws.length=vs.length/\∀ (j:Nat) (v:PV),vs[j]? = some v->∃ v',ws[j]? = some v'/\g v=some v'
 | [],ws,h=>by simp[mapO]at h;subst h;exact⟨rfl,fun j v h=>by simp at h⟩
 | u::us,ws,h=>by
  simp only[mapO]at h
  split at h
  case h_2=>cases h
  rename_i u' hu
  split at h
  case h_2=>cases h
  rename_i zs hzs
  simp at h;subst h
  obtain⟨h1,h2⟩:=mapO_get us zs hzs
  refine⟨by simp[h1],fun j v hj => ?_⟩
  cases j with
  | zero=>simp at hj;subst hj;exact⟨u',rfl,hu⟩
  | succ j=>simp at hj;simpa using h2 j v hj
def Reach (μ:Mu) (h:qT) (S2:Nat->Prop) (l:List Nat):Prop:=∀ b∈l,∀ k a z,hget h b=some k->μ b=some (a,z)->S2 a
theorem Reach.sub {l l':List Nat} (hr:Reach μ h S2 l) (hs:∀ b∈l',b∈l):Reach μ h S2 l':=fun b hb=>hr b (hs b hb)
theorem holds_foldO {g:PV->Option Bool}:∀ {vs:List PV},holds (foldO g vs)->∀ v∈vs,holds (g v)
 | [],_,v,hv=>by cases hv
 | u::us,h,v,hv=>by
  obtain⟨h1,h2⟩:=holds_oand h
  rcases List.mem_cons.1 hv with rfl|hv
  ·exact h1
  ·exact holds_foldO h2 v hv
theorem frz_rep (hS:∀ n,S n->S2 n) (hh:HRel w S μ (hget h)):∀ (d:Nat) (v v':PV),holds (frzOk h d v)->Reach μ h S2 (deep h d v)->frz h d v=some v'->
  (∀ cs,RepC w S μ v cs->RepC w S2 qR v' cs)/\(∀ x,RepV w S μ v x->RepV w S2 qR v' x)
 | 0,_,_,_,_,hf=>by simp[frz]at hf
 | d+1,v,v',hok,hrch,hf=>by
  have hm:Mono w w S S2:=⟨hS,fun _ _ _=>rfl⟩
  have ihL:∀ (vs ws:List PV) (cs:List Value),(∀ u∈vs,holds (frzOk h d u)/\Reach μ h S2 (deep h d u))->mapO (frz h d) vs=some ws->RepL w S μ vs cs->RepL w S2 qR ws cs:=
   mapO_L (Q:=fun u=>holds (frzOk h d u)/\Reach μ h S2 (deep h d u)) (fun u u' cs hq hg hr=>(frz_rep hS hh d u u' hq.1 hq.2 hg).1 cs hr)
  have ihVL:∀ (vs ws:List PV) (xs:List Value),(∀ u∈vs,holds (frzOk h d u)/\Reach μ h S2 (deep h d u))->mapO (frz h d) vs=some ws->RepVL w S μ vs xs->RepVL w S2 qR ws xs:=
   mapO_VL (Q:=fun u=>holds (frzOk h d u)/\Reach μ h S2 (deep h d u)) (fun u u' x hq hg hr=>(frz_rep hS hh d u u' hq.1 hq.2 hg).2 x hr)
  have hmem:∀ (vs:List PV),holds (foldO (frzOk h d) vs)->Reach μ h S2 (vs.flatMap (deep h d))->∀ u∈vs,holds (frzOk h d u)/\Reach μ h S2 (deep h d u):=
   fun vs ho hr u hu=>⟨holds_foldO ho u hu,hr.sub (fun b hb=>List.mem_flatMap.2 ⟨u,hu,hb⟩)⟩
  have hC:∀ cs,RepC w S μ v cs->isAgg v'=isAgg v/\RepC w S2 qR v' cs:=by
   intro cs hr
   cases hr<;>simp only[frz]at hf<;>simp only[deep]at hrch<;>simp only[frzOk]at hok
   case b=>simp at hf;subst hf;exact⟨rfl,.b _ _⟩
   case bl=>simp at hf;subst hf;exact⟨rfl,.bl _ _⟩
   case i=>simp at hf;subst hf;exact⟨rfl,.i _ _ _⟩
   case s=>simp at hf;subst hf;exact⟨rfl,.s _ _⟩
   case q=>simp at hf;subst hf;exact⟨rfl,.q _ _ _ (by assumption)⟩
   case agg vs hr=>
    split at hf
    case h_2=>cases hf
    rename_i ws hws
    simp at hf;subst hf
    exact⟨rfl,.agg _ _ _ (ihL vs ws cs (hmem vs hok hrch) hws hr)⟩
   case nil=>simp at hf;subst hf;exact⟨rfl,.nil _⟩
   case lst e c a o cap cs' h1 h2 h3 h4 h5=>
    simp at hf;subst hf
    exact⟨rfl,(RepC.lst (w:=w) (S:=S) qR e c a o cap cs' h1 h2 h3 h4 h5).mono hm _ (MuLe.refl _)⟩
   case ref u a o cs' h1 h2 h3=>
    simp at hf;subst hf
    exact⟨rfl,(RepC.ref (w:=w) (S:=S) qR u a o cs' h1 h2 h3).mono hm _ (MuLe.refl _)⟩
   case w u x hr=>
    simp at hf;subst hf
    exact⟨rfl,(RepC.w (w:=w) (S:=S) qR u x hr).mono hm _ (MuLe.refl _)⟩
   case sl b e off len a z o cap hcap hz ho hb=>
    split at hf
    case h_2=>cases hf
    rename_i k hk
    split at hf
    case h_2=>cases hf
    rename_i hck
    simp only[Bool.and_eq_true,beq_iff_eq]at hck
    obtain⟨hke,hle0⟩:=hck
    rw[hk]at hok
    obtain⟨hok1,hok2⟩:=holds_oand hok
    have hle:=lenOk_le hle0 hok1
    split at hf
    case h_2=>cases hf
    rename_i c' hc'
    simp at hf;subst hf
    refine⟨rfl,?_⟩
    rw[hk]at hrch
    simp only at hrch
    have hSa:S2 a:=hrch b (List.mem_cons_self ..) k a z hk hb
    obtain⟨a2,z2,hmu2,cur,T',ks,hg,hzz,hlez,hkr,hkl,hkc⟩:=hh.blk b k hk
    have e1:=hb.symm.trans hmu2;cases e1
    have hcl:=Cont.len_cut k.c off len hle
    -- the frozen content
    have hfr:c'.len=len/\∀ i,i<len->RepC w S2 qR (c'.get i) (ks (off+i)):=by
     unfold frzC at hc'
     split at hc'
     ·rename_i vs hvs
      split at hc'
      case h_2=>cases hc'
      rename_i ws hws
      simp at hc';subst hc'
      rw[hvs]at hrch hok2
      obtain⟨hl2,hg2⟩:=mapO_get vs ws hws
      have hvl:vs.length=len:=by rw[<-hcl,hvs];rfl
      refine⟨by simp[Cont.len,hl2,hvl],fun i hi => ?_⟩
      have hvi:vs[i]? = some (vs[i]'(by omega)):=List.getElem?_eq_getElem _
      obtain⟨v2,hv2,hf2⟩:=hg2 i _ hvi
      have hki:=hkr (off+i) (by omega)
      have hrow:qD μ k.c=μ:=by
       have:qD μ (k.c.cut off len)=μ:=by rw[hvs];rfl
       rwa[rowMu_cut]at this
      rw[hrow,<-Cont.get_cut k.c off len i hi,hvs]at hki
      simp only[Cont.get,List.getD_eq_getElem?_getD,hvi,Option.getD_some]at hki
      have:=(frz_rep hS hh d _ v2 (holds_foldO hok2 _ (List.getElem_mem _)) (hrch.sub (fun q hq=>List.mem_cons_of_mem _ (List.mem_flatMap.2 ⟨_,List.getElem_mem _,hq⟩))) hf2).1 _ hki
      simpa [Cont.get,List.getD_eq_getElem?_getD,hv2]using this
     ·rename_i c hcne
      simp at hc'
      subst hc'
      refine⟨hcl,fun i hi => ?_⟩
      have hki:=hkr (off+i) (by omega)
      have hrow:qD μ k.c=qR:=by
       rw[<-rowMu_cut μ k.c off len]
       cases hcc:k.c.cut off len<;>first|rfl|exact absurd hcc (hcne _)
      rw[hrow,<-Cont.get_cut k.c off len i hi]at hki
      exact hki.mono hm _ (MuLe.refl _)
    have hlst:=RepC.lst (w:=w) (S:=S2) qR e c' a o cap (fun i=>ks (off+i)) (by rw[hfr.1];exact hcap) hSa (fun i hi=>hfr.2 i (by rw[hfr.1]at hi;exact hi))
     (fun i hi=>by rw[hfr.1]at hi;rw[<-hke];exact hkl _ (by omega))
     (fun i j hi hj=>by
      rw[hfr.1]at hi
      have ho':o=off*e:=by
       rcases ho with h|⟨h,_⟩
       ·exact h
       ·omega
      rw[cell_of_row w a _ cur T' _ hg,ho',<-Nat.add_assoc,<-Nat.add_mul,<-hke]
      exact hkc _ _ (by omega) (by omega))
    rw[hfr.1]at hlst
    exact hlst
   case ptr b e i off p a z hb=>
    split at hf
    case h_2=>cases hf
    rename_i k hk
    split at hf
    case h_2=>cases hf
    rename_i hck
    simp only[Bool.and_eq_true,beq_iff_eq]at hck
    obtain⟨hke,hik0⟩:=hck
    split at hf
    case h_2=>cases hf
    rename_i o1 u hsub
    split at hf
    case h_2=>cases hf
    rename_i hoo
    simp at hoo;subst hoo
    split at hf
    case h_2=>cases hf
    rename_i u' hu'
    simp at hf;subst hf
    refine⟨rfl,?_⟩
    rw[hk]at hrch hok
    simp only[hsub]at hrch hok
    obtain⟨hok1,hok2⟩:=holds_oand hok
    have hik:i<k.c.len:=lenOk_le hik0 hok1
    have hSa:S2 a:=hrch b (List.mem_cons_self ..) k a z hk hb
    obtain⟨a2,z2,hmu2,cur,T',ks,hg,hzz,hlez,hkr,hkl,hkc⟩:=hh.blk b k hk
    have e1:=hb.symm.trans hmu2;cases e1
    have hki:=(hkr i hik).mono (w':=w) (S':=S) ⟨fun _ h=>h,fun _ _ _=>rfl⟩ μ (rowMu_sub μ _)
    obtain⟨c1,c2,c3,hcs,hlen,hru⟩:=sub_rep p _ _ _ _ hsub hki
    have:=(frz_rep hS hh d u u' hok2 (hrch.sub (fun q hq=>List.mem_cons_of_mem _ hq)) hu').1 _ hru
    refine .ref _ _ _ _ c2 hSa this (fun j hj => ?_)
    have hlt:o1+j<k.e:=by rw[<-hkl i hik,hcs];simp;omega
    have hcc:=hkc i (o1+j) hik hlt
    rw[cell_of_row w a _ cur T' _ hg,<-hke,show i*k.e+o1+j=i*k.e+(o1+j) by omega,hcc,hcs,
     List.append_assoc,List.getElem?_append_right (by omega),hlen,Nat.add_sub_cancel_left,List.getElem?_append_left hj]
   case clo f caps xs hr=>
    split at hf
    case h_2=>cases hf
    rename_i ws hws
    simp at hf;subst hf
    exact⟨rfl,.clo _ _ _ _ (ihVL caps ws xs (hmem caps hok hrch) hws hr)⟩
   case nilf=>simp at hf;subst hf;exact⟨rfl,.nilf _⟩
   case ifc T u x hr=>
    split at hf
    case h_2=>cases hf
    rename_i u' hu'
    simp at hf;subst hf
    exact⟨rfl,.ifc _ _ _ _ ((frz_rep hS hh d u u' hok hrch hu').2 x hr)⟩
   case nili=>simp at hf;subst hf;exact⟨rfl,.nili _⟩
   case nilp=>simp at hf;subst hf;exact⟨rfl,.nilp _⟩
  refine⟨fun cs hr=>(hC cs hr).2,fun x hr => ?_⟩
  cases hr with
  | cell _ _ _ hv hr=>obtain⟨h1,h2⟩:=hC _ hr;exact .cell _ _ _ (h1.trans hv) h2
  | agg _ _ _ hv hr=>obtain⟨h1,h2⟩:=hC _ hr;exact .agg _ _ _ (h1.trans hv) h2
  | und=>simp[frz]at hf;subst hf;exact .und _
  | any=>simp[frz]at hf;subst hf;exact .any _ _
  | tup _ vs xs hr=>
   simp only[frz]at hf
   simp only[deep]at hrch
   simp only[frzOk]at hok
   split at hf
   case h_2=>cases hf
   rename_i ws hws
   simp at hf;subst hf
   exact .tup _ _ _ (ihVL vs ws xs (hmem vs hok hrch) hws hr)
theorem flat_rep {S2:Nat->Prop}:∀ (d:Nat) (μ:Mu) (v:PV),flat d v=true->(∀ cs,RepC w S μ v cs->RepC w S2 μ v cs)/\(∀ x,RepV w S μ v x->RepV w S2 μ v x)
 | 0,_,_,h=>by simp[flat]at h
 | d+1,μ,v,h=>by
  have hL:∀ (vs:List PV),vs.all (flat d)=true->∀ cs,RepL w S μ vs cs->RepL w S2 μ vs cs:=by
   intro vs
   induction vs with
   | nil=>intro _ cs hr;cases hr;exact .nil _
   | cons u us ih=>
    intro ha cs hr
    simp at ha
    cases hr with
    | cons _ _ _ c1 c2 h1 h2=>exact .cons _ _ _ _ _ ((flat_rep d μ u ha.1).1 _ h1) (ih (by simpa using ha.2) _ h2)
  have hVL:∀ (vs:List PV),vs.all (flat d)=true->∀ cs,RepVL w S μ vs cs->RepVL w S2 μ vs cs:=by
   intro vs
   induction vs with
   | nil=>intro _ cs hr;cases hr;exact .nil _
   | cons u us ih=>
    intro ha cs hr
    simp at ha
    cases hr with
    | cons _ _ _ c1 c2 h1 h2=>exact .cons _ _ _ _ _ ((flat_rep d μ u ha.1).2 _ h1) (ih (by simpa using ha.2) _ h2)
  have hC:∀ cs,RepC w S μ v cs->RepC w S2 μ v cs:=by
   intro cs hr
   cases hr<;>simp only[flat]at h
   case b=>exact .b _ _
   case bl=>exact .bl _ _
   case i=>exact .i _ _ _
   case s=>exact .s _ _
   case q=>exact .q _ _ _ (by assumption)
   case agg vs hr=>exact .agg _ _ _ (hL vs h _ hr)
   case nil=>exact .nil _
   case sl h1 h2 h3 h4=>exact .sl _ _ _ _ _ _ _ _ _ (by assumption) (by assumption) (by assumption) (by assumption)
   case ptr=>exact .ptr _ _ _ _ _ _ _ _ (by assumption)
   all_goals cases h
  refine⟨hC,fun x hr => ?_⟩
  cases hr with
  | cell _ _ _ hv hr=>exact .cell _ _ _ hv (hC _ hr)
  | agg _ _ _ hv hr=>exact .agg _ _ _ hv (hC _ hr)
  | und=>exact .und _
  | any=>exact .any _ _
  | tup _ vs xs hr=>simp only[flat]at h;exact .tup _ _ _ (hVL vs h _ hr)
theorem flatC_rep {S2:Nat->Prop} {μ:Mu} {k:Blk} {a z:Nat} (h:flatC k.c=true) (hb:BlkRel w S μ k a z):BlkRel w S2 μ k a z:=by
 obtain⟨c,T,cs,h1,h2,h3,h4,h5,h6⟩:=hb
 refine⟨c,T,cs,h1,h2,h3,fun i hi => ?_,h5,h6⟩
 have h7:=h4 i hi
 cases hc:k.c with
 | ints kk xs=>rw[hc]at h7;simp only[Cont.get,qD]at h7 ⊢;generalize cs i=y at h7;cases h7;exact .i _ _ _
 | rats n xs=>rw[hc]at h7;simp only[Cont.get,qD]at h7 ⊢;generalize cs i=y at h7;cases h7;exact .q _ _ _ (by assumption)
 | vals vs=>
  rw[hc]at h7 h hi
  simp only[flatC]at h
  simp only[Cont.len]at hi
  have hm:(Cont.vals vs).get i∈vs:=by
   simp only[Cont.get,List.getD]
   rw[List.getElem?_eq_getElem hi]
   exact List.getElem_mem hi
  exact(flat_rep 6 _ _ (List.all_eq_true.1 h _ hm)).1 _ h7
 | fn n f=>rw[hc]at h;cases h
end
end
section
open Go
def methT (P:Program) (T:Nat) (name:String):Option Nat:=
 match P.info? T,P.underlying T with
 | some i,some (.struct _)=>match i.methods.find? (·.name==name)with
  | some m=>match m.path.toList,m.func with
   | [],some (f,false)=>some f
   | _,_=>none
  | none=>none
 | _,_=>none
def callee (P:Program) (t:List PV) (op:Op):Option (Nat × List PV):=
 match op with
 | .call c=>match c.callee with
  | .value f=>match evO t f with
   | .clo g caps=>some (g,c.args.toList.map (evO t)++caps)
   | _=>none
  | .invoke r name=>match evO t r with
   | .ifc T v=>match methT P T name with
    | some g=>some (g,v::c.args.toList.map (evO t))
    | none=>none
   | _=>none
  | _=>none
 | _=>none
def drp (h:qT) (see:List Nat):List (Nat × Option Blk):=(see.filter fun b=>(hget h b).isSome).map fun b=>(b,none)

def bk (ids:List Nat):Nat->PV->Option PV
 | 0,_=>none
 | d+1,v=>match v with
  | .sl b e off len=>match ids[b]? with
   | some c=>some (.sl c e off len)
   | none=>none
  | .ptr b e i off p=>match ids[b]? with
   | some c=>some (.ptr c e i off p)
   | none=>none
  | .agg vs=>match mapO (bk ids d) vs with
   | some ws=>some (.agg ws)
   | none=>none
  | .tup vs=>match mapO (bk ids d) vs with
   | some ws=>some (.tup ws)
   | none=>none
  | .clo f cs=>match mapO (bk ids d) cs with
   | some ws=>some (.clo f ws)
   | none=>none
  | .ifc t w=>match bk ids d w with
   | some w'=>some (.ifc t w')
   | none=>none
  | .fr _ _=>none
  | v=>some v
def brO (o:Option Bool) (x:Tr) (n:Nat):Tr:=match o with|none=>x|some b=>.br b x (.no n)
def popO (P:Program) (O:Orc) (wr:List (Nat × List Nat)) (own:Bool) (t:List PV) (id:Nat) (h:qT) (op:Op) (w:Nat) (K:Eff->Tr):Tr:=
 match callee P t op with
 | some (g,ags)=>match Orc.look g O with
  | none=>.no w
  | some sp=>match passO h ((assoc g wr).getD []) 0 ags with
   | none=>.no w
   | some ps=>
    let see:=seen h ((assoc g wr).getD []) 0 ags
    match ps.ids.all (fun b=>!see.contains b)with
    | false=>.no w
    | true=>brO ps.ok (sp ps.args ps.blks fun r hs=>match zipW ps.ids hs with
     | none=>.no w
     | some ws=>
      let u:=unfr ps.blks.length r
      let ws:=match see.isEmpty||(flat 6 u.1&&(u.2++hs).all (fun k=>flatC k.c))with
       | false=>ws++drp h see
       | true=>ws
      match own with
      | true=>match bk (ps.ids++upto id u.2.length) 6 u.1 with
       | some v=>K (v,ws,u.2)
       | none=>.no w
      | false=>match frz (List.replicate ps.blks.length none++u.2.map some) 6 u.1 with
       | some v=>brO (frzOk (List.replicate ps.blks.length none++u.2.map some) 6 u.1) (K (v,ws,[])) w
       | none=>.no w) w
 | none=>match popV P own t id h op with
  | .fail=>.no w
  | .one e=>K e
  | .cond b e=>.br b (K e) (.no w)

def putW:qT->List (Nat × Option Blk)->qT
 | h,[]=>h
 | h,(b,k)::r=>putW (h.set b k) r
def putT (t:List PV) (dst:Option Nat) (v:PV):List PV:=match dst with|some d=>t.set d v|none=>t
def putE (s:St) (dst:Option Nat) (e:Eff):St:={t:=putT s.t dst e.1,h:=putW (s.h++e.2.2.map some) e.2.1}
def ownD (pol:Pol) (dst:Option Nat):Bool:=match dst with|some d=>pol.own.contains d|none=>false

def ids1:PV->List Nat
 | .sl b _ _ _=>[b]
 | .ptr b _ _ _ _=>[b]
 | _=>[]
def usesO (P:Program) (t:List PV) (h:qT) (op:Op):List Nat:=
 match callee P t op with
 | some (_,ags)=>ags.flatMap (deep h 6)
 | none=>match op with
  | .load _ x=>ids1 (evO t x)
  | .store _ x _=>ids1 (evO t x)
  | .slice _ x _ _ _=>ids1 (evO t x)
  | .convert _ _ x=>ids1 (evO t x)
  | .call c=>c.args.toList.flatMap fun x=>ids1 (evO t x)
  | _=>[]
def mask (u:List Nat):Nat->qT->qT
 | _,[]=>[]
 | n,b::r=>(match u.contains n with|true=>b|false=>none)::mask u (n+1) r
structure Rc where
 u:List Nat
 wr:List Nat
def touch (id:Nat) (e:Eff):List Nat:=e.2.1.map (·.1)++upto id e.2.2.length
def disj (a b:List Nat):Bool:=a.all fun x=>!b.contains x
def clash (row:Nat) (u wr:List Nat):List Rc->Bool
 | []=>true
 | r::rs=>(Nat.testBit row rs.length||(disj r.wr u&&disj wr r.u&&disj wr r.wr))&&clash row u wr rs
def rowOf (tab:List Nat):List Edge->Nat->Option Nat
 | [],m=>some m
 | e::es,m=>match Region.binds .any e with
  | true=>match tab[e.on]? with
   | some x=>rowOf tab es (m ||| x ||| (1 <<< e.on))
   | none=>none
  | false=>rowOf tab es m
def apartB (all:Array Oper) (o:Oper) (row:Nat):Nat->List Oper->Bool
 | _,[]=>true
 | j,x::r=>(Nat.testBit row j||Oper.apart all x o)&&apartB all o row (j+1) r
def rowsOf (all:Array Oper):List Oper->List Oper->List Nat->Option (List Nat)
 | [],_,tab=>some tab
 | o::r,before,tab=>match rowOf tab o.after.toList 0 with
  | some m=>match apartB all o m 0 before with
   | true=>rowsOf all r (before++[o]) (tab++[m])
   | false=>none
  | none=>none

def evOps (P:Program) (O:Orc) (pol:Pol) (all:Array Oper) (w0:Nat) (K:St->Tr):Nat->Option (List Nat)->List Rc->List Oper->St->Tr
 | 0,_,_,_,_=>.no 2
 | _+1,_,_,[],s=>K s
 | n+1,d,rs,o::r,s=>
  let go (t:List PV):Tr:=match d with
   | none=>popO P O pol.wr (ownD pol o.dst) t s.h.length s.h o.op (w0+n) fun e=>evOps P O pol all w0 K n none [] r (putE {s with t:=t} o.dst e)
   | some rows=>popO P O pol.wr (ownD pol o.dst) t s.h.length (mask (usesO P t s.h o.op) 0 s.h) o.op (w0+n) fun e=>
    match clash (rows.headD 0) (usesO P t s.h o.op) (touch s.h.length e) rs with
    | true=>evOps P O pol all w0 K n (some rows.tail) (⟨usesO P t s.h o.op,touch s.h.length e⟩::rs) r (putE {s with t:=t} o.dst e)
    | false=>.no (w0+n)
  let skip (t:List PV):Tr:=match d with
   | none=>evOps P O pol all w0 K n none [] r {s with t:=putT t o.dst .und}
   | some rows=>evOps P O pol all w0 K n (some rows.tail) (⟨[],[]⟩::rs) r {s with t:=putT t o.dst .und}
  match o.guard with
  | none=>go s.t
  | some (j,w)=>match (all[j]?).bind (·.dst)with
   | none=>.no 3
   | some g=>
    match s.t.getD g .any with
    | .bl true=>match w with|true=>go s.t|false=>skip s.t
    | .bl false=>match w with|true=>skip s.t|false=>go s.t
    | .b x=>match w with
     | true=>.br x (go (s.t.set g (.bl true))) (skip (s.t.set g (.bl false)))
     | false=>.br x (skip (s.t.set g (.bl true))) (go (s.t.set g (.bl false)))
    | .und=>skip s.t
    | _=>.no 4

def posOf (b:Nat):List Nat->Nat->Option Nat
 | [],_=>none
 | c::r,n=>match c==b with|true=>some n|false=>posOf b r (n+1)
def renum (ids:List Nat) (b:Nat):Nat × List Nat:=
 match posOf b ids 0 with
 | some n=>(n,ids)
 | none=>(ids.length,ids++[b])
def renL (g:PV->List Nat->Option (PV × List Nat)):List PV->List Nat->Option (List PV × List Nat)
 | [],ids=>some ([],ids)
 | v::vs,ids=>match g v ids with
  | some (w,ids')=>match renL g vs ids' with
   | some (ws,ids'')=>some (w::ws,ids'')
   | none=>none
  | none=>none
def renV:Nat->PV->List Nat->Option (PV × List Nat)
 | 0,_,_=>none
 | d+1,v,ids=>match v with
  | .sl b e off len=>match renum ids b with|(n,ids')=>some (.sl n e off len,ids')
  | .ptr b e i off p=>match renum ids b with|(n,ids')=>some (.ptr n e i off p,ids')
  | .agg vs=>match renL (renV d) vs ids with|some (ws,ids')=>some (.agg ws,ids')|none=>none
  | .tup vs=>match renL (renV d) vs ids with|some (ws,ids')=>some (.tup ws,ids')|none=>none
  | .clo f vs=>match renL (renV d) vs ids with|some (ws,ids')=>some (.clo f ws,ids')|none=>none
  | .ifc t w=>match renV d w ids with|some (w',ids')=>some (.ifc t w',ids')|none=>none
  | v=>some (v,ids)
def renB (b:Option Blk) (ids:List Nat):Option (Option Blk × List Nat):=
 match b with
 | some ⟨e,.vals vs⟩=>match renL (renV 6) vs ids with|some (ws,ids')=>some (some ⟨e,.vals ws⟩,ids')|none=>none
 | b=>some (b,ids)
def renH (h:qT):Nat->List Nat->qT->Option (List Nat × qT)
 | 0,_,_=>none
 | n+1,ids,acc=>match ids[acc.length]? with
  | none=>some (ids,acc)
  | some b=>match renB (hget h b) ids with
   | some (kb,ids')=>renH h n ids' (acc++[kb])
   | none=>none
def saveS (m:Nat) (live:List Nat) (s:St):Option LS:=
 match renL (renV 6) (live.map fun d=>s.t.getD d .any) (upto 0 m)with
 | some (ts,ids)=>match renH s.h 60 ids []with
  | some (_,h)=>some ⟨ts,h⟩
  | none=>none
 | none=>none
def loadT:List Nat->List PV->List PV->List PV
 | d::ds,v::vs,t=>loadT ds vs (t.set d v)
 | _,_,t=>t
def loadS (n:Nat) (live:List Nat) (ls:LS):St:=⟨loadT live ls.t (List.replicate n .any),ls.h⟩

def qr:Code->Nat
 | .region id _ _=>id
 | .seq a _=>qr a
 | .block _ a=>qr a
 | .loop a=>qr a
 | _=>0

def evC (P:Program) (O:Orc) (L:Lps) (pol:Pol) (n m:Nat):Code->(Exit->St->Tr)->St->Tr
 | .skip,K,s=>K .normal s
 | .region id ops dr,K,s=>match dr with
  | false=>evOps P O pol ops (1000*(id+1)) (K .normal) (ops.size+1) none [] ops.toList s
  | true=>match rowsOf ops ops.toList [] []with
   | some rows=>evOps P O pol ops (1000*(id+1)) (K .normal) (ops.size+1) (some rows) [] ops.toList s
   | none=>.no 12
 | .seq a b,K,s=>evC P O L pol n m a (fun e s'=>match e with | .normal=>evC P O L pol n m b K s'|e=>K e s') s
 | .cond c a b,K,s=>match evO s.t c with
  | .b x=>.br x (evC P O L pol n m a K s) (evC P O L pol n m b K s)
  | .bl true=>evC P O L pol n m a K s
  | .bl false=>evC P O L pol n m b K s
  | _=>.no 5
 | .block id a,K,s=>evC P O L pol n m a (fun e s'=>match e with
  | .exit j=>match j==id with|true=>K .normal s'|false=>K (.exit j) s'
  | e=>K e s') s
 | .loop a,K,s=>match assoc (qr a) pol.live,Lps.look (qr a) L with
  | some live,some sp=>match saveS m live s with
   | some ls=>sp ls fun e ls=>K e (loadS n live ls)
   | none=>.no 13
  | _,_=>.no 6
 | .exit j,K,s=>K (.exit j) s
 | .ret,K,s=>K .ret s
 | _,_,_=>.no 7

def qe (P:Program) (O:Orc) (L:Lps) (pol:Pol) (n m:Nat) (live:List Nat) (a:Code) (ls:LS):Tr:=
 evC P O L pol n m a (fun e s=>match saveS m live s with
  | some ls'=>.ok (.out e ls')
  | none=>.no 14) (loadS n live ls)

structure Out where
 v:PV
 vw:List Nat
 gv:List Nat
 ok:Option Bool
structure Outs where
 v:List PV
 vw:List Nat
 gv:List Nat
 ok:Option Bool
def viewO (h:qT) (d:Nat) (v:PV):Option Out:=match frz h d v with
 | some w=>some ⟨w,deep h d v,[],frzOk h d v⟩
 | none=>none
def deepC (h:qT) (d:Nat):Cont->List Nat
 | .vals vs=>vs.flatMap (deep h d)
 | _=>[]
def fresh1 (m:Nat) (h:qT) (d:Nat) (v:PV):Option Out:=
 match v with
 | .sl b e off len=>match Nat.blt b m with
  | true=>some ⟨.sl b e off len,[],[],none⟩
  | false=>match hget h b,off with
   | some k,0=>match k.e==e&&lenOk k.c len with
    | true=>match frzC (frz h d) (k.c.cut 0 len)with
     | some c=>some ⟨.fr e c,deepC h d (k.c.cut 0 len),[b],oand (lenC k.c len) (frzCO (frzOk h d) (k.c.cut 0 len))⟩
     | none=>none
    | false=>none
   | _,_=>viewO h d v
 | .ptr b e i off p=>match Nat.blt b m with
  | true=>some ⟨.ptr b e i off p,[],[],none⟩
  | false=>viewO h d v
 | v=>viewO h d v
def freshL (m:Nat) (h:qT) (d:Nat):List PV->Option Outs
 | []=>some ⟨[],[],[],none⟩
 | v::vs=>match fresh1 m h d v with
  | some o=>match freshL m h d vs with
   | some p=>some ⟨o.v::p.v,o.vw++p.vw,o.gv++p.gv,oand o.ok p.ok⟩
   | none=>none
  | none=>none
def freshA (m:Nat) (h:qT) (v:PV):Option Out:=
 match v with
 | .agg vs=>match freshL m h 6 vs with
  | some p=>some ⟨.agg p.v,p.vw,p.gv,p.ok⟩
  | none=>none
 | v=>fresh1 m h 6 v
def freshT (m:Nat) (h:qT):List PV->Option Outs
 | []=>some ⟨[],[],[],none⟩
 | v::vs=>match freshA m h v with
  | some o=>match freshT m h vs with
   | some p=>some ⟨o.v::p.v,o.vw++p.vw,o.gv++p.gv,oand o.ok p.ok⟩
   | none=>none
  | none=>none
def nodupB:List Nat->Bool
 | []=>true
 | b::r=>!r.contains b&&nodupB r
def endOk (m:Nat) (vw gv:List Nat):Bool:=vw.all (fun b=>Nat.ble m b)&&nodupB gv&&disj gv vw
def firstM (h:qT):Nat->Option (List Blk)
 | 0=>some []
 | m+1=>match firstM h m,hget h m with
  | some l,some k=>match frzC (frz [] 6) k.c with
   | some c=>some (l++[⟨k.e,c⟩])
   | none=>none
  | _,_=>none
def resV (P:Program) (s:St):ResultVar->Option PV
 | .tmp k=>some (s.t.getD k .any)
 | .cell a T=>match ldC s.h (s.t.getD a .any)with
  | none=>ldO P T s.h (s.t.getD a .any)
  | some _=>none
def resL (P:Program) (s:St):List ResultVar->Option (List PV)
 | []=>some []
 | r::rs=>match resV P s r with
  | some v=>match resL P s rs with
   | some vs=>some (v::vs)
   | none=>none
  | none=>none
def one (rs:List PV):PV:=match rs with|[r]=>r|rs=>.tup rs
def oneOk (rs:List PV):Bool:=match rs with|[.tup _]=>false|_=>true
def endF (P:Program) (fn:Func) (m:Nat) (K:PV->List Blk->Tr) (s:St):Tr:=
 match resL P s fn.results.toList,firstM s.h m with
 | some vs,some hs=>match freshT m s.h vs with
  | some p=>match endOk m p.vw p.gv&&oneOk p.v with
   | true=>brO p.ok (K (one p.v) hs) 15
   | false=>.no 15
  | none=>.no 9
 | _,_=>.no 8
def evF (P:Program) (O:Orc) (L:Lps) (pol:Pol) (fn:Func) (args:List PV) (hs:List Blk) (K:PV->List Blk->Tr):Tr:=
 match fn.body with
 | some c=>match Nat.ble args.length fn.ntmps with
  | true=>evC P O L pol fn.ntmps hs.length c (fun e s=>match e with
   | .ret=>endF P fn hs.length K s
   | .normal=>endF P fn hs.length K s
   | _=>.no 10) ⟨args++List.replicate (fn.ntmps-args.length) .any,hs.map some⟩
  | false=>.no 16
 | none=>.no 11

end
section
open Go
def Does (P:Program) (g:FuncId) (vs:Array Value) (w:World) (R:Value->World->Prop):Prop:=
 ∀ (o:Oper) (a:Act) (K:Act->World->Prop) (Q:Exit->Act->World->Prop),(∀ v w',R v w'->K (a.put o.dst v) w')->o.upon P a K Q ((callFunc g vs).run P w)
theorem Does.mono {P:Program} {g:FuncId} {vs:Array Value} {w:World} {R R':Value->World->Prop} (h:Does P g vs w R) (hr:∀ v w',R v w'->R' v w'):Does P g vs w R':=
 fun o a K Q hK=>h o a K Q fun v w' hv=>hK v w' (hr v w' hv)
structure CPost (w w':World) (S S':Nat->Prop) (μ μ':Mu) (m:Nat) (r:PV) (hs nbs:List Blk) (v:Value):Prop where
 os:w'.os=w.os
 tape:w'.tape=w.tape
 output:w'.output=w.output
 size:w.heap.size<=w'.heap.size
 old:∀ n,n<w.heap.size->(∀ b z,b<m->μ b≠some (n,z))->w'.heap[n]? = w.heap[n]?
 subS:∀ n,S n->S' n
 newS:∀ n,S' n->S n\/(w.heap.size<=n/\n<w'.heap.size)
 mu:∀ b,b<m->μ' b=μ b
 rep:RepV w' S' μ' r v
 wr:∀ j k,hs[j]? = some k->∃ a z,μ j=some (a,z)/\BlkRel w' S' qR k a z
 nw:∀ j k,nbs[j]? = some k->∃ a z,μ' (m+j)=some (a,z)/\BlkRel w' S' qR k a z/\¬ S' a/\w.heap.size<=a
 nwInj:∀ j j' a z z',j<nbs.length->j'<nbs.length->μ' (m+j)=some (a,z)->μ' (m+j')=some (a,z')->j=j'
def PC (P:Program) (G:World->(Nat->Prop)->Prop) (g:Nat) (args:List PV) (hs:List Blk) (r:PV) (hs':List Blk):Prop:=
 ∀ (w:World) (S:Nat->Prop) (μ:Mu) (vs:List Value),G w S->RepVL w S μ args vs->HRel w S μ (hget (hs.map some))->(∀ b,hs.length<=b->μ b=none)->
  Does P g vs.toArray w fun v w'=>∃ S' μ',CPost w w' S S' μ μ' hs.length (unfr hs.length r).1 hs' (unfr hs.length r).2 v
def qc (P:Program) (G:World->(Nat->Prop)->Prop) (g:Nat) (sp:Spec):Prop:=
 ∀ (args:List PV) (hs:List Blk) (K:PV->List Blk->Tr) (x:Res),(sp args hs K).run=some x->∃ r hs',PC P G g args hs r hs'/\(K r hs').run=some x
def OrcOK (P:Program) (G:World->(Nat->Prop)->Prop) (O:Orc):Prop:=∀ g sp,Orc.look g O=some sp->qc P G g sp
def GOk (G:World->(Nat->Prop)->Prop):Prop:=∀ w w' S S',Mono w w' S S'->G w S->G w' S'

def muOf (μ:Mu) (ids:List Nat):Mu:=fun j=>match ids[j]? with|some b=>μ b|none=>none

section
variable {P:Program} {w:World} {S S2:Nat->Prop} {μ:Mu} {h:qT}
theorem BlkRel.noRefs {k:Blk} {a z:Nat} (hn:k.c.noRefs=true) (hb:BlkRel w S μ k a z):BlkRel w S qR k a z:=by
 obtain⟨c,T,cs,h1,h2,h3,h4,h5,h6⟩:=hb
 refine⟨c,T,cs,h1,h2,h3,fun i hi => ?_,h5,h6⟩
 have h7:=h4 i hi
 cases hc:k.c with
 | vals vs=>
  rw[hc]at h7 hn hi
  simp only[Cont.noRefs]at hn
  simp only[Cont.len]at hi
  have hm:(Cont.vals vs).get i∈vs:=by
   simp only[Cont.get,List.getD]
   rw[List.getElem?_eq_getElem hi]
   exact List.getElem_mem hi
  exact(noRef_rep 8 _ _ (List.all_eq_true.1 hn _ hm)).1 _ h7
 | _=>rw[hc]at h7;exact h7
theorem hget_lt {b:Nat} {k:Blk} (hb:hget h b=some k):b<h.length:=by
 unfold hget at hb
 split at hb
 ·rename_i hx;exact(List.getElem?_eq_some_iff.1 hx).1
 ·cases hb
theorem hget_map {hs:List Blk} {b:Nat}:hget (hs.map some) b=hs[b]? := by
 unfold hget
 rw[List.getElem?_map]
 cases hs[b]? <;> rfl

structure PassOK (h:qT) (ps:Pass):Prop where
 len:ps.blks.length=ps.ids.length
 at_:∀ (j b:Nat),ps.ids[j]? = some b->∃ k,ps.blks[j]? = some k/\hget h b=some k/\k.c.noRefs=true
 nodup:ps.ids.Nodup

theorem PassOK.snoc {ps:Pass} {b:Nat} {k:Blk} (hp:PassOK h ps) (hb:hget h b=some k) (hn:k.c.noRefs=true) (hc:ps.ids.contains b=false) (ags:List PV) (q:Option Bool):
  PassOK h ⟨ags,ps.ids++[b],ps.blks++[k],q⟩:=by
 refine⟨by simp[hp.len],fun j c hj => ?_,?_⟩
 ·simp only at hj ⊢
  by_cases hlt:j<ps.ids.length
  ·rw[List.getElem?_append_left hlt]at hj
   obtain⟨k',h1,h2⟩:=hp.at_ j c hj
   exact⟨k',by rw[List.getElem?_append_left (by rw[hp.len];exact hlt)];exact h1,h2⟩
  ·rw[List.getElem?_append_right (by omega)]at hj
   have hj0:j-ps.ids.length=0:=by
    have:=(List.getElem?_eq_some_iff.1 hj).1
    simpa using this
   rw[hj0]at hj
   simp at hj;subst hj
   exact⟨k,by rw[List.getElem?_append_right (by rw[hp.len];omega),hp.len,hj0];rfl,hb,hn⟩
 ·simp only
  rw[List.nodup_append]
  refine⟨hp.nodup,by simp,fun x hx y hy => ?_⟩
  simp at hy;subst hy
  intro he;subst he
  simp at hc
  exact hc hx

theorem brO_run {o:Option Bool} {x:Tr} {n:Nat} {r:Res} (h:(brO o x n).run=some r):holds o/\x.run=some r:=by
 cases o with
 | none=>exact⟨trivial,h⟩
 | some b=>cases b with
  | true=>exact⟨rfl,h⟩
  | false=>cases h
theorem pass_rep (hS:∀ n,S n->S2 n) (hh:HRel w S μ (hget h)) {m:List Nat}:∀ (vs:List PV) (j:Nat) (xs:List Value) (ps:Pass),passO h m j vs=some ps->holds ps.ok->RepVL w S μ vs xs->
  Reach μ h S2 (seen h m j vs)->PassOK h ps/\∀ tl,RepVL w S2 (muOf μ (ps.ids++tl)) ps.args xs
 | [],j,xs,ps,hp,_,hr,_=>by
  cases hr
  simp[passO]at hp;subst hp
  exact⟨⟨rfl,fun j b h=>by simp at h,.nil⟩,fun tl=>.nil _⟩
 | v::vs,j,xs,ps,hp,hok,hr,hrch=>by
  have hm:Mono w w S S2:=⟨hS,fun _ _ _=>rfl⟩
  simp only[passO]at hp
  split at hp
  case h_1=>cases hp
  rename_i r hr0
  cases hr with
  | cons _ _ _ x xs hx hxs=>
  simp only[seen]at hrch
  split at hp
  ·rename_i hc
   rw[hc]at hrch
   simp only at hrch
   split at hp
   case h_2=>cases hp
   rename_i u hu
   simp at hp;subst hp
   obtain⟨ih1,ih2⟩:=pass_rep hS hh vs (j+1) xs r hr0 (holds_oand hok).2 hxs (hrch.sub fun b hb=>List.mem_append.2 (.inr hb))
   have h1:=(frz_rep hS hh 6 v u (holds_oand hok).1 (hrch.sub fun b hb=>List.mem_append.2 (.inl hb)) hu).2 x hx
   exact⟨⟨ih1.len,ih1.at_,ih1.nodup⟩,fun tl=>.cons _ _ _ _ _ (h1.mono ⟨fun _ h=>h,fun _ _ _=>rfl⟩ (MuLe.none _)) (ih2 tl)⟩
  ·rename_i hc
   rw[hc]at hrch
   simp only at hrch
   have ih:=fun hok=>pass_rep hS hh vs (j+1) xs r hr0 hok hxs hrch
   have key:∀ (b:Nat) (k:Blk),hget h b=some k->∀ tl,muOf μ (r.ids++[b]++tl) r.ids.length=μ b:=by
    intro b k _ tl
    simp[muOf]
   split at hp
   ·rename_i b e off len
    split at hp
    case h_2=>cases hp
    rename_i k hk hcon
    split at hp
    case h_2=>cases hp
    rename_i hn
    simp at hp;subst hp
    obtain⟨ih1,ih2⟩:=ih hok
    refine⟨ih1.snoc hk hn hcon _ _,fun tl => ?_⟩
    have h2:=ih2 ([b]++tl)
    rw[<-List.append_assoc]at h2
    refine .cons _ _ _ _ _ ?_ h2
    cases hx with
    | agg _ _ _ hv=>cases hv
    | cell _ _ _ _ hx=>
     cases hx with
     | sl=>
      exact .cell _ _ _ rfl (.sl _ _ _ _ _ _ _ _ _ ((key b k hk tl).trans (by assumption)) (by assumption) (by assumption) (by assumption))
   ·rename_i b e i off p
    split at hp
    case h_2=>cases hp
    rename_i k hk hcon
    split at hp
    case h_2=>cases hp
    rename_i hn
    simp at hp;subst hp
    obtain⟨ih1,ih2⟩:=ih hok
    refine⟨ih1.snoc hk hn hcon _ _,fun tl => ?_⟩
    have h2:=ih2 ([b]++tl)
    rw[<-List.append_assoc]at h2
    refine .cons _ _ _ _ _ ?_ h2
    cases hx with
    | agg _ _ _ hv=>cases hv
    | cell _ _ _ _ hx=>
     cases hx with
     | ptr _ _ _ _ _ _ a z h1=>
      exact .cell _ _ _ rfl (.ptr _ _ _ _ _ _ a z ((key b k hk tl).trans h1))
   ·simp at hp;subst hp
    obtain⟨ih1,ih2⟩:=ih hok
    refine⟨⟨ih1.len,ih1.at_,ih1.nodup⟩,fun tl=>.cons _ _ _ _ _ ?_ (ih2 tl)⟩
    rw[repV_nil hx]
    exact .cell _ _ _ rfl (.nil _)
   ·cases hp

theorem bk_rep {w:World} {S:Nat->Prop} {μ μ2:Mu} {ids:List Nat} (hμ:∀ b c,ids[b]? = some c->∀ r,μ b=some r->μ2 c=some r):
  ∀ (d:Nat) (v v':PV),bk ids d v=some v'->(∀ cs,RepC w S μ v cs->RepC w S μ2 v' cs)/\(∀ x,RepV w S μ v x->RepV w S μ2 v' x)
 | 0,_,_,h=>by simp[bk]at h
 | d+1,v,v',hf=>by
  have ihL:∀ (vs ws:List PV) (cs:List Value),mapO (bk ids d) vs=some ws->RepL w S μ vs cs->RepL w S μ2 ws cs:=by
   intro vs
   induction vs with
   | nil=>intro ws cs h hr;cases hr;simp[mapO]at h;subst h;exact .nil _
   | cons u us ih=>
    intro ws cs h hr
    simp only[mapO]at h
    split at h
    case h_2=>cases h
    rename_i u' hu
    split at h
    case h_2=>cases h
    rename_i us' hus
    simp at h;subst h
    cases hr with
    | cons _ _ _ c1 c2 h1 h2=>exact .cons _ _ _ _ _ ((bk_rep hμ d u u' hu).1 _ h1) (ih _ _ hus h2)
  have ihVL:∀ (vs ws:List PV) (xs:List Value),mapO (bk ids d) vs=some ws->RepVL w S μ vs xs->RepVL w S μ2 ws xs:=by
   intro vs
   induction vs with
   | nil=>intro ws cs h hr;cases hr;simp[mapO]at h;subst h;exact .nil _
   | cons u us ih=>
    intro ws cs h hr
    simp only[mapO]at h
    split at h
    case h_2=>cases h
    rename_i u' hu
    split at h
    case h_2=>cases h
    rename_i us' hus
    simp at h;subst h
    cases hr with
    | cons _ _ _ c1 c2 h1 h2=>exact .cons _ _ _ _ _ ((bk_rep hμ d u u' hu).2 _ h1) (ih _ _ hus h2)
  have hC:∀ cs,RepC w S μ v cs->isAgg v'=isAgg v/\RepC w S μ2 v' cs:=by
   intro cs hr
   cases hr<;>simp only[bk]at hf
   case b=>simp at hf;subst hf;exact⟨rfl,.b _ _⟩
   case bl=>simp at hf;subst hf;exact⟨rfl,.bl _ _⟩
   case i=>simp at hf;subst hf;exact⟨rfl,.i _ _ _⟩
   case s=>simp at hf;subst hf;exact⟨rfl,.s _ _⟩
   case q=>simp at hf;subst hf;exact⟨rfl,.q _ _ _ (by assumption)⟩
   case agg vs hr=>
    split at hf
    case h_2=>cases hf
    rename_i ws hws
    simp at hf;subst hf
    exact⟨rfl,.agg _ _ _ (ihL vs ws cs hws hr)⟩
   case nil=>simp at hf;subst hf;exact⟨rfl,.nil _⟩
   case lst e c a o cap cs' h1 h2 h3 h4 h5=>
    simp at hf;subst hf
    exact⟨rfl,.lst _ e c a o cap cs' h1 h2 h3 h4 h5⟩
   case ref u a o cs' h1 h2 h3=>
    simp at hf;subst hf
    exact⟨rfl,.ref _ u a o cs' h1 h2 h3⟩
   case sl b e off len a z o cap hcap hz ho hb=>
    split at hf
    case h_2=>cases hf
    rename_i c hc
    simp at hf;subst hf
    exact⟨rfl,.sl _ _ _ _ _ _ _ _ _ (hμ _ _ hc _ (by assumption)) (by assumption) (by assumption) (by assumption)⟩
   case ptr b e i off p a z hb=>
    split at hf
    case h_2=>cases hf
    rename_i c hc
    simp at hf;subst hf
    exact⟨rfl,.ptr _ _ _ _ _ _ a z (hμ _ _ hc _ hb)⟩
   case clo f caps xs hr=>
    split at hf
    case h_2=>cases hf
    rename_i ws hws
    simp at hf;subst hf
    exact⟨rfl,.clo _ _ _ _ (ihVL caps ws xs hws hr)⟩
   case nilf=>simp at hf;subst hf;exact⟨rfl,.nilf _⟩
   case ifc T u x hr=>
    split at hf
    case h_2=>cases hf
    rename_i u' hu'
    simp at hf;subst hf
    exact⟨rfl,.ifc _ _ _ _ ((bk_rep hμ d u u' hu').2 x hr)⟩
   case nili=>simp at hf;subst hf;exact⟨rfl,.nili _⟩
   case nilp=>simp at hf;subst hf;exact⟨rfl,.nilp _⟩
   case w u x hr=>simp at hf;subst hf;exact⟨rfl,.w _ u x hr⟩
  refine⟨fun cs hr=>(hC cs hr).2,fun x hr => ?_⟩
  cases hr with
  | cell _ _ _ hv hr=>obtain⟨h1,h2⟩:=hC _ hr;exact .cell _ _ _ (h1.trans hv) h2
  | agg _ _ _ hv hr=>obtain⟨h1,h2⟩:=hC _ hr;exact .agg _ _ _ (h1.trans hv) h2
  | und=>simp[bk]at hf;subst hf;exact .und _
  | any=>simp[bk]at hf;subst hf;exact .any _ _
  | tup _ vs xs hr=>
   simp only[bk]at hf
   split at hf
   case h_2=>cases hf
   rename_i ws hws
   simp at hf;subst hf
   exact .tup _ _ _ (ihVL vs ws xs hws hr)
end
end
section
open Go
def OpOKG (P:Program) (G:World->(Nat->Prop)->Prop) (t:List PV) (id:Nat) (hf:Nat->Option Blk) (o:Oper) (e:Eff):Prop:=
 ∀ (w:World) (S:Nat->Prop) (μ:Mu) (a:Act) (K:Act->World->Prop) (Q:Exit->Act->World->Prop),G w S->
  (∀ x,x∈o.op.operands->RepV w S μ (evO t x) (a.eval x))->HRel w S μ hf->(∀ j,j<e.2.2.length->μ (id+j)=none)->
  (∀ v w' S' μ',Post w w' S S' μ μ' id e v->K (a.put o.dst v) w')->o.wp P a w K Q
structure EffOK (hf:Nat->Option Blk) (e:Eff):Prop where
 hl:∀ b k,(b,k)∈e.2.1->∃ kb,hf b=some kb
 hnd:∀ b k k',(b,k)∈e.2.1->(b,k')∈e.2.1->k=k'
section
variable {P:Program} {G:World->(Nat->Prop)->Prop} {t:List PV} {id:Nat} {h:qT} {o:Oper} {e:Eff}
theorem EffOK.none {hf:Nat->Option Blk} {v:PV} {n:List Blk}:EffOK hf (v,[],n):=⟨(fun _ _ h=>by cases h),(fun _ _ _ h=>by cases h)⟩
theorem EffOK.one {hf:Nat->Option Blk} {v:PV} {b:Nat} {k:Option Blk} {n:List Blk} {kb:Blk} (hb:hf b=some kb):EffOK hf (v,[(b,k)],n):=
 ⟨fun c k' h=>by simp at h;exact⟨kb,by rw[h.1];exact hb⟩,fun c k1 k2 h1 h2=>by simp at h1 h2;rw[h1.2,h2.2]⟩
theorem noW_ofO {o:Option PV} {e:Eff} {hf:Nat->Option Blk} (h:(ofO o).has e):EffOK hf e:=by
 obtain⟨v,_,rfl⟩:=has_ofO.1 h;exact .none
theorem noW_withB {r:Option (Option Bool × Nat × Nat)} {f:Nat->Nat->PV} {e:Eff} {hf:Nat->Option Blk} (h:(withB r f).has e):EffOK hf e:=by
 unfold withB at h
 repeat' split at h
 ·simp at h;subst h;exact .none
 ·simp at h;rw[h.2];exact .none
 ·simp at h
theorem noW_eq {v:PV} {e:Eff} {hf:Nat->Option Blk} (h:e=(v,[],[])):EffOK hf e:=by subst h;exact .none
theorem popV_eff {own:Bool} (hp:(popV P own t id h o.op).has e):EffOK (hget h) e:=by
 cases ho:o.op<;>rw[ho]at hp<;>simp only[popV]at hp
 case store T x y=>
  replace hp:=(has_withC hp).2
  split at hp
  case h_2=>simp at hp
  rename_i ww hww
  simp at hp;subst hp
  unfold stO at hww
  repeat' split at hww
  all_goals first|(cases hww;done)|skip
  cases hww
  exact .one (by assumption)
 case call c=>
  split at hp
  case h_2=>simp at hp
  split at hp
  case h_1=>
   unfold lenO at hp
   repeat' split at hp
   all_goals (simp at hp;try first|(subst hp;exact .none)|(obtain⟨_,rfl⟩:=hp;exact .none))
  case h_2=>
   unfold minO at hp
   repeat' split at hp
   all_goals (simp at hp;try (subst hp;exact .none))
  case h_3=>
   unfold maxO at hp
   repeat' split at hp
   all_goals (simp at hp;try (subst hp;exact .none))
  case h_4=>
   split at hp
   case h_2=>simp at hp
   unfold appO at hp
   split at hp
   case h_1=>simp at hp
   split at hp
   case h_2=>simp at hp
   split at hp
   case h_1=>simp at hp
   split at hp
   case h_1=>simp at hp
   replace hp:=(has_withC hp).2
   repeat' split at hp
   all_goals first|(simp at hp;done)|skip
   ·simp at hp;subst hp;exact .none
   ·simp at hp;rw[hp.2];exact .none
   ·replace hp:=(has_withC hp).2
    simp at hp;rw[hp.2];exact .one (by assumption)
  case h_5=>simp at hp
 case slice T x lo hi mx=>
  cases mx with
  | some m=>simp at hp
  | none=>
   simp only at hp
   unfold slcO at hp
   repeat' split at hp
   all_goals first|(simp at hp;done)|exact noW_withB hp|exact noW_withB (has_withC hp).2
 case indexAddr T x ix=>
  unfold idxA at hp
  repeat' split at hp
  all_goals first|(simp at hp;done)|(simp at hp;rw[hp.2];exact .none)
 case index T x ix=>
  unfold idxS at hp
  repeat' split at hp
  all_goals first|(simp at hp;done)|(simp at hp;rw[hp.2];exact .none)
 case unOp op T x=>
  unfold unO at hp
  repeat' split at hp
  all_goals first|exact noW_eq (arS_has hp)|(simp at hp;done)|(simp at hp;subst hp;exact .none)
 case binOp op T x y T'=>
  cases own with
  | true=>
   simp only at hp
   unfold wrpO at hp
   repeat' split at hp
   all_goals first|(simp at hp;done)|(simp at hp;subst hp;exact .none)
  | false=>
  simp only at hp
  unfold binO at hp
  repeat' split at hp
  all_goals first|(simp at hp;done)|(simp at hp;subst hp;exact .none)|(simp at hp;rw[hp.2];exact .none)|skip
  unfold binI at hp
  repeat' split at hp
  all_goals first|exact noW_eq (arS_has hp)|exact noW_eq (arA_has hp)|exact noW_eq (arS_has (has_withC hp).2)|(simp at hp;done)|(simp at hp;subst hp;exact .none)|(simp at hp;rw[hp.2];exact .none)|skip
 case convert s d x=>
  unfold cvtO at hp
  repeat' split at hp
  all_goals first|(simp at hp;done)|(simp at hp;subst hp;exact .none)|(simp at hp;rw[hp.2];exact .none)|skip
 case load T x=>exact noW_ofO (has_withC hp).2
 case makeFunc f first caps=>
  cases f with
  | func f=>
   simp only at hp
   split at hp
   ·simp at hp;subst hp;exact .none
   ·simp at hp
  | _=>simp at hp
 case extract x k=>
  split at hp
  ·exact noW_ofO hp
  ·simp at hp
 all_goals
  repeat' split at hp
  all_goals first|(simp at hp;done)|(simp at hp;subst hp;exact .none)|(simp at hp;rw[hp.2];exact .none)|skip
end
theorem upto_get:∀ (n a j:Nat),j<n->(upto a n)[j]? = some (a+j)
 | 0,_,_,h=>by omega
 | n+1,a,0,_=>by simp[upto]
 | n+1,a,j+1,h=>by simp[upto,upto_get n (a+1) j (by omega)];omega
theorem upto_length:∀ (n a:Nat),(upto a n).length=n
 | 0,_=>rfl
 | n+1,a=>by simp[upto,upto_length n]
theorem zipW_spec:∀ (ids:List Nat) (hs:List Blk) (ws:Ws),zipW ids hs=some ws->hs.length=ids.length/\
  (∀ (j b:Nat),ids[j]? = some b->∃ k,hs[j]? = some k/\(b,some k)∈ws)/\(∀ b k,(b,k)∈ws->∃ (j:Nat) (k':Blk),ids[j]? = some b/\hs[j]? = some k'/\k=some k')
 | [],[],ws,h=>by simp[zipW]at h;subst h;exact⟨rfl,fun j b h=>by simp at h,fun b k h=>by simp at h⟩
 | [],_::_,_,h=>by simp[zipW]at h
 | _::_,[],_,h=>by simp[zipW]at h
 | i::ids,x::hs,ws,h=>by
  simp only[zipW]at h
  split at h
  case h_2=>cases h
  rename_i r hr
  simp at h;subst h
  obtain⟨h1,h2,h3⟩:=zipW_spec ids hs r hr
  refine⟨by simp[h1],fun j b hj => ?_,fun b k hm => ?_⟩
  ·cases j with
   | zero=>simp at hj;subst hj;exact⟨x,rfl,by simp⟩
   | succ j=>simp at hj;obtain⟨k,h4,h5⟩:=h2 j b hj;exact⟨k,by simpa using h4,by simp[h5]⟩
  ·simp at hm
   rcases hm with ⟨rfl,rfl⟩|hm
   ·exact⟨0,x,rfl,rfl,rfl⟩
   ·obtain⟨j,k',h4,h5,h6⟩:=h3 b k hm
    exact⟨j+1,k',by simpa using h4,by simpa using h5,h6⟩
theorem nodup_get {l:List Nat} (h:l.Nodup) {i j b:Nat} (hi:l[i]? = some b) (hj:l[j]? = some b):i=j:=by
 obtain⟨h1,h2⟩:=List.getElem?_eq_some_iff.1 hi
 obtain⟨h3,h4⟩:=List.getElem?_eq_some_iff.1 hj
 exact(List.getElem_inj h).1 (h2.trans h4.symm)
theorem hget_nb {m:Nat} {nbs:List Blk} {b:Nat} {k:Blk} (h:hget (List.replicate m none++nbs.map some) b=some k):m<=b/\nbs[b-m]? = some k:=by
 unfold hget at h
 split at h
 case h_2=>cases h
 rename_i k' hk
 simp at h;subst h
 by_cases hb:b<m
 ·rw[List.getElem?_append_left (by simpa using hb)]at hk
  simp[hb]at hk
 ·rw[List.getElem?_append_right (by simp;omega)]at hk
  refine⟨by omega,?_⟩
  simpa [List.getElem?_map]using hk

section
variable {P:Program} {G:World->(Nat->Prop)->Prop} {w w':World} {S:Nat->Prop} {μ:Mu} {h:qT}
theorem seen_lt {see:List Nat} (hh:HRel w S μ (hget h)) {n:Nat} (hn:S n\/∃ b∈see,∃ k z,hget h b=some k/\μ b=some (n,z)):n<w.heap.size:=by
 rcases hn with hn|⟨b,_,k,z,hk,hmu⟩
 ·exact hh.lt n hn
 ·obtain⟨a,z',h1,h2⟩:=hh.blk b k hk
  have:=hmu.symm.trans h1;cases this
  exact h2.lt
theorem pass_hrel (hh:HRel w S μ (hget h)) {ps:Pass} (hp:PassOK h ps) {see:List Nat} (hs:ps.ids.all (fun b=>!see.contains b)=true):
  HRel w (fun n=>S n\/∃ b∈see,∃ k z,hget h b=some k/\μ b=some (n,z)) (muOf μ ps.ids) (hget (ps.blks.map some)):=by
 have hm:Mono w w S (fun n=>S n\/∃ b∈see,∃ k z,hget h b=some k/\μ b=some (n,z)):=⟨fun _ h=>.inl h,fun _ _ _=>rfl⟩
 have at_:∀ j k,hget (ps.blks.map some) j=some k->∃ b,ps.ids[j]? = some b/\hget h b=some k/\k.c.noRefs=true/\muOf μ ps.ids j=μ b:=by
  intro j k hj
  rw[hget_map]at hj
  have hlt:=(List.getElem?_eq_some_iff.1 hj).1
  rw[hp.len]at hlt
  have hb:ps.ids[j]? = some (ps.ids[j]'hlt):=List.getElem?_eq_getElem _
  obtain⟨k',h1,h2,h3⟩:=hp.at_ j _ hb
  rw[hj]at h1;cases h1
  exact⟨_,hb,h2,h3,by simp[muOf,hb]⟩
 refine⟨fun j k hj => ?_,fun j k a z hj hmu hS => ?_,fun j j' k k' a z z' hj hj' hmu hmu' => ?_,fun a ha=>seen_lt hh ha⟩
 ·obtain⟨b,h1,h2,h3,h4⟩:=at_ j k hj
  obtain⟨a,z,h5,h6⟩:=hh.blk b k h2
  exact⟨a,z,h4.trans h5,(h6.noRefs h3).mono hm (MuLe.none _) rfl⟩
 ·obtain⟨b,h1,h2,h3,h4⟩:=at_ j k hj
  rw[h4]at hmu
  rcases hS with hS|⟨c,hc,kc,zc,hkc,hmuc⟩
  ·exact hh.sep b k a z h2 hmu hS
  ·have:=hh.inj b c k kc a z zc h2 hkc hmu hmuc
   subst this
   have:=List.all_eq_true.1 hs b (List.mem_of_getElem? h1)
   simp at this
   exact this hc
 ·obtain⟨b,h1,h2,h3,h4⟩:=at_ j k hj
  obtain⟨b',h1',h2',h3',h4'⟩:=at_ j' k' hj'
  rw[h4]at hmu
  rw[h4']at hmu'
  have:=hh.inj b b' k k' a z z' h2 h2' hmu hmu'
  subst this
  exact nodup_get hp.nodup h1 h1'

theorem call_postT {id:Nat} {ps:Pass} {see:List Nat} {r:PV} {hs' nbs:List Blk} {v:Value} {S':Nat->Prop} {μ':Mu} {ws0 ws:Ws}
  (hh:HRel w S μ (hget h)) (hp:PassOK h ps)
  (hc:CPost w w' (fun n=>S n\/∃ b∈see,∃ k z,hget h b=some k/\μ b=some (n,z)) S' (muOf μ ps.ids) μ' ps.blks.length r hs' nbs v)
  (hz:zipW ps.ids hs'=some ws0) (T:Nat->Prop) (T0:∀ n,S n->T n) (T1:RepV w' T μ' r v) (T2:∀ k∈nbs++hs',∀ a z,BlkRel w' S' qR k a z->BlkRel w' T qR k a z)
  (newT:∀ n,T n->S n\/(w.heap.size<=n/\n<w'.heap.size)\/∃ b z,(b,none)∈ws/\μ b=some (n,z)) (nT:∀ n,T n->w.heap.size<=n->S' n)
  (hws:∀ b k,(b,k)∈ws0->(b,k)∈ws) (hws2:∀ b k,(b,some k)∈ws->(b,some k)∈ws0) (hws3:∀ b,(b,none)∈ws->∃ k,hget h b=some k):
  (∀ v',bk (ps.ids++upto id nbs.length) 6 r=some v'->(∀ j,j<nbs.length->μ (id+j)=none)->∃ S2 μ2,Post w w' S S2 μ μ2 id (v',ws,nbs) v)/\
  (∀ v',holds (frzOk (List.replicate ps.blks.length none++nbs.map some) 6 r)->frz (List.replicate ps.blks.length none++nbs.map some) 6 r=some v'->∃ S2 μ2,Post w w' S S2 μ μ2 id (v',ws,[]) v):=by
 obtain⟨hz1,hz2,hz3⟩:=zipW_spec _ _ _ hz
 have old:∀ n,n<w.heap.size->(∀ b k z,(b,k)∈ws->μ b≠some (n,z))->w'.heap[n]? = w.heap[n]? := by
  intro n hn hno
  refine hc.old n hn (fun b z hb => ?_)
  unfold muOf
  split
  ·rename_i c hcb
   obtain⟨k,_,h2⟩:=hz2 b c hcb
   exact hno c _ z (hws _ _ h2)
  ·exact fun h=>by cases h
 have wr:∀ b k,(b,some k)∈ws->∃ a z,μ b=some (a,z)/\BlkRel w' T qR k a z:=by
  intro b k hb
  obtain⟨j,k',h1,h2,h3⟩:=hz3 b _ (hws2 _ _ hb)
  cases h3
  obtain⟨a,z,h4,h5⟩:=hc.wr j _ h2
  refine⟨a,z,?_,T2 _ (by simp[List.mem_of_getElem? h2]) _ _ h5⟩
  rw[<-h4];simp[muOf,h1]
 have nwT:∀ j k,nbs[j]? = some k->∃ a z,μ' (ps.blks.length+j)=some (a,z)/\BlkRel w' T qR k a z/\¬ T a/\w.heap.size<=a:=by
  intro j k hj
  obtain⟨a,z,h1,h2,h3,h4⟩:=hc.nw j k hj
  refine⟨a,z,h1,T2 _ (by simp[List.mem_of_getElem? hj]) _ _ h2,fun hT => ?_,h4⟩
  exact h3 (nT a hT h4)
 refine⟨fun v' hv' hmu => ?_,fun v' hok hv' => ?_⟩
 ·let μ2:Mu:=fun b=>if id<=b/\b<id+nbs.length then μ' (ps.blks.length+(b-id))else μ b
  have hin:∀ j,j<nbs.length->μ2 (id+j)=μ' (ps.blks.length+j):=by
   intro j hj
   simp only[μ2]
   rw[if_pos ⟨by omega,by omega⟩,show id+j-id=j by omega]
  refine⟨T,μ2,⟨hc.os,hc.tape,hc.output,hc.size,old,T0,newT,?_,fun b hb => ?_,fun b k hb => ?_,fun j k hj => ?_,fun j j' a z z' hj hj' h1 h2 => ?_⟩⟩
  ·refine(bk_rep (fun b c hbc s hs => ?_) 6 _ _ hv').2 _ T1
   by_cases hb:b<ps.ids.length
   ·rw[List.getElem?_append_left hb]at hbc
    rw[hc.mu b (by rw[hp.len];exact hb)]at hs
    have hs':μ c=some s:=by rw[<-hs];simp[muOf,hbc]
    simp only[μ2]
    split
    ·rename_i hr
     have:=hmu (c-id) (by omega)
     rw[show id+(c-id)=c by omega,hs']at this
     cases this
    ·exact hs'
   ·rw[List.getElem?_append_right (by omega)]at hbc
    have hlt:=(List.getElem?_eq_some_iff.1 hbc).1
    rw[upto_length]at hlt
    rw[upto_get _ _ _ hlt]at hbc
    cases hbc
    rw[hin _ hlt,hp.len,show ps.ids.length+(b-ps.ids.length)=b by omega]
    exact hs
  ·simp only[μ2]
   rw[if_neg]
   simp only at hb
   omega
  ·obtain⟨a,z,h1,h2⟩:=wr b k hb
   exact⟨a,z,h1,h2.mono ⟨fun _ h=>h,fun _ _ _=>rfl⟩ (MuLe.none _) rfl⟩
  ·obtain⟨a,z,h1,h2,h3,h4⟩:=nwT j k hj
   exact⟨a,z,(hin j (List.getElem?_eq_some_iff.1 hj).1).trans h1,h2.mono ⟨fun _ h=>h,fun _ _ _=>rfl⟩ (MuLe.none _) rfl,h3,.inl h4⟩
  ·rw[hin j hj]at h1
   rw[hin j' hj']at h2
   exact hc.nwInj j j' a z z' hj hj' h1 h2
 ·let T':Nat->Prop:=fun n=>T n\/∃ j k z,nbs[j]? = some k/\μ' (ps.blks.length+j)=some (n,z)
  have hm:Mono w' w' T T':=⟨fun _ h=>.inl h,fun _ _ _=>rfl⟩
  have hH:HRel w' T μ' (hget (List.replicate ps.blks.length none++nbs.map some)):=by
   refine⟨fun b k hb => ?_,fun b k a z hb hmu hT => ?_,fun b b' k k' a z z' hb hb' hmu hmu' => ?_,fun a ha => ?_⟩
   ·obtain⟨h1,h2⟩:=hget_nb hb
    obtain⟨a,z,h3,h4,_⟩:=nwT _ _ h2
    rw[show ps.blks.length+(b-ps.blks.length)=b by omega]at h3
    exact⟨a,z,h3,h4.mono ⟨fun _ h=>h,fun _ _ _=>rfl⟩ (MuLe.none _) rfl⟩
   ·obtain⟨h1,h2⟩:=hget_nb hb
    obtain⟨a',z',h3,h4,h5,_⟩:=nwT _ _ h2
    rw[show ps.blks.length+(b-ps.blks.length)=b by omega]at h3
    have:=hmu.symm.trans h3;cases this
    exact h5 hT
   ·obtain⟨h1,h2⟩:=hget_nb hb
    obtain⟨h1',h2'⟩:=hget_nb hb'
    have:=hc.nwInj (b-ps.blks.length) (b'-ps.blks.length) a z z' (List.getElem?_eq_some_iff.1 h2).1 (List.getElem?_eq_some_iff.1 h2').1
     (by rw[show ps.blks.length+(b-ps.blks.length)=b by omega];exact hmu) (by rw[show ps.blks.length+(b'-ps.blks.length)=b' by omega];exact hmu')
    omega
   ·rcases newT a ha with h|h|⟨b,z,hb,hmu⟩
    ·have:=hh.lt a h;have:=hc.size;omega
    ·exact h.2
    ·obtain⟨k,hk⟩:=hws3 b hb
     obtain⟨a1,z1,e1,e2⟩:=hh.blk b k hk
     have:=hmu.symm.trans e1;cases this
     have:=e2.lt;have:=hc.size;omega
  refine⟨T',μ,⟨hc.os,hc.tape,hc.output,hc.size,old,fun n hn=>.inl (T0 n hn),fun n hn => ?_,?_,fun b hb=>rfl,fun b k hb => ?_,fun j k hj=>by simp at hj,fun j j' a z z' hj=>by simp at hj⟩⟩
  ·rcases hn with hn|⟨j,k,z,h1,h2⟩
   ·exact newT n hn
   ·obtain⟨a,z',h3,h4,_,h5⟩:=nwT j k h1
    have:=h2.symm.trans h3;cases this
    exact .inr (.inl ⟨h5,h4.lt⟩)
  ·refine((frz_rep (fun n hn=>.inl hn) hH 6 r v' hok (fun b _ k a z hk hmu => ?_) hv').2 _ T1).mono ⟨fun _ h=>h,fun _ _ _=>rfl⟩ (MuLe.none _)
   obtain⟨h1,h2⟩:=hget_nb hk
   exact .inr ⟨b-ps.blks.length,k,z,h2,by rw[show ps.blks.length+(b-ps.blks.length)=b by omega];exact hmu⟩
  ·obtain⟨a,z,h1,h2⟩:=wr b k hb
   exact⟨a,z,h1,h2.mono hm (MuLe.none _) rfl⟩
theorem drp_mem {see:List Nat} {b:Nat} {k:Option Blk}:(b,k)∈drp h see↔k=none/\b∈see/\∃ kb,hget h b=some kb:=by
 simp only[drp,List.mem_map,List.mem_filter,Option.isSome_iff_exists,Prod.mk.injEq]
 constructor
 ·rintro ⟨c,⟨h1,h2⟩,rfl,rfl⟩;exact⟨rfl,h1,h2⟩
 ·rintro ⟨rfl,h1,h2⟩;exact⟨b,⟨h1,h2⟩,rfl,rfl⟩
theorem call_post {id:Nat} {ps:Pass} {see:List Nat} {r:PV} {hs' nbs:List Blk} {v:Value} {S':Nat->Prop} {μ':Mu} {ws:Ws} (fl:Bool)
  (hh:HRel w S μ (hget h)) (hp:PassOK h ps)
  (hc:CPost w w' (fun n=>S n\/∃ b∈see,∃ k z,hget h b=some k/\μ b=some (n,z)) S' (muOf μ ps.ids) μ' ps.blks.length r hs' nbs v)
  (hz:zipW ps.ids hs'=some ws) (hf:(see.isEmpty||(flat 6 r&&(nbs++hs').all (fun k=>flatC k.c)))=fl):
  (∀ v',bk (ps.ids++upto id nbs.length) 6 r=some v'->(∀ j,j<nbs.length->μ (id+j)=none)->∃ S2 μ2,Post w w' S S2 μ μ2 id (v',(match (generalizing:=false) fl with|false=>ws++drp h see|true=>ws),nbs) v)/\
  (∀ v',holds (frzOk (List.replicate ps.blks.length none++nbs.map some) 6 r)->frz (List.replicate ps.blks.length none++nbs.map some) 6 r=some v'->∃ S2 μ2,Post w w' S S2 μ μ2 id (v',(match (generalizing:=false) fl with|false=>ws++drp h see|true=>ws),[]) v):=by
 obtain⟨hz1,hz2,hz3⟩:=zipW_spec _ _ _ hz
 have noN:∀ b,(b,none)∈ws->False:=fun b hb=>by obtain⟨j,k',_,_,h3⟩:=hz3 b _ hb;cases h3
 cases fl with
 | false=>
  refine call_postT hh hp hc hz S' (fun n hn=>hc.subS n (.inl hn)) hc.rep (fun _ _ _ _ h=>h) (fun n hn => ?_) (fun _ h _=>h) (fun b k hb=>List.mem_append.2 (.inl hb)) (fun b k hb => ?_) (fun b hb => ?_)
  ·rcases hc.newS n hn with (h|⟨b,hb,k,z,hk,hmu⟩)|h
   ·exact .inl h
   ·exact .inr (.inr ⟨b,z,List.mem_append.2 (.inr (drp_mem.2 ⟨rfl,hb,k,hk⟩)),hmu⟩)
   ·exact .inr (.inl h)
  ·rcases List.mem_append.1 hb with hb|hb
   ·exact hb
   ·cases(drp_mem.1 hb).1
  ·rcases List.mem_append.1 hb with hb|hb
   ·exact(noN b hb).elim
   ·exact(drp_mem.1 hb).2.2
 | true=>
  -- the new immutable memory
  let T:Nat->Prop:=fun n=>S n\/(S' n/\w.heap.size<=n)
  have T1:RepV w' T μ' r v:=by
   rcases Bool.or_eq_true_iff.1 hf with hf|hf
   ·have hsee:see=[]:=by simpa using hf
    refine hc.rep.mono ⟨fun n hn => ?_,fun _ _ _=>rfl⟩ (MuLe.refl _)
    rcases hc.newS n hn with (h|⟨b,hb,_⟩)|h
    ·exact .inl h
    ·rw[hsee]at hb;cases hb
    ·exact .inr ⟨hn,h.1⟩
   ·simp only[Bool.and_eq_true]at hf
    exact(flat_rep 6 _ _ hf.1).2 _ hc.rep
  have T2:∀ k∈nbs++hs',∀ a z,BlkRel w' S' qR k a z->BlkRel w' T qR k a z:=by
   intro k hk a z hb
   rcases Bool.or_eq_true_iff.1 hf with hf|hf
   ·have hsee:see=[]:=by simpa using hf
    refine hb.mono ⟨fun n hn => ?_,fun _ _ _=>rfl⟩ (MuLe.refl _) rfl
    rcases hc.newS n hn with (h|⟨b,hb,_⟩)|h
    ·exact .inl h
    ·rw[hsee]at hb;cases hb
    ·exact .inr ⟨hn,h.1⟩
   ·simp only[Bool.and_eq_true]at hf
    exact flatC_rep (List.all_eq_true.1 hf.2 k hk) hb
  refine call_postT hh hp hc hz T (fun n hn=>.inl hn) T1 T2 (fun n hn => ?_) (fun n hn hlt => ?_) (fun _ _ h=>h) (fun _ _ h=>h) (fun b hb=>(noN b hb).elim)
  ·rcases hn with hn|⟨h1,h2⟩
   ·exact .inl hn
   ·rcases hc.newS n h1 with h|h
    ·have:=seen_lt hh h;omega
    ·exact .inr (.inl h)
  ·rcases hn with hn|⟨h1,_⟩
   ·have:=hh.lt n hn;omega
   ·exact h1
end
end
section
open Go
section
variable {P:Program} {G:World->(Nat->Prop)->Prop} {t:List PV} {id:Nat} {h:qT} {o:Oper}
theorem exec_call {a:Act} {f:Operand} {args:Array Operand} {Ts:Array TypeId} {g:Nat} {caps:Array Value} (ho:o.op=.call ⟨.value f,args,Ts⟩) (hf:a.eval f=.func (.func g) #[] caps):
  execOp a.eval o=callFunc g ((args.map a.eval)++caps):=by
 simp[execOp,ho,resolve,Deferred.ofValue,hf,invoke]
theorem pass_ok {m:List Nat}:∀ (vs:List PV) (j:Nat) (ps:Pass),passO h m j vs=some ps->PassOK h ps
 | [],j,ps,hp=>by
  simp[passO]at hp;subst hp
  exact⟨rfl,fun j b h=>by simp at h,.nil⟩
 | v::vs,j,ps,hp=>by
  simp only[passO]at hp
  split at hp
  case h_1=>cases hp
  rename_i r hr0
  have ih:=pass_ok vs (j+1) r hr0
  split at hp
  ·split at hp
   case h_2=>cases hp
   simp at hp;subst hp
   exact⟨ih.len,ih.at_,ih.nodup⟩
  ·split at hp
   ·split at hp
    case h_2=>cases hp
    rename_i k hk hcon
    split at hp
    case h_2=>cases hp
    rename_i hn
    simp at hp;subst hp
    exact ih.snoc hk hn hcon _ _
   ·split at hp
    case h_2=>cases hp
    rename_i k hk hcon
    split at hp
    case h_2=>cases hp
    rename_i hn
    simp at hp;subst hp
    exact ih.snoc hk hn hcon _ _
   ·simp at hp;subst hp
    exact⟨ih.len,ih.at_,ih.nodup⟩
   ·cases hp
theorem exec_invoke {P:Program} {w:World} {ρ:Operand->Value} {r:Operand} {name:String} {args:Array Operand} {Ts:Array TypeId} {T g:Nat} {x:Value} (ho:o.op=.call ⟨.invoke r name,args,Ts⟩) (hf:ρ r=.iface T x)
  (hm:methT P T name=some g):(execOp ρ o).run P w=(callFunc g (#[x]++args.map ρ)).run P w:=by
 unfold methT at hm
 split at hm
 case h_2=>cases hm
 rename_i i fs hi hu
 split at hm
 case h_2=>cases hm
 rename_i m hfind
 split at hm
 case h_2=>cases hm
 rename_i f hpath hfunc
 simp at hm;subst hm
 have hmeth:∀ n,(method (n+1) T x name).run P w=.ok (f,x) w:=by
  intro n
  simp[method,typeInfo,hi,hfind,hpath,follow,hfunc,receiverAt,underlying,hu,Place.get,go_sem]
 have hd:∀ n:Nat,n+Made.depth=(n+99)+1:=fun n=>rfl
 have he:(#[ρ r]++args.map ρ).extract 1 (#[ρ r]++args.map ρ).size=args.map ρ:=by
  apply Array.ext'
  simp[List.take_of_length_le]
 have:=hmeth (P.types.size+99)
 have h0:(#[ρ r]++args.map ρ)[0]? = some (ρ r):=by
  rw[Array.getElem?_append_left (by simp)];rfl
 have e1:(execOp ρ o).run P w=(invoke (.fn (.method name) #[]) (#[ρ r]++args.map ρ)).run P w:=by
  simp[execOp,ho,resolve]
 rw[e1]
 have e2:(invoke (.fn (.method name) #[]) (#[ρ r]++args.map ρ)).run P w=(callMethod (ρ r) name (args.map ρ)).run P w:=by
  unfold invoke
  simp only[h0,he]
 rw[e2,hf]
 generalize args.map ρ=vals0
 simp[callMethod,hd,this,go_sem]
theorem callee_ok {P:Program} {w:World} {S:Nat->Prop} {μ:Mu} {a:Act} {g:Nat} {ags:List PV} (hcal:callee P t o.op=some (g,ags)) (hr:∀ x,x∈o.op.operands->RepV w S μ (evO t x) (a.eval x)):
  ∃ xs,RepVL w S μ ags xs/\(execOp a.eval o).run P w=(callFunc g xs.toArray).run P w:=by
 unfold callee at hcal
 split at hcal
 case h_2=>cases hcal
 rename_i op c ho
 obtain⟨cal,args,Ts⟩:=c
 split at hcal
 case h_3=>cases hcal
 ·rename_i f hc
  simp only at hc
  subst hc
  split at hcal
  case h_2=>cases hcal
  rename_i g' caps hclo
  simp at hcal
  obtain⟨rfl,rfl⟩:=hcal
  have hrf:=hr f (by simp[ho,Op.operands,Call.operands])
  rw[hclo]at hrf
  obtain⟨xs,hxs,hfv⟩:=repV_clo hrf
  refine⟨args.toList.map a.eval++xs,repVL_append (repVL_map _ fun x hx=>hr x (by simp[ho,Op.operands,Call.operands];exact .inr (by simpa using hx))) hxs,?_⟩
  rw[exec_call ho hfv]
  have heq:Array.map a.eval args++xs.toArray=(List.map a.eval args.toList++xs).toArray:=by
   apply Array.ext';simp
  rw[heq]
 ·rename_i r name hc
  simp only at hc
  subst hc
  split at hcal
  case h_2=>cases hcal
  rename_i T v hifc
  split at hcal
  case h_2=>cases hcal
  rename_i g' hm
  simp at hcal
  obtain⟨rfl,rfl⟩:=hcal
  have hrf:=hr r (by simp[ho,Op.operands,Call.operands])
  rw[hifc]at hrf
  obtain⟨x,hx,hfv⟩:∃ x,RepV w S μ v x/\a.eval r=.iface T x:=by
   generalize a.eval r=y at hrf
   cases hrf with
   | cell _ _ _ _ h=>
    cases h with
    | ifc _ _ _ x hx=>exact⟨x,hx,rfl⟩
   | agg _ _ _ hv=>cases hv
  refine⟨x::args.toList.map a.eval,.cons _ _ _ _ _ hx (repVL_map _ fun x hx=>hr x (by simp[ho,Op.operands,Call.operands];exact .inr (by simpa using hx))),?_⟩
  rw[exec_invoke ho hfv hm]
  have heq : #[x]++Array.map a.eval args=(x::List.map a.eval args.toList).toArray:=by
   apply Array.ext';simp
  rw[heq]
theorem popO_ok (hG:GOk G) {O:Orc} (hO:OrcOK P G O) {wr:List (Nat × List Nat)} {own:Bool} {n:Nat} {K:Eff->Tr} {x:Res} (hp:(popO P O wr own t id h o.op n K).run=some x):
  ∃ e,OpOKG P G t id (hget h) o e/\EffOK (hget h) e/\(K e).run=some x:=by
 unfold popO at hp
 split at hp
 ·rename_i g ags hcal
  split at hp
  case h_1=>cases hp
  rename_i sp hsp
  split at hp
  case h_1=>cases hp
  rename_i ps hps
  simp only at hp
  split at hp
  case h_1=>cases hp
  rename_i hsee
  obtain⟨hpsok,hp⟩:=brO_run hp
  obtain⟨r,hs',hPC,hq⟩:=hO g sp hsp _ _ _ _ hp
  clear hp
  split at hq
  case h_1=>cases hq
  rename_i ws hz
  have hpok0:=pass_ok _ _ _ hps
  obtain⟨fl,hf⟩:∃ fl,((seen h ((assoc g wr).getD []) 0 ags).isEmpty||(flat 6 (unfr ps.blks.length r).1&&((unfr ps.blks.length r).2++hs').all (fun k=>flatC k.c)))=fl:=⟨_,rfl⟩
  rw[hf]at hq
  have eff:∀ v' nb,EffOK (hget h) (v',(match fl with|false=>ws++drp h (seen h ((assoc g wr).getD []) 0 ags)|true=>ws),nb):=by
   intro v' nb
   obtain⟨hz1,hz2,hz3⟩:=zipW_spec _ _ _ hz
   have in1:∀ b k,(b,k)∈ws->(∃ kb,hget h b=some kb)/\b∈ps.ids:=by
    intro b k hb
    obtain⟨j,k',h1,h2,h3⟩:=hz3 b k hb
    obtain⟨k2,_,h4,_⟩:=hpok0.at_ j b h1
    exact⟨⟨k2,h4⟩,List.mem_of_getElem? h1⟩
   have nd1:∀ b k k',(b,k)∈ws->(b,k')∈ws->k=k':=by
    intro b k k' hb hb'
    obtain⟨j,k1,h1,h2,h3⟩:=hz3 b k hb
    obtain⟨j',k1',h1',h2',h3'⟩:=hz3 b k' hb'
    have:=nodup_get hpok0.nodup h1 h1'
    subst this
    rw[h2]at h2';cases h2'
    rw[h3,h3']
   have sep1:∀ b,b∈ps.ids->b∈seen h ((assoc g wr).getD []) 0 ags->False:=by
    intro b h1 h2
    have:=List.all_eq_true.1 hsee b h1
    simp at this
    exact this h2
   cases fl with
   | true=>exact⟨fun b k hb=>(in1 b k hb).1,nd1⟩
   | false=>
    refine⟨fun b k hb => ?_,fun b k k' hb hb' => ?_⟩
    ·rcases List.mem_append.1 hb with hb|hb
     ·exact(in1 b k hb).1
     ·exact(drp_mem.1 hb).2.2
    ·rcases List.mem_append.1 hb with hb|hb<;>rcases List.mem_append.1 hb' with hb'|hb'
     ·exact nd1 b k k' hb hb'
     ·exact(sep1 b (in1 b k hb).2 (drp_mem.1 hb').2.1).elim
     ·exact(sep1 b (in1 b k' hb').2 (drp_mem.1 hb).2.1).elim
     ·rw[(drp_mem.1 hb).1,(drp_mem.1 hb').1]
  -- the operation
  have run:∀ (e:Eff),(∀ (w w':World) (S:Nat->Prop) (μ:Mu) (S':Nat->Prop) (μ':Mu) (v:Value),HRel w S μ (hget h)->PassOK h ps->(∀ j,j<e.2.2.length->μ (id+j)=none)->
    CPost w w' (fun n=>S n\/∃ b∈seen h ((assoc g wr).getD []) 0 ags,∃ k z,hget h b=some k/\μ b=some (n,z)) S' (muOf μ ps.ids) μ' ps.blks.length (unfr ps.blks.length r).1 hs' (unfr ps.blks.length r).2 v->
    ∃ S2 μ2,Post w w' S S2 μ μ2 id e v)->GOk G->OpOKG P G t id (hget h) o e:=by
   intro e hpost hG w S μ a K Q hGw hr hh hmu hK
   have hm:Mono w w S (fun n=>S n\/∃ b∈seen h ((assoc g wr).getD []) 0 ags,∃ k z,hget h b=some k/\μ b=some (n,z)):=⟨fun _ h=>.inl h,fun _ _ _=>rfl⟩
   obtain⟨xs,hall,hex⟩:=callee_ok hcal hr
   obtain⟨hpok,hargs⟩:=pass_rep (S2:=fun n=>S n\/∃ b∈seen h ((assoc g wr).getD []) 0 ags,∃ k z,hget h b=some k/\μ b=some (n,z))
    (fun _ h=>.inl h) hh _ 0 _ ps hps hpsok hall (fun b hb k a z hk hmu=>.inr ⟨b,hb,k,z,hk,hmu⟩)
   have hargs0:=hargs []
   rw[List.append_nil]at hargs0
   have hd:=hPC w _ (muOf μ ps.ids) _ (hG _ _ _ _ hm hGw) hargs0 (pass_hrel hh hpok hsee) (fun b hb=>by
    unfold muOf
    rw[List.getElem?_eq_none (by rw[<-hpok.len];exact hb)])
   unfold Oper.wp
   rw[hex]
   refine hd o a K Q fun v w' hv => ?_
   obtain⟨S',μ',hcp⟩:=hv
   obtain⟨S2,μ2,hpo⟩:=hpost w w' S μ S' μ' v hh hpok hmu hcp
   exact hK v w' S2 μ2 hpo
  split at hq
  ·split at hq
   case h_2=>cases hq
   rename_i v' hv'
   refine⟨(v',_,_),run _ (fun w w' S μ S' μ' v hh hpok hmu hcp => ?_) hG,?_,hq⟩
   ·exact(call_post fl hh hpok hcp hz hf).1 v' hv' hmu
   ·exact eff v' _
  ·split at hq
   case h_2=>cases hq
   rename_i v' hv'
   obtain⟨hdem,hq⟩:=brO_run hq
   refine⟨(v',_,[]),run _ (fun w w' S μ S' μ' v hh hpok hmu hcp => ?_) hG,?_,hq⟩
   ·exact(call_post (id:=id) fl hh hpok hcp hz hf).2 v' hdem hv'
   ·exact eff v' _
 ·split at hp
  ·cases hp
  ·rename_i e hpv
   have hhas:(popV P own t id h o.op).has e:=by rw[hpv];rfl
   exact⟨e,fun w S μ a K Q _=>popV_ok hhas w S μ a K Q,popV_eff hhas,hp⟩
  ·rename_i b e hpv
   cases b with
   | false=>cases hp
   | true=>
    have hhas:(popV P own t id h o.op).has e:=by rw[hpv];exact⟨rfl,rfl⟩
    exact⟨e,fun w S μ a K Q _=>popV_ok hhas w S μ a K Q,popV_eff hhas,hp⟩
end
end
section
open Go
def PEq (u v:PV):Prop:=∀ (w:World) (S:Nat->Prop) (μ:Mu) (x:Value),RepV w S μ u x↔RepV w S μ v x
theorem PEq.refl (u:PV):PEq u u:=fun _ _ _ _=>Iff.rfl
theorem PEq.trans {u v w:PV} (h:PEq u v) (h':PEq v w):PEq u w:=fun a b c d=>(h a b c d).trans (h' a b c d)
theorem PEq.symm {u v:PV} (h:PEq u v):PEq v u:=fun a b c d=>(h a b c d).symm
structure LEq (t t':List PV):Prop where
 len:t.length=t'.length
 at_:∀ k,PEq (t.getD k .any) (t'.getD k .any)
theorem LEq.refl (t:List PV):LEq t t:=⟨rfl,fun _=>.refl _⟩
theorem LEq.trans {t t' t2:List PV} (h:LEq t t') (h':LEq t' t2):LEq t t2:=⟨h.len.trans h'.len,fun k=>(h.at_ k).trans (h'.at_ k)⟩
theorem LEq.symm {t t':List PV} (h:LEq t t'):LEq t' t:=⟨h.len.symm,fun k=>(h.at_ k).symm⟩

theorem putT_length (t:List PV) (d:Option Nat) (v:PV):(putT t d v).length=t.length:=by cases d<;>simp[putT]
theorem putT_ne {t:List PV} {d:Option Nat} {v:PV} {k:Nat} (h:d≠some k):(putT t d v).getD k .any=t.getD k .any:=by
 cases d with
 | none=>rfl
 | some d=>
  have hne:d≠k:=fun e=>h (by rw[e])
  simp[putT,List.getD_eq_getElem?_getD,List.getElem?_set_ne hne]
theorem putT_eq {t:List PV} {v:PV} {k:Nat} (h:k<t.length):(putT t (some k) v).getD k .any=v:=by
 simp[putT,List.getD_eq_getElem?_getD,h]
theorem putT_ge {t:List PV} {v:PV} {k:Nat} (h:t.length<=k):(putT t (some k) v).getD k .any=.any:=by
 simp[putT,List.getD_eq_getElem?_getD,h]
theorem LEq.put {t t':List PV} (h:LEq t t') (d:Option Nat) (v:PV):LEq (putT t d v) (putT t' d v):=by
 refine⟨by rw[putT_length,putT_length,h.len],fun k => ?_⟩
 by_cases hd:d=some k
 ·subst hd
  by_cases hk:k<t.length
  ·rw[putT_eq hk,putT_eq (by rw[<-h.len];exact hk)];exact .refl _
  ·rw[putT_ge (by omega),putT_ge (by rw[<-h.len];omega)];exact .refl _
 ·rw[putT_ne hd,putT_ne hd];exact h.at_ k

structure RecP where
 o:Oper
 id:Nat
 e:Eff
 t:List PV
 hm:Nat->Option Blk
 u:Nat->Prop
 go:Bool
def RecP.T (r:RecP) (b:Nat):Prop:=(∃ k,(b,k)∈r.e.2.1)\/(r.id<=b/\b<r.id+r.e.2.2.length)
def boolOf:Value->Option Bool
 | .bool b=>some b
 | _=>none
def Wn (ops:Array Oper) (t:List PV) (o:Oper) (b:Bool):Prop:=
 match o.guard with
 | none=>b=true
 | some (j,w)=>∃ g,(ops[j]?).bind (·.dst)=some g/\∀ (w0:World) (S:Nat->Prop) (μ:Mu) (x:Value),RepV w0 S μ (t.getD g .any) x->(boolOf x==some w)=b
def Free (ops:Array Oper) (r' r:RecP):Prop:=
 Oper.apart ops r'.o r.o=true/\∀ b,(r'.T b->¬ r.u b)/\(r.T b->¬ r'.u b)/\(r.T b->¬ r'.T b)
structure StepOK (P:Program) (G:World->(Nat->Prop)->Prop) (ops:Array Oper) (i:Nat) (s:St) (r:RecP) (s':St):Prop where
 op:ops[i]? = some r.o
 teq:LEq r.t s.t
 id:r.id=s.h.length
 hle:∀ b k,r.hm b=some k->hget s.h b=some k/\r.u b
 act:(Wn ops r.t r.o true/\OpOKG P G r.t r.id r.hm r.o r.e/\EffOK r.hm r.e)\/(Wn ops r.t r.o false/\r.e=(.und,[],[]))
 t':s'.t=putT r.t r.o.dst r.e.1
 hlen:s'.h.length=s.h.length+r.e.2.2.length
 hget:∀ b,PE.hget s'.h b=effH (PE.hget s.h) r.id r.e b
def At:List RecP->Nat->RecP->Prop
 | [],_,_=>False
 | r::rs,i,r'=>(i=rs.length/\r'=r)\/At rs i r'
theorem At.lt {rs:List RecP} {i:Nat} {r:RecP} (h:At rs i r):i<rs.length:=by
 induction rs with
 | nil=>cases h
 | cons x rs ih=>
  rcases h with ⟨rfl,_⟩|h
  ·simp
  ·have:=ih h;simp;omega
theorem At.ex {rs:List RecP} {i:Nat} (h:i<rs.length):∃ r,At rs i r:=by
 induction rs with
 | nil=>cases h
 | cons x rs ih=>
  by_cases hi:i=rs.length
  ·exact⟨x,.inl ⟨hi,rfl⟩⟩
  ·obtain⟨r,hr⟩:=ih (by simp at h;omega)
   exact⟨r,.inr hr⟩
inductive RunOK (P:Program) (G:World->(Nat->Prop)->Prop) (ops:Array Oper) (ord:Nat->Nat->Prop) (s0:St):List RecP->St->Prop
 | nil:RunOK P G ops ord s0 [] s0
 | cons (rs:List RecP) (s:St) (r:RecP) (s':St) (h:RunOK P G ops ord s0 rs s) (hs:StepOK P G ops rs.length s r s')
   (hf:∀ j r',At rs j r'->ord j rs.length\/Free ops r' r):RunOK P G ops ord s0 (r::rs) s'

def tX (t0:List PV) (X:Nat->Bool):List RecP->List PV
 | []=>t0
 | r::rs=>match X rs.length with
  | true=>putT (tX t0 X rs) r.o.dst r.e.1
  | false=>tX t0 X rs
def hX (h0:Nat->Option Blk) (X:Nat->Bool):List RecP->Nat->Option Blk
 | []=>h0
 | r::rs=>fun b=>match X rs.length with
  | true=>effH (hX h0 X rs) r.id r.e b
  | false=>hX h0 X rs b
def setX (X:Nat->Bool) (i:Nat):Nat->Bool:=fun j=>X j||Nat.beq j i
theorem setX_eq (X:Nat->Bool) (i:Nat):setX X i i=true:=by simp[setX]
theorem setX_ne {X:Nat->Bool} {i j:Nat} (h:j≠i):setX X i j=X j:=by
 have:Nat.beq j i=false:=by cases hb:Nat.beq j i with|false=>rfl|true=>exact absurd (Nat.eq_of_beq_eq_true hb) h
 simp[setX,this]

theorem effH_at {hf hf':Nat->Option Blk} {id:Nat} {e:Eff} {b:Nat} (h:hf b=hf' b):effH hf id e b=effH hf' id e b:=by
 simp only[effH,h]
theorem wlook_none {ws:Ws} {b:Nat} (h:∀ k,(b,k) ∉ ws):wlook ws b=none:=by
 cases hw:wlook ws b with
 | none=>rfl
 | some k=>exact absurd (wlook_mem hw) (h k)
theorem effH_free {hf:Nat->Option Blk} {r:RecP} {b:Nat} (h:¬ r.T b):effH hf r.id r.e b=hf b:=by
 have h1:wlook r.e.2.1 b=none:=wlook_none fun k hk=>h (.inl ⟨k,hk⟩)
 have h2:¬ (r.id<=b/\b<r.id+r.e.2.2.length):=fun hh=>h (.inr hh)
 simp only[effH,h1,h2,if_false]
theorem effH_touch {hf hf':Nat->Option Blk} {r:RecP} {b:Nat} (h:r.T b):effH hf r.id r.e b=effH hf' r.id r.e b:=by
 simp only[effH]
 rcases h with ⟨k,hk⟩|hr
 ·obtain⟨k',hk'⟩:=wlook_some hk
  simp[hk']
 ·split
  ·rfl
  ·simp[hr]

section
variable {t0:List PV} {h0:Nat->Option Blk} {X Y:Nat->Bool} {rs:List RecP}
theorem tX_length:(tX t0 X rs).length=t0.length:=by
 induction rs with
 | nil=>rfl
 | cons r rs ih=>
  simp only[tX]
  split
  ·rw[putT_length,ih]
  ·exact ih
theorem tX_ext (h:∀ j,j<rs.length->X j=Y j):tX t0 X rs=tX t0 Y rs:=by
 induction rs with
 | nil=>rfl
 | cons r rs ih=>
  simp only[tX]
  rw[h rs.length (by simp),ih fun j hj=>h j (by simp;omega)]
theorem hX_ext (h:∀ j,j<rs.length->X j=Y j) (b:Nat):hX h0 X rs b=hX h0 Y rs b:=by
 induction rs with
 | nil=>rfl
 | cons r rs ih=>
  have ih':=ih fun j hj=>h j (by simp;omega)
  simp only[hX]
  rw[h rs.length (by simp)]
  split
  ·exact effH_at ih'
  ·exact ih'
theorem tX_at {k:Nat} (h:∀ j r',At rs j r'->r'.o.dst=some k->X j=Y j):(tX t0 X rs).getD k .any=(tX t0 Y rs).getD k .any:=by
 induction rs with
 | nil=>rfl
 | cons r rs ih=>
  have ih':=ih fun j r' hj=>h j r' (.inr hj)
  simp only[tX]
  by_cases hd:r.o.dst=some k
  ·rw[h rs.length r (.inl ⟨rfl,rfl⟩) hd,hd]
   split
   ·by_cases hk:k<t0.length
    ·rw[putT_eq (by rw[tX_length];exact hk),putT_eq (by rw[tX_length];exact hk)]
    ·rw[putT_ge (by rw[tX_length];omega),putT_ge (by rw[tX_length];omega)]
   ·exact ih'
  ·split<;>split<;>simp only[putT_ne hd,ih']
theorem hX_at {b:Nat} (h:∀ j r',At rs j r'->r'.T b->X j=Y j):hX h0 X rs b=hX h0 Y rs b:=by
 induction rs with
 | nil=>rfl
 | cons r rs ih=>
  have ih':=ih fun j r' hj=>h j r' (.inr hj)
  simp only[hX]
  by_cases hd:r.T b
  ·rw[h rs.length r (.inl ⟨rfl,rfl⟩) hd]
   split
   ·exact effH_at ih'
   ·exact ih'
  ·split<;>split<;>simp only[effH_free hd,ih']
theorem hX_none {b:Nat} (h:∀ j r',At rs j r'->X j=true->¬ r'.T b):hX h0 X rs b=h0 b:=by
 induction rs with
 | nil=>rfl
 | cons r rs ih=>
  have ih':=ih fun j r' hj=>h j r' (.inr hj)
  simp only[hX]
  split
  ·rename_i hx
   rw[effH_free (h rs.length r (.inl ⟨rfl,rfl⟩) hx)];exact ih'
  ·exact ih'
theorem tX_add {i:Nat} {r:RecP} (hr:At rs i r) (hi:X i=false) (h:∀ j r',At rs j r'->i<j->X j=true->∀ d,r.o.dst=some d->r'.o.dst≠some d):
  tX t0 (setX X i) rs=putT (tX t0 X rs) r.o.dst r.e.1:=by
 induction rs with
 | nil=>cases hr
 | cons x rs ih=>
  simp only[tX]
  rcases hr with ⟨h1,h2⟩|hr
  ·subst h1;subst h2
   rw[setX_eq,hi]
   simp only
   rw[tX_ext (X:=setX X rs.length) (Y:=X) fun j hj=>setX_ne (by omega)]
  ·have hlt:=hr.lt
   rw[setX_ne (by omega),ih hr fun j r' hj=>h j r' (.inr hj)]
   split
   ·rename_i hx
    have:=h rs.length x (.inl ⟨rfl,rfl⟩) hlt hx
    cases hd:r.o.dst with
    | none=>rfl
    | some d=>
     cases hd':x.o.dst with
     | none=>rfl
     | some d'=>
      have hne:d≠d':=fun e=>this d hd (by rw[hd',e])
      simp only[putT]
      exact List.set_comm _ _ hne
   ·rfl
theorem hX_add {i:Nat} {r:RecP} (hr:At rs i r) (hi:X i=false) (b:Nat) (h:∀ j r',At rs j r'->i<j->X j=true->r'.T b->¬ r.T b):
  hX h0 (setX X i) rs b=effH (hX h0 X rs) r.id r.e b:=by
 induction rs with
 | nil=>cases hr
 | cons x rs ih=>
  rcases hr with ⟨h1,h2⟩|hr
  ·subst h1;subst h2
   simp only[hX]
   rw[setX_eq]
   simp only
   refine effH_at ?_
   rw[hX_ext (X:=setX X rs.length) (Y:=X) fun j hj=>setX_ne (by omega)]
   simp only[hi]
  ·have hlt:=hr.lt
   have ih':=ih hr fun j r' hj=>h j r' (.inr hj)
   by_cases hx:X rs.length=true
   ·have h1:=h rs.length x (.inl ⟨rfl,rfl⟩) hlt hx
    by_cases hT:x.T b
    ·rw[effH_free (h1 hT)]
     simp only[hX]
     rw[setX_ne (by omega),hx]
     exact effH_touch hT
    ·simp only[hX]
     rw[setX_ne (by omega),hx]
     simp only
     rw[effH_free hT,ih']
     refine effH_at ?_
     simp[effH_free hT]
   ·have hx':X rs.length=false:=by simpa using hx
    simp only[hX]
    rw[setX_ne (by omega),hx']
    simp only
    rw[ih']
end
section
variable {P:Program} {G:World->(Nat->Prop)->Prop} {ops:Array Oper} {ord:Nat->Nat->Prop} {s0 sN:St} {rs:List RecP}
theorem RunOK.all (h:RunOK P G ops ord s0 rs sN):LEq (tX s0.t (fun _=>true) rs) sN.t/\∀ b,hX (hget s0.h) (fun _=>true) rs b=hget sN.h b:=by
 induction h with
 | nil=>exact⟨.refl _,fun _=>rfl⟩
 | cons rs s r s' h hs hf ih=>
  refine⟨?_,fun b => ?_⟩
  ·simp only[tX]
   rw[hs.t']
   exact(ih.1.trans hs.teq.symm).put _ _
  ·simp only[hX]
   rw[hs.hget]
   exact effH_at (ih.2 b)
theorem RunOK.len (h:RunOK P G ops ord s0 rs sN):s0.h.length<=sN.h.length:=by
 induction h with
 | nil=>exact Nat.le_refl _
 | cons rs s r s' h hs hf ih=>rw[hs.hlen];omega
theorem RunOK.step (h:RunOK P G ops ord s0 rs sN) {i:Nat} {r:RecP} (hr:At rs i r):∃ rs' s s',RunOK P G ops ord s0 rs' s/\StepOK P G ops i s r s'/\rs'.length=i/\
  (∀ j r',At rs j r'->j<i->At rs' j r')/\r.id+r.e.2.2.length<=sN.h.length:=by
 induction h with
 | nil=>cases hr
 | cons rs s x s' h hs hf ih=>
  rcases hr with ⟨h1,h2⟩|hr
  ·subst h1;subst h2
   refine⟨rs,s,s',h,hs,rfl,fun j r' hj hlt => ?_,by rw[hs.hlen,hs.id];exact Nat.le_refl _⟩
   rcases hj with ⟨h3,_⟩|hj
   ·omega
   ·exact hj
  ·obtain⟨rs',s1,s1',h1,h2,h3,h4,h5⟩:=ih hr
   refine⟨rs',s1,s1',h1,h2,h3,fun j r' hj hlt => ?_,by rw[hs.hlen];omega⟩
   rcases hj with ⟨h6,_⟩|hj
   ·have:=hr.lt;omega
   ·exact h4 j r' hj hlt
theorem RunOK.pair (h:RunOK P G ops ord s0 rs sN) {i j:Nat} {r r':RecP} (hj:At rs j r') (hi:At rs i r) (hlt:j<i):(ord j i\/Free ops r' r)/\r'.id+r'.e.2.2.length<=r.id:=by
 induction h with
 | nil=>cases hi
 | cons rs s x s' h hs hf ih=>
  rcases hi with ⟨h1,h2⟩|hi
  ·subst h1;subst h2
   rcases hj with ⟨h3,_⟩|hj
   ·omega
   ·obtain⟨_,_,_,_,_,_,_,h5⟩:=h.step hj
    exact⟨hf j r' hj,by rw[hs.id];exact h5⟩
  ·rcases hj with ⟨h3,_⟩|hj
   ·have:=hi.lt;omega
   ·exact ih hj hi
theorem RunOK.temps (h:RunOK P G ops ord s0 rs sN) {i:Nat} {r:RecP} (hr:At rs i r) {X:Nat->Bool} {k:Nat}
  (hX:∀ j r',At rs j r'->r'.o.dst=some k->X j=decide (j<i)):PEq ((tX s0.t X rs).getD k .any) (r.t.getD k .any):=by
 induction h with
 | nil=>cases hr
 | cons rs s x s' h hs hf ih=>
  have skip:x.o.dst≠some k\/X rs.length=decide (rs.length<i):=by
   by_cases hd:x.o.dst=some k
   ·exact .inr (hX _ _ (.inl ⟨rfl,rfl⟩) hd)
   ·exact .inl hd
  have hlt:i<=rs.length:=by
   rcases hr with ⟨h1,_⟩|hr
   ·omega
   ·have:=hr.lt;omega
  have hsame:(tX s0.t X (x::rs)).getD k .any=(tX s0.t X rs).getD k .any:=by
   simp only[tX]
   split
   ·rename_i hx
    rcases skip with h1|h1
    ·exact putT_ne h1
    ·rw[hx]at h1
     simp at h1
     omega
   ·rfl
  rw[hsame]
  rcases hr with ⟨h1,h2⟩|hr
  ·subst h1;subst h2
   have:(tX s0.t X rs).getD k .any=(tX s0.t (fun _=>true) rs).getD k .any:=tX_at fun j r' hj hd=>by
    rw[hX j r' (.inr hj) hd];simp[hj.lt]
   rw[this]
   exact(h.all.1.at_ k).trans (hs.teq.symm.at_ k)
  ·exact ih hr fun j r' hj hd=>hX j r' (.inr hj) hd
theorem RunOK.heap (h:RunOK P G ops ord s0 rs sN) {i:Nat} {r:RecP} (hr:At rs i r) {X:Nat->Bool} {b:Nat} {k:Blk} (hb:r.hm b=some k)
  (hX':∀ j r',At rs j r'->r'.T b->X j=decide (j<i)):hX (hget s0.h) X rs b=some k:=by
 induction h with
 | nil=>cases hr
 | cons rs s x s' h hs hf ih=>
  have skip:¬ x.T b\/X rs.length=decide (rs.length<i):=by
   by_cases hd:x.T b
   ·exact .inr (hX' _ _ (.inl ⟨rfl,rfl⟩) hd)
   ·exact .inl hd
  have hlt:i<=rs.length:=by
   rcases hr with ⟨h1,_⟩|hr
   ·omega
   ·have:=hr.lt;omega
  have hsame:hX (hget s0.h) X (x::rs) b=hX (hget s0.h) X rs b:=by
   simp only[hX]
   split
   ·rename_i hx
    rcases skip with h1|h1
    ·exact effH_free h1
    ·rw[hx]at h1
     simp at h1
     omega
   ·rfl
  rw[hsame]
  rcases hr with ⟨h1,h2⟩|hr
  ·subst h1;subst h2
   have:hX (hget s0.h) X rs b=hX (hget s0.h) (fun _=>true) rs b:=hX_at fun j r' hj hd=>by
    rw[hX' j r' (.inr hj) hd];simp[hj.lt]
   rw[this,h.all.2 b]
   exact(hs.hle b k hb).1
  ·exact ih hr fun j r' hj hd=>hX' j r' (.inr hj) hd
end
end
section
open Go
structure Link (w0:World) (S0:Nat->Prop) (μ0:Mu) (m:Nat) (w:World) (S:Nat->Prop) (μ:Mu) (hf:Nat->Option Blk):Prop where
 os:w.os=w0.os
 tape:w.tape=w0.tape
 output:w.output=w0.output
 size:w0.heap.size<=w.heap.size
 old:∀ n,n<w0.heap.size->(∀ b z,b<m->μ0 b≠some (n,z))->w.heap[n]? = w0.heap[n]?
 subS:∀ n,S0 n->S n
 newS:∀ n,S n->S0 n\/w0.heap.size<=n\/∃ b z,b<m/\μ0 b=some (n,z)
 mu:∀ b,b<m->μ b=μ0 b
 place:∀ b k a z,hf b=some k->μ b=some (a,z)->w0.heap.size<=a\/∃ b0 z',b0<m/\μ0 b0=some (a,z')
structure Env where
 w0:World
 S0:Nat->Prop
 μ0:Mu
 m:Nat
structure InvAt (G:World->(Nat->Prop)->Prop) (E:Env) (t:List PV) (hf:Nat->Option Blk) (free:Nat->Prop) (a:Act) (w:World) (S:Nat->Prop) (μ:Mu):Prop where
 g:G w S
 defers:a.defers=[]
 len:t.length=a.tmps.size
 rep:∀ k,RepV w S μ (t.getD k .any) (a.tmps.getD k undef)
 hrel:HRel w S μ hf
 free:∀ b,free b->μ b=none
 link:Link E.w0 E.S0 E.μ0 E.m w S μ hf
def Inv (G:World->(Nat->Prop)->Prop) (E:Env) (t:List PV) (hf:Nat->Option Blk) (free:Nat->Prop) (a:Act) (w:World):Prop:=∃ S μ,InvAt G E t hf free a w S μ
def SInv (G:World->(Nat->Prop)->Prop) (E:Env) (s:St):Act->World->Prop:=Inv G E s.t (hget s.h) (fun b=>s.h.length<=b)

section
variable {P:Program} {G:World->(Nat->Prop)->Prop} {E:Env} {w w':World} {S S':Nat->Prop} {μ μ':Mu} {id:Nat} {e:Eff} {v:Value} {hf:Nat->Option Blk} {t:List PV} {free:Nat->Prop} {a:Act}
theorem Link.post (hk:Link E.w0 E.S0 E.μ0 E.m w S μ hf) (p:Post w w' S S' μ μ' id e v) (hl:∀ b k,(b,k)∈e.2.1->∃ kb,hf b=some kb) (hm:E.m<=id) (hn:∀ j,j<e.2.2.length->hf (id+j)=none):
  Link E.w0 E.S0 E.μ0 E.m w' S' μ' (effH hf id e):=by
 refine⟨p.os.trans hk.os,p.tape.trans hk.tape,p.output.trans hk.output,Nat.le_trans hk.size p.size,fun n hn hno => ?_,fun n hn=>p.subS n (hk.subS n hn),fun n hn => ?_,fun b hb => ?_,fun b k a z hb hmu => ?_⟩
 ·rw[p.old n (by have:=hk.size;omega) fun b k z hbk hmu => ?_]
  ·exact hk.old n hn hno
  ·obtain⟨kb,hkb⟩:=hl b k hbk
   rcases hk.place b kb n z hkb hmu with h|⟨b0,z',h1,h2⟩
   ·omega
   ·exact hno b0 z' h1 h2
 ·rcases p.newS n hn with h|h|⟨c,zc,hc,hmuc⟩
  ·exact hk.newS n h
  ·exact .inr (.inl (Nat.le_trans hk.size h.1))
  ·obtain⟨kc,hkc⟩:=hl c _ hc
   exact .inr (hk.place c kc n zc hkc hmuc)
 ·rw[p.mu b (.inl (by omega))];exact hk.mu b hb
 ·have live:∀ kb,hf b=some kb->¬ (id<=b/\b<id+e.2.2.length)->E.w0.heap.size<=a\/∃ b0 z',b0<E.m/\E.μ0 b0=some (a,z'):=by
   intro kb hkb hr
   rw[p.mu b (by omega)]at hmu
   exact hk.place b kb a z hkb hmu
  simp only[effH]at hb
  split at hb
  ·rename_i k' hk'
   obtain⟨kb,hkb⟩:=hl b _ (wlook_mem hk')
   refine live kb hkb fun hr => ?_
   have:=hn (b-id) (by omega)
   rw[show id+(b-id)=b by omega,hkb]at this;cases this
  ·split at hb
   ·rename_i hr
    obtain⟨a',z',h1,_,_,h2⟩:=p.nw _ _ hb
    rw[show id+(b-id)=b by omega]at h1
    have:=hmu.symm.trans h1;cases this
    rcases h2 with h2|⟨c,z2,h3,h4⟩
    ·exact .inl (Nat.le_trans hk.size h2)
    ·obtain⟨kc,hkc⟩:=hl c _ h3
     exact hk.place c kc a z2 hkc h4
   ·rename_i hr
    exact live k hb hr
theorem put_getD (a:Act) (dst:Option Nat) (v:Value) (k:Nat):(a.put dst v).tmps.getD k undef=if dst=some k/\k<a.tmps.size then v else a.tmps.getD k undef:=by
 cases dst with
 | none=>simp[Act.put]
 | some d=>
  simp only[Act.put,Array.getD_eq_getD_getElem?,Array.getElem?_setIfInBounds]
  by_cases hd:d=k
  ·subst hd
   by_cases hk:d<a.tmps.size
   ·simp[hk]
   ·simp[hk]
  ·simp[hd]
theorem put_size (a:Act) (dst:Option Nat) (v:Value):(a.put dst v).tmps.size=a.tmps.size:=by cases dst<;>simp[Act.put]
theorem put_defers (a:Act) (dst:Option Nat) (v:Value):(a.put dst v).defers=a.defers:=by cases dst<;>simp[Act.put]
theorem InvAt.post (hG:GOk G) (hi:InvAt G E t hf free a w S μ) (p:Post w w' S S' μ μ' id e v) (hl:∀ b k,(b,k)∈e.2.1->∃ kb,hf b=some kb)
  (hnd:∀ b k k',(b,k)∈e.2.1->(b,k')∈e.2.1->k=k') (hm:E.m<=id) (hfr:∀ j,j<e.2.2.length->free (id+j)) (hn:∀ j,j<e.2.2.length->hf (id+j)=none) (dst:Option Nat):
  InvAt G E (putT t dst e.1) (effH hf id e) (fun b=>free b/\¬ (id<=b/\b<id+e.2.2.length)) (a.put dst v) w' S' μ':=by
 have hmono:=p.mono hi.hrel hl
 have hle:=p.muLe fun j hj=>hi.free _ (hfr j hj)
 refine⟨hG _ _ _ _ hmono hi.g,by rw[put_defers,hi.defers],by rw[putT_length,put_size,hi.len],fun k => ?_,
  p.hrel hi.hrel hl hnd (fun j hj=>hi.free _ (hfr j hj)) hn,fun b hb => ?_,hi.link.post p hl hm hn⟩
 ·rw[put_getD]
  by_cases hd:dst=some k
  ·subst hd
   by_cases hk:k<t.length
   ·rw[putT_eq hk,if_pos ⟨rfl,by rw[<-hi.len];exact hk⟩];exact p.rep
   ·rw[putT_ge (by omega)];exact .any _ _
  ·rw[putT_ne hd,if_neg fun h=>hd h.1]
   exact(hi.rep k).mono hmono hle
 ·rw[p.mu b (by omega)];exact hi.free b hb.1
end
def XInv (G:World->(Nat->Prop)->Prop) (E:Env) (s0:St) (rs:List RecP) (X:Nat->Bool):Act->World->Prop:=
 Inv G E (tX s0.t X rs) (hX (hget s0.h) X rs) (fun b=>s0.h.length<=b/\∀ i r,At rs i r->X i=true->¬ (r.id<=b/\b<r.id+r.e.2.2.length))

section
variable {P:Program} {G:World->(Nat->Prop)->Prop} {E:Env} {ops:Array Oper} {ord:Nat->Nat->Prop} {s0 sN:St} {rs:List RecP}
theorem looks_op {ops:Array Oper} {o:Oper} {k:Nat} (h:Operand.tmp k∈o.op.operands):k∈o.looksAt ops:=by
 unfold Oper.looksAt
 refine List.mem_append.2 (.inl (List.mem_filterMap.2 ⟨_,by simpa using h,rfl⟩))
theorem looks_guard {ops:Array Oper} {o:Oper} {j g:Nat} {w:Bool} (h:o.guard=some (j,w)) (hg:(ops[j]?).bind (·.dst)=some g):g∈o.looksAt ops:=by
 unfold Oper.looksAt
 refine List.mem_append.2 (.inr ?_)
 simp[h,hg]
theorem step_any (hG:GOk G) (h:RunOK P G ops ord s0 rs sN) {i:Nat} {r:RecP} (hr:At rs i r) {X:Nat->Bool} (hi:X i=false) (hm:E.m<=s0.h.length)
  (hc:∀ j,j<i->ord j i->X j=true) (hc2:∀ j,i<j->ord i j->X j=false) {a:Act} {w:World} {Q:Exit->Act->World->Prop} (inv:XInv G E s0 rs X a w):
  wpOp P ops Q i (XInv G E s0 rs (setX X i)) a w:=by
 obtain⟨rs',s,s',hrun',hs,hlen',hat',hend⟩:=h.step hr
 obtain⟨S,μ,iv⟩:=inv
 have hid:s0.h.length<=r.id:=by rw[hs.id];exact hrun'.len
 -- who else may touch what this one looks at
 have agreeT:∀ k,k∈r.o.looksAt ops->∀ j r',At rs j r'->r'.o.dst=some k->X j=decide (j<i):=by
  intro k hk j r' hj hd
  rcases Nat.lt_trichotomy j i with hlt|heq|hgt
  ·rcases(h.pair hj hr hlt).1 with ho|hf
   ·rw[hc j hlt ho];simp[hlt]
   ·exact absurd hk ((Oper.apart_spec hf.1).1 k hd)
  ·subst heq;rw[hi];simp
  ·rcases(h.pair hr hj hgt).1 with ho|hf
   ·rw[hc2 j hgt ho];simp;omega
   ·exact absurd hk ((Oper.apart_spec hf.1).2.2 k hd)
 have agreeH:∀ b k,r.hm b=some k->hX (hget s0.h) X rs b=some k:=by
  intro b k hb
  refine h.heap hr hb fun j r' hj hT => ?_
  have hu:=(hs.hle b k hb).2
  rcases Nat.lt_trichotomy j i with hlt|heq|hgt
  ·rcases(h.pair hj hr hlt).1 with ho|hf
   ·rw[hc j hlt ho];simp[hlt]
   ·exact absurd hu ((hf.2 b).1 hT)
  ·subst heq;rw[hi];simp
  ·rcases(h.pair hr hj hgt).1 with ho|hf
   ·rw[hc2 j hgt ho];simp;omega
   ·exact absurd hu ((hf.2 b).2.1 hT)
 have later:∀ j r',At rs j r'->i<j->X j=true->Free ops r r':=by
  intro j r' hj hgt hX
  rcases(h.pair hr hj hgt).1 with ho|hf
  ·rw[hc2 j hgt ho]at hX;cases hX
  ·exact hf
 have hrep:∀ k,k∈r.o.looksAt ops->RepV w S μ (r.t.getD k .any) (a.tmps.getD k undef):=fun k hk=>(h.temps hr (agreeT k hk) w S μ _).1 (iv.rep k)
 have hadd:tX s0.t (setX X i) rs=putT (tX s0.t X rs) r.o.dst r.e.1:=tX_add hr hi fun j r' hj hgt hX d hd=>
  (Oper.apart_spec (later j r' hj hgt hX).1).2.1 d hd
 have hWlt:∀ b k,(b,k)∈r.e.2.1->(∃ kb,r.hm b=some kb)/\b<r.id:=by
  intro b k hb
  rcases hs.act with ⟨_,_,hE⟩|⟨_,he⟩
  ·obtain⟨kb,hkb⟩:=hE.hl b k hb
   exact⟨⟨kb,hkb⟩,by rw[hs.id];exact hget_lt (hs.hle b kb hkb).1⟩
  ·rw[he]at hb;cases hb
 have hnd:∀ b k k',(b,k)∈r.e.2.1->(b,k')∈r.e.2.1->k=k':=by
  rcases hs.act with ⟨_,_,hE⟩|⟨_,he⟩
  ·exact hE.hnd
  ·intro b k k' hb;rw[he]at hb;cases hb
 have hadd2:hX (hget s0.h) (setX X i) rs=effH (hX (hget s0.h) X rs) r.id r.e:=funext fun b=>hX_add hr hi b fun j r' hj hgt hX hT hT'=>
  ((later j r' hj hgt hX).2 b).2.2 hT hT'
 have notouch:∀ j,j<r.e.2.2.length->∀ j' r',At rs j' r'->X j'=true->¬ r'.T (r.id+j):=by
  intro j hj j' r' hj' hX hT
  rcases Nat.lt_trichotomy j' i with hlt|heq|hgt
  ·have hp:=(h.pair hj' hr hlt).2
   obtain⟨_,s1,s1',hrun1,hs1,_⟩:=h.step hj'
   rcases hT with ⟨k,hk⟩|⟨h1,h2⟩
   ·rcases hs1.act with ⟨_,_,hE⟩|⟨_,he⟩
    ·obtain⟨kb,hkb⟩:=hE.hl _ k hk
     have:=hget_lt (hs1.hle _ kb hkb).1
     rw[<-hs1.id]at this;omega
    ·rw[he]at hk;cases hk
   ·omega
  ·subst heq;rw[hi]at hX;cases hX
  ·exact((later j' r' hj' hgt hX).2 _).2.2 hT (.inr ⟨by omega,by omega⟩)
 have hfr:∀ j,j<r.e.2.2.length->s0.h.length<=r.id+j/\∀ i' r',At rs i' r'->X i'=true->¬ (r'.id<=r.id+j/\r.id+j<r'.id+r'.e.2.2.length):=
  fun j hj=>⟨by omega,fun i' r' hi' hX hr'=>notouch j hj i' r' hi' hX (.inr hr')⟩
 have hnone:∀ j,j<r.e.2.2.length->hX (hget s0.h) X rs (r.id+j)=none:=by
  intro j hj
  rw[hX_none (notouch j hj)]
  unfold hget
  rw[List.getElem?_eq_none (by omega)]
 have fin:∀ v w' S' μ',Post w w' S S' μ μ' r.id r.e v->XInv G E s0 rs (setX X i) (a.put r.o.dst v) w':=by
  intro v w' S' μ' p
  have hnew:=iv.post hG p (fun b k hb=>by
   obtain⟨⟨kb,hkb⟩,_⟩:=hWlt b k hb
   exact⟨kb,agreeH b kb hkb⟩) hnd (Nat.le_trans hm hid) hfr hnone r.o.dst
  refine⟨S',μ',?_⟩
  rw[hadd,hadd2]
  refine⟨hnew.g,hnew.defers,hnew.len,hnew.rep,hnew.hrel,fun b hb=>hnew.free b ⟨⟨hb.1,fun i' r' hi' hX=>hb.2 i' r' hi' ?_⟩,hb.2 i r hr (setX_eq X i)⟩,hnew.link⟩
  by_cases he:i'=i
  ·subst he;exact setX_eq X i'
  ·rw[setX_ne he];exact hX
 have hwant:∀ b,Wn ops r.t r.o b->Region.wanted r.o (yielded ops a.tmps)=b:=by
  intro b hb
  unfold Wn at hb
  unfold Region.wanted
  split at hb
  ·rename_i hg;rw[hg];exact hb.symm
  ·rename_i j w1 hg
   rw[hg]
   obtain⟨g,h1,h2⟩:=hb
   have h3:=h2 w S μ _ (hrep g (looks_guard hg h1))
   simp only
   rw[<-h3]
   unfold yielded
   rw[h1]
   simp only[Option.bind_some,Array.getD_eq_getD_getElem?]
   cases hx:a.tmps[g]? with
   | none=>simp[boolOf,undef]
   | some x=>cases x<;>rfl
 unfold wpOp
 rw[hs.op]
 simp only
 rcases hs.act with ⟨hw,hop,hE⟩|⟨hw,he⟩
 ·rw[hwant true hw]
  simp only[if_true]
  refine .inl (hop w S μ a _ Q iv.g (fun x hx => ?_) ⟨fun b k hb=>iv.hrel.blk b k (agreeH b k hb),fun b k a z hb=>iv.hrel.sep b k a z (agreeH b k hb),
   fun b b' k k' a z z' hb hb'=>iv.hrel.inj b b' k k' a z z' (agreeH b k hb) (agreeH b' k' hb'),iv.hrel.lt⟩ (fun j hj=>iv.free _ (hfr j hj)) fin)
  cases x with
  | tmp k=>exact hrep k (looks_op hx)
  | const v=>exact repV_ofVal v
  | global g=>exact .any _ _
  | func f=>exact .cell _ _ _ rfl (.clo _ f [] [] (.nil _))
 ·rw[hwant false hw]
  simp only[Bool.false_eq_true,if_false]
  exact fin undef w S μ (by rw[he];exact Post.same (.und _))
theorem XInv.none {a:Act} {w:World} (h:SInv G E s0 a w):XInv G E s0 rs (fun _=>false) a w:=by
 obtain⟨S,μ,iv⟩:=h
 have h1:∀ rs,tX s0.t (fun _=>false) rs=s0.t:=by
  intro rs;induction rs with
  | nil=>rfl
  | cons r rs ih=>simp only[tX];exact ih
 have h2:∀ rs,hX (hget s0.h) (fun _=>false) rs=hget s0.h:=by
  intro rs;induction rs with
  | nil=>rfl
  | cons r rs ih=>funext b;simp only[hX];rw[ih]
 refine⟨S,μ,?_⟩
 rw[h1,h2]
 exact⟨iv.g,iv.defers,iv.len,iv.rep,iv.hrel,fun b hb=>iv.free b hb.1,iv.link⟩
theorem XInv.all (h:RunOK P G ops ord s0 rs sN) {X:Nat->Bool} (hX':∀ j,j<rs.length->X j=true) {a:Act} {w:World} (hx:XInv G E s0 rs X a w):SInv G E sN a w:=by
 obtain⟨S,μ,iv⟩:=hx
 have h1:LEq (tX s0.t X rs) sN.t:=by rw[tX_ext (Y:=fun _=>true) hX'];exact h.all.1
 have h2:hX (hget s0.h) X rs=hget sN.h:=funext fun b=>by rw[hX_ext (Y:=fun _=>true) hX'];exact h.all.2 b
 rw[h2]at iv
 refine⟨S,μ,iv.g,iv.defers,by rw[<-h1.len];exact iv.len,fun k=>(h1.at_ k w S μ _).1 (iv.rep k),iv.hrel,fun b hb=>iv.free b ⟨Nat.le_trans h.len hb,fun i r hr _ hh => ?_⟩,iv.link⟩
 obtain⟨_,_,_,_,_,_,_,h5⟩:=h.step hr
 have hb':sN.h.length<=b:=hb
 omega
theorem run_seq (hG:GOk G) (h:RunOK P G ops (fun _ _=>True) s0 rs sN) (hn:rs.length=ops.size) (hm:E.m<=s0.h.length) {Q:Exit->Act->World->Prop}
  (hQ:∀ a w,SInv G E sN a w->Q .normal a w) {a:Act} {w:World} (hi:SInv G E s0 a w):wpOps P ops Q (List.range ops.size) a w:=by
 have key:∀ (k i:Nat),i+k=ops.size->∀ a w,XInv G E s0 rs (fun j=>decide (j<i)) a w->wpOps P ops Q (List.range' i k) a w:=by
  intro k
  induction k with
  | zero=>
   intro i hik a w hx
   exact hQ a w (XInv.all h (fun j hj=>by simp;omega) hx)
  | succ k ih=>
   intro i hik a w hx
   rw[List.range'_succ,wpOps_cons]
   obtain⟨r,hr⟩:=At.ex (rs:=rs) (i:=i) (by omega)
   refine wpOp_mono (fun a w hx=>ih (i+1) (by omega) a w ?_) (step_any hG h hr (by simp) hm (fun j hj _=>by simp[hj]) (fun j hj _=>by simp;omega) hx)
   have:setX (fun j=>decide (j<i)) i=fun j=>decide (j<i+1):=by
    funext j
    by_cases hj:j=i
    ·subst hj;rw[setX_eq];simp
    ·rw[setX_ne hj]
     have:(j<i)=(j<i+1):=propext ⟨fun h=>by omega,fun h=>by omega⟩
     simp only[this]
   rwa[this]at hx
 rw[List.range_eq_range']
 refine key ops.size 0 (by omega) a w ?_
 have:(fun j=>decide (j<0))=fun _=>false:=by funext j;simp
 rw[this]
 exact XInv.none hi
end
end
end Go.Proofs.YteggojnjinealaaGreatDoor.PE
