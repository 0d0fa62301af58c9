/-
  A part of the proof of the statement that the last text of this claim holds: two abstract machines for the code, proved sound once, and what the program does on them. No condition.
-/
import Derived.Below
import Derived.Eval
import Derived.Orders
import Derived.Sort.Defs
import Derived.Lib.BitFns
import Derived.Laws.Rows
import Derived.Laws.Tables
import Derived.Laws.Cells
import Derived.Laws.IdiomCopy
import Derived.Laws.Small
import Derived.Laws.StructEq
import Derived.Laws.Slices
import Derived.Laws.Append
import Derived.WideKeyRuns
import Derived.Laws.BytesArg
import Derived.WalkLawsBesides
import Derived.WalkSpells
import Derived.Laws.LoneSync
import Derived.Lib.Builder
import Derived.Lib.UnsafeStr
import Derived.Scope
import Derived.WalkKit
import Derived.ProofKit
import Derived.OpenShut
import Derived.Maps.RangeRun
import Derived.IntWalk
import Derived.Sort.AssemblyPlain
import Derived.Shelf.SlSortCmp.WholeK
import Derived.Shelf.Sort.Plain
import Derived.Shelf.SlicesG.Cmp
import Derived.Test.YtolpagjajaknbaaGreatProg
import Derived.Test.YtolpagjajaknbaaGreatChecked
import Derived.KernelRfl
import Derived.Sort.Walk0
import Derived.Test.YtolpagjajaknbaaGreatRows
import Derived.ShutString
import Derived.ChangeOld
import Derived.Carry
set_option linter.all false
namespace Arb
open Go
inductive IV where
 |bool (b:Bool)
 |int (k:IntKind) (n:Int)
 |str (s:ByteArray)
 |nsl (e:Nat)
 |sl (e:Nat) (es:List (List IV))
 |nilp
 |ptr (cs:List IV)
 |fn (f:Nat) (caps:List IV)
 |junk
 deriving Inhabited
inductive AV where
 |undef
 |iv (x:IV)
 |agg (cs:List AV)
 |tup (vs:List AV)
 |own (id o n v:Nat)
 |ref (id v i j:Nat)
 |clo (f:Nat) (caps:List AV)
 deriving Inhabited
abbrev AV.nI (n:Int):AV:=.iv (.int .i64 n)
abbrev AV.bI (b:Bool):AV:=.iv (.bool b)
inductive Ob where
 |cells (cs:List AV)
 |buf (v e:Nat) (es:List (List IV))
 |imm (v e:Nat) (es:List (List IV))
 |map (kvs:List (AV×AV))
 deriving Inhabited
def get {α:Type}:List (Nat×α)->Nat->Option α
 |[],_=>none
 |x::r,n=>if x.1=n then some x.2 else get r n
def set {α:Type}:List (Nat×α)->Nat->α->List (Nat×α)
 |[],n,v=>[(n,v)]
 |x::r,n,v=>if x.1=n then(n,v)::r else x::set r n v
abbrev Hp:=List (Nat×Ob)
abbrev Fr:=List (Nat×AV)
inductive M (α:Type) where
 |ret (a:α)
 |fail
 |get (id:Nat) (k:Option Ob->M α)
 |put (id:Nat) (o:Ob) (k:M α)
namespace M
def bind {α β:Type}:M α->(α->M β)->M β
 |.ret a,f=>f a
 |.fail,_=>.fail
 |.get id k,f=>.get id λo=>(k o).bind f
 |.put id o k,f=>.put id o (k.bind f)
instance:Monad M where
 pure:=M.ret
 bind:=M.bind
def run {α:Type}:M α->Hp->Option (α×Hp)
 |.ret a,h=>some (a,h)
 |.fail,_=>none
 |.get id k,h=>(k (Arb.get h id)).run h
 |.put id o k,h=>k.run (Arb.set h id o)
def foot {α:Type}:M α->Hp->List Nat×List Nat
 |.ret _,_=>([],[])
 |.fail,_=>([],[])
 |.get id k,h=>let r:=(k (Arb.get h id)).foot h;(id::r.1,r.2)
 |.put id o k,h=>let r:=k.foot (Arb.set h id o);(r.1,r.2++[id])
def ok (b:Bool):M Unit:=if b then .ret () else .fail
def lift {α:Type}:Option α->M α
 |some a=>.ret a
 |none=>.fail
def look (id:Nat):M Ob:=.get id fun | some o=>.ret o | none=>.fail
def fresh (id:Nat):M Unit:=.get id fun | some _=>.fail | none=>.ret ()
def write (id:Nat) (o:Ob):M Unit:=.put id o (.ret ())
def mapL {α β:Type} (f:α->M β):List α->M (List β)
 |[]=>.ret []
 |x::r=>(f x).bind λy=>(mapL f r).bind λys=>.ret (y::ys)
end M
def cellsM:AV->M (List AV)
 |.agg cs=>.ret cs
 |.undef=>.fail
 |.tup _=>.fail
 |x=>.ret [x]
def mk (agg:Bool) (l:List AV):M AV:=
 if agg then .ret (.agg l) else match l with
  |[x]=>.ret x
  |_=>.fail
def fz (w:Bool):Nat->AV->M IV
 |0,_=>.fail
 |n+1,a=>match a with
  |.iv (.nsl e)=>.ret (.sl e [])
  |.iv x=>.ret x
  |.own id o m ver=>(M.look id).bind fun
   |.buf v e es=>(M.ok (v==ver)).bind λ_=>if w then(M.write id (.imm v e es)).bind λ_=>.ret (.sl e ((es.drop o).take m)) else .ret (.sl e ((es.drop o).take m))
   |.imm v e es=>(M.ok (v==ver)).bind λ_=>.ret (.sl e ((es.drop o).take m))
   |.cells _=>.fail
   |.map _=>.fail
  |.ref id ver i j=>(M.look id).bind fun
   |.buf v e es=>(M.ok (v==ver)).bind λ_=>(M.lift es[i]?).bind λc=>if w then(M.write id (.imm v e es)).bind λ_=>.ret (.ptr (c.drop j)) else .ret (.ptr (c.drop j))
   |.imm v _ es=>(M.ok (v==ver)).bind λ_=>(M.lift es[i]?).bind λc=>.ret (.ptr (c.drop j))
   |.cells cs=>(M.ok (ver==0&&i==0)).bind λ_=>(M.mapL (fz w n) cs).bind λxs=>if w then(M.look id).bind fun
    |.cells _=>(M.write id (.imm 0 xs.length [xs])).bind λ_=>.ret (.ptr (xs.drop j))
    |_=>.fail
    else .ret (.ptr (xs.drop j))
   |.map _=>.fail
  |.clo f caps=>(M.mapL (fz w n) caps).bind λxs=>.ret (.fn f xs)
  |_=>.fail
def fzC (w:Bool) (a:AV):M AV:=(fz w 8 a).bind λx=>.ret (.iv x)
def fz1 (w:Bool) (a:AV):M AV:=match a with
 |.agg cs=>(M.mapL (fzC w) cs).bind λl=>.ret (.agg l)
 |a=>fzC w a
def fzA (w:Bool) (a:AV):M AV:=match a with
 |.tup vs=>(M.mapL (fz1 w) vs).bind λl=>.ret (.tup l)
 |a=>fz1 w a
def flatI:IV->Bool
 |.bool _ | .int _ _ | .str _ | .nilp=>true
 |_=>false
def flat0:AV->Bool
 |.iv x=>flatI x
 |_=>false
def flat1:AV->Bool
 |.agg cs=>cs.all flat0
 |x=>flat0 x
def flat:AV->Bool
 |.tup vs=>vs.all flat1
 |x=>flat1 x
inductive Opd where
 |t (n:Nat)
 |c (v:IV)
 deriving Inhabited
inductive IOp where
 |mov (x:Opd)
 |nil0 (e:Nat)
 |pick (c a b:Opd)
 |alloc (z:List IV)
 |box (x:Opd)
 |build (z:List IV) (ps:List (Nat×Nat×Opd))
 |bsl (e:Nat) (z:List IV) (len:Nat) (ps:List (Nat×Opd))
 |load (agg:Bool) (sz:Nat) (a:Opd)
 |store (sz:Nat) (a x:Opd)
 |fadr (off:Nat) (x:Opd)
 |fld (agg:Bool) (off sz:Nat) (x:Opd)
 |iarr (len e:Nat) (x i:Opd)
 |isl (e:Nat) (x i:Opd)
 |xarr (agg:Bool) (len e:Nat) (x i:Opd)
 |xstr (x i:Opd)
 |bin (op:BinOp) (q:Nat) (x y:Opd)
 |eqc (neg:Bool) (qs:List Nat) (x y:Opd)
 |un (op:UnOp) (x:Opd)
 |cvi (k:IntKind) (x:Opd)
 |cvs (x:Opd)
 |slc (e:Nat) (x:Opd) (lo hi:Option Opd)
 |slcs (x:Opd) (lo hi:Option Opd)
 |slz (e:Nat) (x:Opd)
 |clr (e:Nat) (z:List IV) (x:Opd)
 |len (str:Bool) (x:Opd)
 |app (e:Nat) (x y:Opd)
 |mn (x:Opd) (ys:List Opd)
 |mx (x:Opd) (ys:List Opd)
 |ext (x:Opd) (i:Nat)
 |nchk (x:Opd)
 |mkf (f:Nat) (caps:List Opd)
 |call (mode:Nat) (f:Opd) (args:List Opd)
 |cvb (x:Opd)
 |mmk
 |mget (ok agg:Bool) (qs:List Nat) (z:List IV) (m k:Opd)
 |mput (qs:List Nat) (m k v:Opd)
 |mdel (qs:List Nat) (m k:Opd)
 |mlen (m:Opd)
 deriving Inhabited
structure IOper where
 dst:Option Nat
 op:IOp
 gd:Option (Nat×Bool):=none
 aft:List Nat:=[]
 deriving Inhabited
inductive IC where
 |skip
 |rgn (draw:Bool) (ops:List IOper) (keep:List Nat)
 |seq (a b:IC)
 |cond (c:Opd) (a b:IC)
 |block (id:Nat) (b:IC)
 |loop (keep:List Nat) (b:IC)
 |exit (id:Nat)
 |ret
 deriving Inhabited
inductive IRes where
 |t (n:Nat)
 |cell (n:Nat) (agg:Bool) (sz:Nat)
 |keep (n:Nat)
 |kcell (n:Nat) (agg:Bool) (sz:Nat)
 deriving Inhabited
structure IFn where
 np:Nat
 res:List IRes
 body:IC
 cl:Option (Nat×List IV)
 deriving Inhabited
structure St where
 fr:Fr
 hp:Hp
 nx:Nat
def ev (fr:Fr):Opd->AV
 |.t n=>(get fr n).getD .undef
 |.c v=>.iv v
def nilc:Nat->List AV->M (List AV)
 |_,[]=>.ret []
 |s,.iv (.nsl e)::r=>(M.fresh s).bind λ_=>(M.write s (.buf 0 e [])).bind λ_=>(nilc (s+1) r).bind λrs=>.ret (.own s 0 0 0::rs)
 |s,x::r=>(nilc (s+1) r).bind λrs=>.ret (x::rs)
def splice {α:Type} (cs:List α) (j:Nat) (l:List α):List α:=cs.take j++l++cs.drop (j+l.length)
def obRead (o:Ob) (ver i j sz:Nat):Option (List AV):=
 match o with
 |.cells cs=>if ver=0/\i=0 then some ((cs.drop j).take sz) else none
 |.buf v _ es | .imm v _ es=>if v=ver then(es[i]?).map λc=>((c.drop j).take sz).map .iv else none
 |.map _=>none
def load (agg:Bool) (sz:Nat):AV->M AV
 |.ref id ver i j=>(M.look id).bind λo=>(M.lift (obRead o ver i j sz)).bind λl=>(M.ok (l.length==sz)).bind λ_=>mk agg l
 |.iv (.ptr cs)=>(M.ok ((cs.take sz).length==sz)).bind λ_=>mk agg ((cs.take sz).map .iv)
 |_=>.fail
def store (slot sz:Nat) (a x:AV):M AV:=
 (cellsM x).bind λxs=>(M.ok (xs.length==sz)).bind λ_=>
 match a with
 |.ref id ver i j=>(M.look id).bind fun
  |.cells cs=>(M.ok (Nat.ble (j+sz) cs.length)).bind λ_=>(nilc slot xs).bind λl=>(M.write id (.cells (splice cs j l))).bind λ_=>.ret (.tup [])
  |.buf _ _ _=>(M.mapL (fz true 8) xs).bind λl=>(M.look id).bind fun
   |.buf v e es=>(M.ok (v==ver&&Nat.ble (j+sz) e)).bind λ_=>(M.lift es[i]?).bind λc=>(M.write id (.buf v e (es.set i (splice c j l)))).bind λ_=>.ret (.tup [])
   |_=>.fail
  |_=>.fail
 |_=>.fail
def valid (o:Ob) (ver i:Nat):Bool:=
 match o with
 |.cells _=>ver==0&&i==0
 |.buf v _ _ | .imm v _ _=>v==ver
 |.map _=>false
def fadr (off:Nat):AV->M AV
 |.ref id ver i j=>(M.look id).bind λo=>(M.ok (valid o ver i)).bind λ_=>.ret (.ref id ver i (j+off))
 |.iv (.ptr cs)=>(M.ok (Nat.ble off cs.length)).bind λ_=>.ret (.iv (.ptr (cs.drop off)))
 |_=>.fail
def fld (agg:Bool) (off sz:Nat):AV->M AV
 |.agg cs=>(M.ok (((cs.drop off).take sz).length==sz)).bind λ_=>mk agg ((cs.drop off).take sz)
 |_=>.fail
def idx:AV->M Int
 |.iv (.int _ n)=>.ret n
 |_=>.fail
def iarr (len e:Nat) (x i:AV):M AV:=
 (idx i).bind λn=>(M.ok (decide (0<=n/\n<len))).bind λ_=>
 match x with
 |.ref id ver i j=>(M.look id).bind λo=>(M.ok (valid o ver i)).bind λ_=>.ret (.ref id ver i (j+n.toNat*e))
 |.iv (.ptr cs)=>(M.ok (Nat.ble (n.toNat*e) cs.length)).bind λ_=>.ret (.iv (.ptr (cs.drop (n.toNat*e))))
 |_=>.fail
def isl (e:Nat) (x i:AV):M AV:=
 (idx i).bind λn=>(M.ok (decide (0<=n))).bind λ_=>
 match x with
 |.own id o m ver=>(M.ok (decide (n<m))).bind λ_=>(M.look id).bind fun
  |.buf v e' _ | .imm v e' _=>(M.ok (v==ver&&e'==e)).bind λ_=>.ret (.ref id ver (o+n.toNat) 0)
  |_=>.fail
 |.iv (.sl e' es)=>(M.ok (e'==e)).bind λ_=>(M.lift es[n.toNat]?).bind λc=>.ret (.iv (.ptr c))
 |_=>.fail
def xarr (agg:Bool) (len e:Nat) (x i:AV):M AV:=
 (idx i).bind λn=>(M.ok (decide (0<=n/\n<len))).bind λ_=>fld agg (n.toNat*e) e x
def xstr:AV->AV->M AV
 |.iv (.str s),.iv (.int _ n)=>(M.ok (decide (0<=n))).bind λ_=>match s[n.toNat]? with
  |some b=>.ret (.iv (.int .u8 b.toNat))
  |none=>.fail
 |_,_=>.fail
def intBin (op:BinOp) (k k':IntKind) (a b:Int):Option IV:=
 match op with
 |.shl=>if b<0 then none else some (.int k (k.wrap (a*2 ^ min b.toNat k.bits)))
 |.shr=>if b<0 then none else some (.int k (a.fdiv (2 ^ min b.toNat k.bits)))
 |op=>if k=k' then match op with
   |.add=>some (.int k (k.wrap (a+b)))
   |.sub=>some (.int k (k.wrap (a - b)))
   |.mul=>some (.int k (k.wrap (a*b)))
   |.quo=>if b=0 then none else some (.int k (k.wrap (a.tdiv b)))
   |.rem=>if b=0 then none else some (.int k (a.tmod b))
   |.eql=>some (.bool (a==b))
   |.neq=>some (.bool (a != b))
   |.lss=>some (.bool (decide (a<b)))
   |.leq=>some (.bool (decide (a<=b)))
   |.gtr=>some (.bool (decide (a > b)))
   |.geq=>some (.bool (decide (a ≥ b)))
   |op=>some (.int k (bits op k a b))
  else none
def sless (a b:ByteArray):Bool:=Op.bytesLess a.toList b.toList
def strBin (op:BinOp) (a b:ByteArray):Option IV:=
 match op with
 |.add=>if a.size+b.size<=4611686018427387904 then some (.str (a++b)) else none
 |.eql=>some (.bool (a==b))
 |.neq=>some (.bool (!(a==b)))
 |.lss=>some (.bool (sless a b))
 |.leq=>some (.bool (sless a b||a==b))
 |.gtr=>some (.bool (!(sless a b||a==b)))
 |.geq=>some (.bool (!sless a b))
 |_=>none
def bin (op:BinOp) (q:Nat) (x y:AV):Option IV:=
 match q,x,y with
 |0,.iv (.int k a),.iv (.int k' b)=>intBin op k k' a b
 |0,.iv (.str a),.iv (.str b)=>strBin op a b
 |1,.iv (.bool a),.iv (.bool b)=>match op with
  |.eql=>some (.bool (a==b))
  |.neq=>some (.bool (!(a==b)))
  |_=>none
 |2,.iv .nilp,.iv .nilp=>match op with
  |.eql=>some (.bool true)
  |.neq=>some (.bool false)
  |_=>none
 |2,.iv (.ptr _),.iv .nilp | 2,.iv .nilp,.iv (.ptr _)=>match op with
  |.eql=>some (.bool false)
  |.neq=>some (.bool true)
  |_=>none
 |_,_,_=>none
def eq0 (q:Nat) (x y:AV):Option Bool:=
 match q,x,y with
 |0,.iv (.int k a),.iv (.int k' b)=>if k=k' then some (a==b) else none
 |1,.iv (.bool a),.iv (.bool b)=>some (a==b)
 |2,.iv (.str a),.iv (.str b)=>some (a==b)
 |_,_,_=>none
def eqs:List Nat->List AV->List AV->Option Bool
 |[],[],[]=>some true
 |q::qs,x::xs,y::ys=>(eq0 q x y).bind λb=>(eqs qs xs ys).bind λc=>some (b&&c)
 |_,_,_=>none
def un (op:UnOp):AV->Option IV
 |.iv (.int k a)=>match op with
  |.neg=>some (.int k (k.wrap (0 - a)))
  |.xor=>some (.int k (bits .xor k (if k.signed then -1 else k.max) a))
  |_=>none
 |.iv (.bool b)=>match op with
  |.not=>some (.bool !b)
  |_=>none
 |_=>none
def bound (y:Nat):Option AV->M (Option Nat)
 |none=>.ret none
 |some (.iv (.int _ n))=>(M.ok (decide (0<=n/\n<=y))).bind λ_=>.ret (some n.toNat)
 |some _=>.fail
def slc (e:Nat) (x:AV) (lo hi:Option AV):M AV:=
 match x with
 |.own id o m ver=>(bound m hi).bind λh=>(bound (h.getD m) lo).bind λl=>(M.look id).bind fun
  |.buf v e' _ | .imm v e' _=>(M.ok (v==ver&&e'==e)).bind λ_=>.ret (.own id (o+l.getD 0) (h.getD m - l.getD 0) ver)
  |_=>.fail
 |.iv (.sl e' es)=>(M.ok (e'==e)).bind λ_=>(bound es.length hi).bind λh=>(bound (h.getD es.length) lo).bind λl=>.ret (.iv (.sl e ((es.take (h.getD es.length)).drop (l.getD 0))))
 |_=>.fail
def slcs (x:AV) (lo hi:Option AV):M AV:=
 match x with
 |.iv (.str s)=>(bound s.size hi).bind λh=>(bound (h.getD s.size) lo).bind λl=>.ret (.iv (.str (s.extract (l.getD 0) (h.getD s.size))))
 |_=>.fail
def slz (e:Nat):AV->M AV
 |.own id _ _ ver=>(M.look id).bind λo=>(M.ok (valid o ver 0)).bind λ_=>(match o with | .cells _=>.fail | .map _=>.fail | _=>.ret (.iv (.nsl e)))
 |.iv (.sl _ _)=>.ret (.iv (.nsl e))
 |.iv (.nsl _)=>.ret (.iv (.nsl e))
 |_=>.fail
def clr (e:Nat) (z:List IV):AV->M AV
 |.own id o n ver=>(M.look id).bind fun
  |.buf v e' es=>(M.ok (v==ver&&e'==e&&z.length==e)).bind λ_=>(M.write id (.buf v e (es.take o++List.replicate n z++es.drop (o+n)))).bind λ_=>.ret (.tup [])
  |_=>.fail
 |_=>.fail
def len (str:Bool) (x:AV):M AV:=
 match str,x with
 |false,.own id _ n ver=>(M.look id).bind fun
  |.buf v _ _ | .imm v _ _=>(M.ok (v==ver)).bind λ_=>.ret (.iv (.int .i64 n))
  |_=>.fail
 |false,.iv (.sl _ es)=>.ret (.iv (.int .i64 es.length))
 |false,.iv (.nsl _)=>.ret (.iv (.int .i64 0))
 |true,.iv (.str s)=>.ret (.iv (.int .i64 s.size))
 |_,_=>.fail
def elems (e:Nat):AV->M (List (List IV))
 |.own id o n ver=>(M.look id).bind fun
  |.buf v e' es | .imm v e' es=>(M.ok (v==ver&&e'==e)).bind λ_=>.ret ((es.drop o).take n)
  |_=>.fail
 |.iv (.sl e' es)=>(M.ok (e'==e)).bind λ_=>.ret es
 |.iv (.nsl _)=>.ret []
 |_=>.fail
def roomy (n:Nat):Bool:=Nat.ble n 1073741824
def app (e slot:Nat) (x y:AV):M AV:=
 (elems e y).bind λys=>
 match x with
 |.iv (.nsl _)=>(M.ok (roomy ys.length)).bind λ_=>(M.fresh slot).bind λ_=>(M.write slot (.buf 0 e ys)).bind λ_=>.ret (.own slot 0 ys.length 0)
 |.own id o n ver=>(M.look id).bind fun
  |.buf v e' es=>(M.ok (v==ver&&e'==e&&o==0&&roomy (n+ys.length))).bind λ_=>(M.write id (.buf (v+1) e (es.take n++ys))).bind λ_=>.ret (.own id 0 (n+ys.length) (v+1))
  |_=>.fail
 |_=>.fail
def mnI:Int->List AV->IntKind->Option Int
 |a,[],_=>some a
 |a,.iv (.int k b)::r,k'=>if k=k' then mnI (if b<a then b else a) r k' else none
 |_,_,_=>none
def mxI:Int->List AV->IntKind->Option Int
 |a,[],_=>some a
 |a,.iv (.int k b)::r,k'=>if k=k' then mxI (if b > a then b else a) r k' else none
 |_,_,_=>none
def putAll {α:Type}:List α->List (Nat×List α)->List α
 |z,[]=>z
 |z,(o,l)::r=>putAll (splice z o l) r
def setAll {α:Type}:List α->List (Nat×α)->List α
 |z,[]=>z
 |z,(o,l)::r=>setAll (z.set o l) r
def idsOf:AV->List Nat
 |.own id _ _ _ | .ref id _ _ _=>[id]
 |_=>[]
def place:List Nat->Nat->Option Nat
 |[],_=>none
 |x::r,n=>if x=n then some 0 else(place r n).map (·+ 1)
def dedup:List Nat->List Nat->List Nat
 |[],acc=>acc.reverse
 |x::r,acc=>if acc.contains x then dedup r acc else dedup r (x::acc)
def lendA (ids:List Nat):AV->M AV
 |.own id o n v=>(M.lift (place ids id)).bind λi=>.ret (.own i o n v)
 |.ref id v i j=>(M.lift (place ids id)).bind λp=>.ret (.ref p v i j)
 |a=>fz1 true a
def lentOk:Ob->Bool
 |.buf _ _ _=>true
 |_=>false
def callee:AV->Option (Nat×List AV)
 |.iv (.fn f caps)=>some (f,caps.map .iv)
 |.clo f caps=>some (f,caps)
 |_=>none
def shut (p:AV×Hp):Option AV:=((fzA true p.1).run p.2).map (·.1)
def callM (call:Nat->List AV->Hp->Option (AV×Hp)) (f:AV) (args:List AV):M AV:=
 (M.lift (callee f)).bind λq=>
 (M.mapL (fz1 false) (args++q.2)).bind λU=>(M.lift ((call q.1 U []).bind shut)).bind λr=>
 (M.ok (flat r)).bind λ_=>.ret r
def fcallM (call:Nat->List AV->Hp->Option (AV×Hp)) (f:AV) (args:List AV):M AV:=
 (M.lift (callee f)).bind λq=>
 (M.mapL (fz1 true) (args++q.2)).bind λU=>M.lift ((call q.1 U []).bind shut)
def backAll:List Nat->Nat->Hp->M Unit
 |[],_,_=>.ret ()
 |id::r,i,h=>(M.lift (get h i)).bind λo=>(M.ok (match o with | .cells _=>false | .map _=>false | _=>true)).bind λ_=>(M.write id o).bind λ_=>backAll r (i+1) h
def lentR (ids:List Nat) (p:AV×Hp):Option AV:=
 match p.1 with
 |.own i o n v=>(ids[i]?).map λid=>.own id o n v
 |r=>if flat r then some r else none
def nodupB:List Nat->Bool
 |[]=>true
 |x::r=>!r.contains x&&nodupB r
def withPlaces {α:Type}:List α->Nat->List (Nat×α)
 |[],_=>[]
 |x::r,i=>(i,x)::withPlaces r (i+1)
def lcallM (call:Nat->List AV->Hp->Option (AV×Hp)) (f:AV) (args:List AV):M AV:=
 (M.lift (callee f)).bind λq=>
 let ids:=dedup ((args++q.2).flatMap idsOf) []
 (M.ok (nodupB ids&&Nat.ble ids.length 1000)).bind λ_=>
 (M.mapL (lendA ids) (args++q.2)).bind λU=>
 (M.mapL (λid=>(M.look id).bind λo=>(M.ok (lentOk o)).bind λ_=>.ret o) ids).bind λos=>
 (M.lift (call q.1 U (withPlaces os 0))).bind λp=>
 (M.lift (lentR ids p)).bind λr=>(backAll ids 0 p.2).bind λ_=>.ret r
def takeR (slot:Nat) (p:AV×Hp):M AV:=
 match p.1 with
 |.own i o n v=>(M.lift (get p.2 i)).bind fun
  |.buf v' e es=>(M.ok (v'==v&&o==0)).bind λ_=>(M.fresh slot).bind λ_=>(M.write slot (.buf 0 e es)).bind λ_=>.ret (.own slot 0 n 0)
  |_=>.fail
 |_=>.fail
def ocallM (call:Nat->List AV->Hp->Option (AV×Hp)) (slot:Nat) (f:AV) (args:List AV):M AV:=
 (M.lift (callee f)).bind λq=>
 (M.mapL (fz1 true) (args++q.2)).bind λU=>(M.lift (call q.1 U [])).bind λp=>takeR slot p
def keyOk (qs:List Nat):AV->Bool
 |.agg xs=>xs.length==qs.length&&qs.length != 1
 |.iv _=>qs.length==1
 |_=>false
def eqk (qs:List Nat):AV->AV->Option Bool
 |.agg xs,.agg ys=>if qs.length=1 then none else eqs qs xs ys
 |.iv x,.iv y=>if qs.length=1 then eqs qs [.iv x] [.iv y] else none
 |_,_=>none
def mfind (qs:List Nat) (k:AV):List (AV×AV)->Nat->Option (Option (Nat×AV))
 |[],_=>some none
 |p::r,i=>match eqk qs k p.1 with
  |some true=>some (some (i,p.2))
  |some false=>mfind qs k r (i+1)
  |none=>none
def lookMap:AV->M (Nat×List (AV×AV))
 |.ref id 0 0 0=>(M.look id).bind fun
  |.map kvs=>.ret (id,kvs)
  |_=>.fail
 |_=>.fail
def mget (ok agg:Bool) (qs:List Nat) (z:List IV) (m k:AV):M AV:=
 (M.ok (keyOk qs k)).bind λ_=>(lookMap m).bind λx=>(M.lift (mfind qs k x.2 0)).bind fun
  |some p=>.ret (if ok then .tup [p.2,.iv (.bool true)] else p.2)
  |none=>(mk agg (z.map .iv)).bind λv=>.ret (if ok then .tup [v,.iv (.bool false)] else v)
def mput (qs:List Nat) (m k v:AV):M AV:=
 (M.ok (keyOk qs k)).bind λ_=>(lookMap m).bind λx=>(M.lift (mfind qs k x.2 0)).bind fun
  |some p=>(M.write x.1 (.map (x.2.set p.1 (k,v)))).bind λ_=>.ret (.tup [])
  |none=>(M.write x.1 (.map (x.2++[(k,v)]))).bind λ_=>.ret (.tup [])
def mdel (qs:List Nat) (m k:AV):M AV:=
 (M.ok (keyOk qs k)).bind λ_=>(lookMap m).bind λx=>(M.lift (mfind qs k x.2 0)).bind fun
  |some p=>(M.write x.1 (.map (x.2.eraseIdx p.1))).bind λ_=>.ret (.tup [])
  |none=>(M.write x.1 (.map x.2)).bind λ_=>.ret (.tup [])
def bytesOf:List (List IV)->Option (List Int)
 |[]=>some []
 |[.int .u8 n]::r=>(bytesOf r).map (n::·)
 |_=>none
def strB (xs:List Int):ByteArray:=⟨(xs.map λn=>UInt8.ofNat n.toNat).toArray⟩
def osem (call:Nat->List AV->Hp->Option (AV×Hp)) (slot:Nat) (ρ:Opd->AV):IOp->M AV
 |.mov x=>.ret (ρ x)
 |.nil0 e=>(M.fresh slot).bind λ_=>(M.write slot (.buf 0 e [])).bind λ_=>.ret (.own slot 0 0 0)
 |.pick c a b=>match ρ c with
  |.iv (.bool t)=>.ret (if t then ρ a else ρ b)
  |_=>.fail
 |.alloc z=>(M.fresh slot).bind λ_=>(nilc (slot+1) (z.map .iv)).bind λl=>(M.write slot (.cells l)).bind λ_=>.ret (.ref slot 0 0 0)
 |.box x=>(cellsM (ρ x)).bind λxs=>(M.fresh slot).bind λ_=>(nilc (slot+1) xs).bind λl=>(M.write slot (.cells l)).bind λ_=>.ret (.ref slot 0 0 0)
 |.build z ps=>(M.mapL (λp=>(cellsM (ρ p.2.2)).bind λl=>(M.ok (l.length==p.2.1&&Nat.ble (p.1+p.2.1) z.length)).bind λ_=>.ret (p.1,l)) ps).bind λl=>.ret (.agg (putAll (z.map .iv) l))
 |.bsl e z n ps=>(M.ok (z.length==e)).bind λ_=>
   (M.mapL (λp=>(cellsM (ρ p.2)).bind λxs=>(M.ok (xs.length==e&&Nat.blt p.1 n)).bind λ_=>(M.mapL (fz true 8) xs).bind λl=>.ret (p.1,l)) ps).bind λl=>
   (M.fresh slot).bind λ_=>(M.write slot (.buf 0 e (setAll (List.replicate n z) l))).bind λ_=>.ret (.own slot 0 n 0)
 |.load agg sz a=>load agg sz (ρ a)
 |.store sz a x=>store slot sz (ρ a) (ρ x)
 |.fadr off x=>fadr off (ρ x)
 |.fld agg off sz x=>fld agg off sz (ρ x)
 |.iarr len e x i=>iarr len e (ρ x) (ρ i)
 |.isl e x i=>isl e (ρ x) (ρ i)
 |.xarr agg len e x i=>xarr agg len e (ρ x) (ρ i)
 |.xstr x i=>xstr (ρ x) (ρ i)
 |.bin op q x y=>(M.lift (bin op q (ρ x) (ρ y))).bind λv=>.ret (.iv v)
 |.eqc neg qs x y=>match ρ x,ρ y with
  |.agg xs,.agg ys=>(M.lift (eqs qs xs ys)).bind λb=>.ret (.iv (.bool (if neg then !b else b)))
  |_,_=>.fail
 |.un op x=>(M.lift (un op (ρ x))).bind λv=>.ret (.iv v)
 |.cvi k x=>(idx (ρ x)).bind λn=>.ret (.iv (.int k (k.wrap n)))
 |.cvs x=>match ρ x with
  |.iv (.str s)=>.ret (.iv (.str s))
  |_=>.fail
 |.slc e x lo hi=>slc e (ρ x) (lo.map ρ) (hi.map ρ)
 |.slcs x lo hi=>slcs (ρ x) (lo.map ρ) (hi.map ρ)
 |.slz e x=>slz e (ρ x)
 |.clr e z x=>clr e z (ρ x)
 |.len str x=>len str (ρ x)
 |.app e x y=>app e slot (ρ x) (ρ y)
 |.mn x ys=>match ρ x with
  |.iv (.int k a)=>(M.lift (mnI a (ys.map ρ) k)).bind λn=>.ret (.iv (.int k n))
  |_=>.fail
 |.mx x ys=>match ρ x with
  |.iv (.int k a)=>(M.lift (mxI a (ys.map ρ) k)).bind λn=>.ret (.iv (.int k n))
  |_=>.fail
 |.ext x i=>match ρ x with
  |.tup vs=>M.lift vs[i]?
  |_=>.fail
 |.nchk x=>match ρ x with
  |.ref id ver i j=>(M.look id).bind λo=>(M.ok (valid o ver i)).bind λ_=>.ret (.ref id ver i j)
  |.iv (.ptr cs)=>.ret (.iv (.ptr cs))
  |.iv (.fn f cs)=>.ret (.iv (.fn f cs))
  |.clo f cs=>.ret (.clo f cs)
  |_=>.fail
 |.mkf f caps=>.ret (.clo f (caps.map ρ))
 |.call mode f args=>match mode with
  |0=>callM call (ρ f) (args.map ρ)
  |1=>lcallM call (ρ f) (args.map ρ)
  |2=>ocallM call slot (ρ f) (args.map ρ)
  |4=>.fail
  |_=>fcallM call (ρ f) (args.map ρ)
 |.cvb x=>(elems 1 (ρ x)).bind λys=>(M.lift (bytesOf ys)).bind λb=>.ret (.iv (.str (strB b)))
 |.mmk=>(M.fresh slot).bind λ_=>(M.write slot (.map [])).bind λ_=>.ret (.ref slot 0 0 0)
 |.mget ok agg qs z m k=>mget ok agg qs z (ρ m) (ρ k)
 |.mput qs m k v=>mput qs (ρ m) (ρ k) (ρ v)
 |.mdel qs m k=>mdel qs (ρ m) (ρ k)
 |.mlen m=>(lookMap (ρ m)).bind λx=>.ret (.iv (.int .i64 x.2.length))
def wants (fr:Fr):Option (Nat×Bool)->Option Bool
 |none=>some true
 |some (t,b)=>match get fr t with
  |some (.iv (.bool c))=>some (c==b)
  |some (.tup [])=>some false
  |_=>none
def putD (fr:Fr) (d:Option Nat) (v:AV):Fr:=match d with
 |some d=>set fr d v
 |none=>fr
def step (call:Nat->List AV->Hp->Option (AV×Hp)) (slot:Nat) (o:IOper) (s:St):Option St:=
 match wants s.fr o.gd with
 |some true=>match(osem call slot (ev s.fr) o.op).run s.hp with
  |some (v,h)=>some { s with fr:=putD s.fr o.dst v,hp:=h }
  |none=>none
 |some false=>some { s with fr:=putD s.fr o.dst (.tup []) }
 |none=>none
def footOf (call:Nat->List AV->Hp->Option (AV×Hp)) (slot:Nat) (o:IOper) (s:St):List Nat×List Nat:=
 match wants s.fr o.gd with
 |some true=>(osem call slot (ev s.fr) o.op).foot s.hp
 |_=>([],[])
def evalOps (call:Nat->List AV->Hp->Option (AV×Hp)):List IOper->Nat->St->Option St
 |[],_,s=>some s
 |o::r,slot,s=>match step call slot o s with
  |some s'=>evalOps call r (slot+64) s'
  |none=>none
def evalFeet (call:Nat->List AV->Hp->Option (AV×Hp)):List IOper->Nat->St->List (List Nat×List Nat)
 |[],_,_=>[]
 |o::r,slot,s=>footOf call slot o s::match step call slot o s with
  |some s'=>evalFeet call r (slot+64) s'
  |none=>[]
def meets (a b:List Nat):Bool:=a.any b.contains
def clash (x y:List Nat×List Nat):Bool:=meets x.2 (y.1++y.2)||meets y.2 (x.1++x.2)
def apart1 (x:List Nat×List Nat) (i:Nat):List (List Nat×List Nat)->List (List Nat)->Bool
 |y::ys,c::cs=>(!clash x y||c.contains i)&&apart1 x i ys cs
 |_,_=>true
def apartAll:List (List Nat×List Nat)->Nat->List (List Nat)->Bool
 |x::xs,i,_::cs=>apart1 x i xs cs&&apartAll xs (i+1) cs
 |_,_,_=>true
def orderOk (ops:List IOper) (feet:List (List Nat×List Nat)):Bool:=feet.all (·.2.isEmpty)||apartAll feet 0 (ops.map (·.aft))
def keepFr:List Nat->Fr->Fr
 |[],_=>[]
 |t::r,fr=>match get fr t with
  |some x=>(t,x)::keepFr r fr
  |none=>keepFr r fr
def evalRgn (call:Nat->List AV->Hp->Option (AV×Hp)) (draw:Bool) (ops:List IOper) (keep:List Nat) (s:St):Option St:=
 match evalOps call ops s.nx s with
 |some s'=>if !draw||orderOk ops (evalFeet call ops s.nx s) then some { fr:=keepFr keep s'.fr,hp:=s'.hp,nx:=s.nx+64*ops.length } else none
 |none=>none
inductive Ex where
 |norm
 |exit (id:Nat)
 |ret
def nrm (n0:Nat) (h:Hp):Nat->AV->AV
 |0,_=>.undef
 |d+1,a=>match a with
  |.iv x=>.iv x
  |.undef=>.undef
  |.agg cs=>.agg (cs.map (nrm n0 h d))
  |.tup vs=>.tup (vs.map (nrm n0 h d))
  |.own id o n ver=>if id<1000 then .own id o n ver else if id<n0 then(match get h id with
   |some (.buf v _ _) | some (.imm v _ _)=>if v=ver then .own id o n 0 else .undef
   |_=>.undef) else .undef
  |.ref id ver i j=>if id<1000 then .ref id ver i j else if id<n0 then(match get h id with
   |some (.buf v _ _) | some (.imm v _ _)=>if v=ver then .ref id 0 i j else .undef
   |some (.cells _) | some (.map _)=>.ref id ver i j
   |none=>.undef) else .undef
  |.clo f caps=>.clo f (caps.map (nrm n0 h d))
def nrmO (n0:Nat) (h:Hp) (id:Nat):Ob->Ob
 |.cells cs=>.cells (cs.map (nrm n0 h 8))
 |.buf v e es=>.buf (if id<1000 then v else 0) e es
 |.imm v e es=>.imm (if id<1000 then v else 0) e es
 |.map kvs=>.map (kvs.map λp=>(nrm n0 h 8 p.1,nrm n0 h 8 p.2))
def again (keep:List Nat) (n0:Nat) (s:St):St:=
 { fr:=(keepFr keep s.fr).map λp=>(p.1,nrm n0 s.hp 8 p.2),hp:=(s.hp.filter λp=>decide (p.1<1000)||decide (p.1<n0)).map λp=>(p.1,nrmO n0 s.hp p.1 p.2),nx:=n0 }
def iter (f:St->Option (Ex×St)) (keep:List Nat) (n0:Nat):Nat->St->Option (Ex×St)
 |0,_=>none
 |m+1,s=>match f s with
  |some (.norm,s')=>iter f keep n0 m (again keep n0 s')
  |r=>r
def evalC (call:Nat->List AV->Hp->Option (AV×Hp)) (n:Nat):IC->St->Option (Ex×St)
 |.skip,s=>some (.norm,s)
 |.rgn draw ops keep,s=>(evalRgn call draw ops keep s).map λs'=>(.norm,s')
 |.seq a b,s=>match evalC call n a s with
  |some (.norm,s')=>evalC call n b s'
  |r=>r
 |.cond c a b,s=>match ev s.fr c with
  |.iv (.bool t)=>if t then evalC call n a s else evalC call n b s
  |_=>none
 |.block id b,s=>match evalC call n b s with
  |some (.exit i,s')=>if i=id then some (.norm,s') else some (.exit i,s')
  |r=>r
 |.loop keep b,s=>iter (evalC call n b) keep s.nx n { s with fr:=keepFr keep s.fr }
 |.exit id,s=>some (.exit id,s)
 |.ret,s=>some (.ret,s)
def outA:AV->M AV
 |.own id o n v=>(M.look id).bind fun
  |.buf v' _ _=>(M.ok (v'==v)).bind λ_=>.ret (.own id o n v)
  |.imm v' e es=>(M.ok (v'==v)).bind λ_=>.ret (.iv (.sl e ((es.drop o).take n)))
  |.cells _=>.fail
  |.map _=>.fail
 |a=>fz1 true a
def resM (fr:Fr):IRes->M AV
 |.t n=>outA (ev fr (.t n))
 |.cell n agg sz=>(load agg sz (ev fr (.t n))).bind outA
 |.keep n=>.ret (ev fr (.t n))
 |.kcell n agg sz=>load agg sz (ev fr (.t n))
def resAll (fr:Fr):List IRes->M AV
 |[r]=>resM fr r
 |rs=>(M.mapL (resM fr) rs).bind λl=>.ret (.tup l)
def params:List AV->Nat->Fr
 |[],_=>[]
 |a::r,i=>(i,a)::params r (i+1)
def cloneM (e:Nat):List AV->M AV
 |[.iv (.sl e' es)]=>(M.ok (e'==e&&roomy es.length)).bind λ_=>(M.fresh 1000).bind λ_=>(M.write 1000 (.buf 0 e [])).bind λ_=>(M.write 1000 (.buf 1 e es)).bind λ_=>.ret (.own 1000 0 es.length 1)
 |_=>.fail
def rowR:List IV->Option (Int×Int)
 |[.int .i64 a,.int .i64 b]=>some (a,b)
 |_=>none
def rowT:List IV->Option ByteArray
 |[.str s]=>some s
 |_=>none
def allSome {α β:Type} (f:α->Option β):List α->Option (List β)
 |[]=>some []
 |x::l=>match f x,allSome f l with
  |some y,some r=>some (y::r)
  |_,_=>none
def unR (p:Int×Int):List IV:=[.int .i64 p.1,.int .i64 p.2]
def unT (s:ByteArray):List IV:=[.str s]
def ltLo (x y:Int×Int):Bool:=decide (x.1<y.1)
def sortR (l:List (Int×Int)):List (Int×Int):=(Sort.pdq ltLo l.toArray 0 l.length (Lib.bitLen l.length) true true).toList
def sortT (l:List ByteArray):List ByteArray:=((l.map (·.data.toList)).mergeSort λx y=>decide (x<=y)).map λb=>⟨b.toArray⟩
def many (n m:Nat):Bool:=n==m&&Nat.blt 12 n&&roomy n
def sortM (q:Nat) (args:List AV) (hp:Hp):Option (AV×Hp):=
 match args with
 |[.own id 0 n ver]=>match get hp id with
  |some (.buf v e es)=>if q==1000000&&v==ver&&e==1&&many n es.length then match allSome rowT es with
   |some l=>some (.tup [],set hp id (.buf v 1 ((sortT l).map unT)))
   |none=>none
   else none
  |_=>none
 |[.own id 0 n ver,.iv (.fn c [])]=>match get hp id with
  |some (.buf v e es)=>if q==2000000+c&&v==ver&&e==2&&many n es.length then match allSome rowR es with
   |some l=>some (.tup [],set hp id (.buf v 2 ((sortR l).map unR)))
   |none=>none
   else none
  |_=>none
 |_=>none
def evalF (prog:Nat->Option IFn):Nat->Nat->List AV->Hp->Option (AV×Hp)
 |0,_,_,_=>none
 |k+1,g,args,hp=>match prog g with
  |none=>none
  |some fn=>match fn.cl with
   |some p=>if Nat.blt p.1 1000000 then(cloneM p.1 args).run hp else match sortM p.1 args hp with
    |some r=>some r
    |none=>if args.length=fn.np then
     match evalC (evalF prog k) k fn.body ⟨params args 0,hp,1000⟩with
     |some (.norm,s) | some (.ret,s)=>(resAll s.fr fn.res).run s.hp
     |_=>none
    else none
   |none=>if args.length=fn.np then
    match evalC (evalF prog k) k fn.body ⟨params args 0,hp,1000⟩with
    |some (.norm,s) | some (.ret,s)=>(resAll s.fr fn.res).run s.hp
    |_=>none
   else none
end Arb
namespace Arb
open Go
def t0RZq:List Nat:=[692,332]
def t1RZq:List Nat:=[563,187,56,55,75,14,0,9,0,0,0,0,0,0,0,6,50,9]
def t2RZq:List Nat:=[131,133,95,90,54,87,64,57,37,26,33,31,18,9,13,7,13,3,7,4,8,2,5,3,2,4,3,4,1,5,1,2,72]
def t3RZq:List Nat:=[224,800]
def t4RZq:List Nat:=[964,60]
def t5RZq:List Nat:=[174,850]
def t6RZq:List Nat:=[1023,1]
def t7RZq:List Nat:=[0,1024]
def t8RZq:List Nat:=[48,424,362,116,51,20,3]
def t9RZq:List Nat:=[983,41]
def t10RZq:List Nat:=[460,512,0,0,0,52]
def t11RZq:List Nat:=[14,17,95,67,167,116,124,53,69,36,41,40,24,16,12,10,12,5,10,3,5,3,2,3,2,3,3,3,0,3,66]
def t12RZq:List Nat:=[1003,16,5]
def t13RZq:List Nat:=[551,74,89,21,14,14,6,3,252]
def t14RZq:List Nat:=[148,534,87,42,26,23,19,145]
def t15RZq:List Nat:=[253,231,208,120,34,23,18,13,12,10,9,9,9,9,7,6,6,6,4,4,3,3,3,3,3,3,1,1,1,1,1,1,1,1,1,1,1,1,1,1,1]
def t16RZq:List Nat:=[258,226,216,194,75,22,22,11]
def t17RZq:List Nat:=[46,520,162,113,63,44,26,50]
def t18RZq:List Nat:=[266,242,179,89,84,54,49,46,8,5,2]
def t19RZq:List Nat:=[1011,13]
def t20RZq:List Nat:=[546,273,137,68]
def t21RZq:List Nat:=[375,489,64,25,29,4,4,4,4,0,0,0,11,0,11,4]
def t22RZq:List Nat:=[512,512]
def t23RZq:List Nat:=[996,28]
def t24RZq:List Nat:=[232,99,23,11,12,27,21,599]
def t25RZq:List Nat:=[54,896,35,23,6,0,0,10]
def t26RZq:List Nat:=[0,707,34,30,128,4,0,30,0,0,0,0,22,0,0,3,63,3]
def t27RZq:List Nat:=[258,302,172,118,51,23,63,0,0,0,0,0,19,0,16,2]
def t28RZq:List Nat:=[0,0,670,53,104,82,3,10,0,0,0,63,1,0,4,2,4,5,0,0,0,15,0,0,1,0,3,0,2,0,0,2]
def t29RZq:List Nat:=[218,87,258,22,125,52,31,68,41,3,56,0,1,9,17,6,1,4,3,0,9,0,4,3,1,1,1,1,0,0,0,0,0,1,0,0,1]
def t30RZq:List Nat:=[900,0,83,0,0,0,0,0,0,0,0,0,12,0,0,0,0,0,0,29]
def t31RZq:List Nat:=[0,0,0,60,0,955,0,0,0,0,0,0,9]
def t32RZq:List Nat:=[0,0,0,963,0,12,0,0,0,0,0,0,40,0,0,0,0,0,0,0,9]
def t33RZq:List Nat:=[12,7,290,31,163,75,152,13,120,7,10,0,10,12,24,25,25,22,3,0,3,0,3,0,4,1,0,4,0,3,4,0,1]
def t34RZq:List Nat:=[197,70,334,65,70,35,14,11,4,70,3,11,25,25,7,15,14,10,18,9,2,1,2,1,1,2,0,1,1,1,1,0,1,0,1,1,0,1]
def t35RZq:List Nat:=[786,0,238]
def t36RZq:List Nat:=[1002,1,21]
def t37RZq:List Nat:=[3,973,6,12,12,6,6,6]
def t38RZq:List Nat:=[492,281,136,75,23,14,3]
def t39RZq:List Nat:=[369,298,81,74,70,57,29,27,18,1]
def t40RZq:List Nat:=[33,7,339,47,432,27,93,13,20,13]
def t41RZq:List Nat:=[924,100]
def t42RZq:List Nat:=[33,352,466,106,47,13,7]
def t43RZq:List Nat:=[53,904,60,7]
def t44RZq:List Nat:=[341,213,196,59,28,22,22,22,20,17,14,14,11,6,6,6,6,3,3,3,3,3,3,3]
def t45RZq:List Nat:=[260,135,94,81,81,67,67,54,40,27,27,13,13,13,13,13,13,13]
def chRZq (n:Nat):List Char->Nat
 |[]=>n
 |c::l=>chRZq (n*64+(if c.toNat<92 then c.toNat - 58 else c.toNat - 59)) l
def ndRZq (_:Prop):Prop:=True
structure SdRZq where
 s:Nat
 m:List Nat
 l:List Nat
 d:List Nat
 c:List (Nat×Nat)
def RdRZq (α:Type):=Nat->SdRZq->α×Nat×SdRZq
section
variable {α β γ δ ε ζ:Type}
def puRZq (x:α):RdRZq α:=λn s=>(x,n,s)
def bdRZq (x:RdRZq α) (f:α->RdRZq β):RdRZq β:=λn s=>match x n s with
 |(a,n,s)=>f a n s
def m1RZq (f:α->β) (x:RdRZq α):RdRZq β:=λn s=>match x n s with
 |(a,n,s)=>(f a,n,s)
def m2RZq (f:α->β->γ) (x:RdRZq α) (y:RdRZq β):RdRZq γ:=bdRZq x λa=>m1RZq (f a) y
def m3RZq (f:α->β->γ->δ) (x:RdRZq α) (y:RdRZq β) (z:RdRZq γ):RdRZq δ:=bdRZq x λa=>m2RZq (f a) y z
def m4RZq (f:α->β->γ->δ->ε) (x:RdRZq α) (y:RdRZq β) (z:RdRZq γ) (w:RdRZq δ):RdRZq ε:=bdRZq x λa=>m3RZq (f a) y z w
def reRZq (x:RdRZq α):Nat->RdRZq (List α)
 |0=>puRZq []
 |k+1=>m2RZq .cons x (reRZq x k)
end
def fiRZq:List Nat->Nat->Nat->Nat->SdRZq->Nat×Nat×SdRZq
 |f::t,r,i,n,s=>if r<f then(i,f*n+r,s) else fiRZq t (r - f) (i+1) n s
 |[],r,i,n,s=>(i,n+r,s)
def syRZq (t:List Nat):RdRZq Nat:=λn s=>fiRZq t (n % 1024) 0 (n / 1024) s
def raRZq (k:Nat):RdRZq Nat:=λn s=>(n % k,n / k,s)
def nuRZq (e:Nat) (t:List Nat):RdRZq Nat:=bdRZq (syRZq t) λx=>if x=e then m1RZq (λy=>x+y) (raRZq 1024) else puRZq x
def slRZq (v:Nat):RdRZq Nat:=λn s=>(v,n,{ s with m:=v::s.m })
def deRZq (x:Nat):RdRZq Nat:=λn s=>(s.s - x,n,s)
def boRZq:RdRZq Bool:=m1RZq (λx=>x==1) (syRZq t0RZq)
def uRZq:RdRZq Nat:=(nuRZq 17 t1RZq)
def vRZq:RdRZq Nat:=(nuRZq 32 t2RZq)
def inRZq (x:Nat):List Nat->List Nat
 |[]=>[x]
 |y::l=>if x<y then x::y::l else if x=y then y::l else y::inRZq x l
def fkRZq (l d:List Nat):List Nat->RdRZq (List Nat)
 |[]=>puRZq []
 |x::c=>bdRZq (syRZq (if l.contains x then t3RZq else if d.head?==some x then t5RZq else t4RZq)) λk=>if k=1 then m1RZq (λr=>x::r) (fkRZq l d c) else fkRZq l d c
def kpRZq:RdRZq (List Nat):=bdRZq (syRZq t6RZq) λe=>bdRZq (if e=0 then λn s=>fkRZq s.l s.d (s.d.foldl (λl x=>inRZq x l) s.l) n s else bdRZq (nuRZq 1 t7RZq) (reRZq (nuRZq 1 t7RZq))) λr n s=>(r,n,{ s with l:=r })
def qRZq:RdRZq (List Nat):=bdRZq (nuRZq 6 t8RZq) (reRZq (nuRZq 1 t9RZq))
def gdRZq:RdRZq (Option (Nat×Bool)):=bdRZq (syRZq t10RZq) λx=>if x=0 then puRZq none else m2RZq (λv b=>some (v,b)) (if x<5 then deRZq x else vRZq) boRZq
def dsRZq (x:Nat):RdRZq (Option Nat):=if x=0 then λn s=>(some s.s,n,s) else if x=1 then puRZq none else m1RZq some (nuRZq 30 t11RZq)
def orRZq (c:List (Nat×Nat)):List Nat->Nat
 |[]=>0
 |v::m=>((c.lookup v).getD 0) ||| orRZq c m
def msRZq (a:Nat):Nat->List Nat->List Nat
 |0,l=>l
 |i+1,l=>msRZq a i (if a / 2 ^ i % 2=1 then i::l else l)
def afRZq (i:Nat):RdRZq Nat:=bdRZq (syRZq t12RZq) λk=>if k=0 then λn s=>(orRZq s.c s.m,n,s) else if k=1 then puRZq (2 ^ i - 1) else raRZq (2 ^ i)
def fnRZq (dr:Bool) (i:Nat) (d:Option Nat) (x:Nat):RdRZq (List Nat):=bdRZq (if dr then afRZq i else puRZq 0) λa n s=>(if a=0 then[] else msRZq a i [],n,match d with
  |some v=>⟨if x=0 then s.s+1 else s.s,[],s.l,if s.d.contains v then s.d else v::s.d,if dr then(v,a+2 ^ i)::s.c else[]⟩
  |none=>s)
def stRZq:RdRZq Unit:=bdRZq (syRZq t13RZq) λx=>bdRZq (if x<8 then puRZq 0 else raRZq 1024) λr n s=>((),n,⟨if x<8 then s.s+x else r,[],s.l,[],[]⟩)
def kcRZq (k d:Nat):Nat:=if k=2 then(if d=0 then 1 else 2) else if k=10 then 3 else if k=5 then 4 else if k=3 then 5 else 6
def ktRZq:Nat->IV
 |0=>.bool false
 |1=>.int .i64 1
 |2=>.int .i64 0
 |3=>.bool true
 |4=>.int .i64 4
 |5=>.int .i64 8
 |6=>.int .i64 2
 |7=>.int .i64 9223372036854775807
 |8=>.int .i64 100
 |9=>.int .u64 0
 |10=>.int .i64 (-1)
 |11=>.int .i64 (-9223372036854775808)
 |12=>.int .u64 18446744073709551615
 |13=>.str ⟨#[]⟩
 |14=>.int .i64 20
 |15=>.int .i64 16
 |16=>.int .i64 3
 |17=>.int .i64 6
 |18=>.int .i64 40
 |19=>.int .u64 10
 |20=>.int .i64 1000000
 |21=>.int .i64 12
 |22=>.int .u64 16
 |23=>.int .u64 48
 |24=>.int .u64 8
 |25=>.str ⟨#[0,1,2,2,3,3,3,3,4,4,4,4,4,4,4,4,5,5,5,5,5,5,5,5,5,5,5,5,5,5,5,5,6,6,6,6,6,6,6,6,6,6,6,6,6,6,6,6,6,6,6,6,6,6,6,6,6,6,6,6,6,6,6,6,7,7,7,7,7,7,7,7,7,7,7,7,7,7,7,7,7,7,7,7,7,7,7,7,7,7,7,7,7,7,7,7,7,7,7,7,7,7,7,7,7,7,7,7,7,7,7,7,7,7,7,7,7,7,7,7,7,7,7,7,7,7,7,7,8,8,8,8,8,8,8,8,8,8,8,8,8,8,8,8,8,8,8,8,8,8,8,8,8,8,8,8,8,8,8,8,8,8,8,8,8,8,8,8,8,8,8,8,8,8,8,8,8,8,8,8,8,8,8,8,8,8,8,8,8,8,8,8,8,8,8,8,8,8,8,8,8,8,8,8,8,8,8,8,8,8,8,8,8,8,8,8,8,8,8,8,8,8,8,8,8,8,8,8,8,8,8,8,8,8,8,8,8,8,8,8,8,8,8,8,8,8,8,8,8,8,8,8,8,8,8,8]⟩
 |26=>.fn 51 []
 |27=>.int .i64 100000
 |28=>.int .i64 120
 |29=>.int .i64 300
 |30=>.int .i64 32
 |31=>.int .i64 7
 |32=>.int .u32 256
 |33=>.int .u32 65536
 |34=>.int .u64 1
 |35=>.int .u64 256
 |36=>.int .u64 32
 |37=>.int .u64 4294967296
 |38=>.int .u64 65536
 |39=>.str ⟨#[126]⟩
 |_=>.str ⟨#[45]⟩
def oRZq (t:List Nat):RdRZq Opd:=bdRZq (syRZq t) λx=>if x=0 then m1RZq (λk=>.c (ktRZq k)) (syRZq t15RZq) else m1RZq .t (bdRZq (if x<7 then deRZq x else vRZq) slRZq)
def ztRZq:Nat->List IV
 |0=>[.bool false,.nsl 2,.bool false,.nsl 1]
 |1=>[.int .i64 0,.int .i64 0]
 |2=>[.bool false,.nsl 2,.bool false,.nsl 1,.bool false,.nsl 2,.bool false,.nsl 1,.bool false,.nsl 2,.bool false,.nsl 1,.bool false,.nsl 2,.bool false,.nsl 1]
 |3=>[.int .i64 0,.int .i64 0,.str ⟨#[]⟩]
 |4=>[.str ⟨#[]⟩]
 |5=>[.int .i64 0]
 |6=>[.int .u8 0]
 |_=>[.int .i64 0,.int .i64 0,.int .i64 0,.int .i64 0,.int .i64 0,.int .i64 0,.int .i64 0,.bool false,.nsl 2,.bool false,.nsl 1,.nsl 7,.int .i64 0,.int .i64 0,.str ⟨#[]⟩,.int .i64 0,.int .i64 0,.str ⟨#[]⟩,.int .i64 0,.int .i64 0,.str ⟨#[]⟩,.int .i64 0,.int .i64 0,.str ⟨#[]⟩]
def zRZq:RdRZq (List IV):=m1RZq ztRZq (syRZq t16RZq)
def LRZq:RdRZq (List Opd):=bdRZq (nuRZq 6 t8RZq) (reRZq (oRZq t17RZq))
def btRZq:Nat->BinOp
 |0=>.add
 |1=>.lss
 |2=>.eql
 |3=>.gtr
 |4=>.sub
 |5=>.neq
 |6=>.geq
 |7=>.leq
 |8=>.shr
 |9=>.quo
 |_=>.rem
def BRZq:RdRZq BinOp:=m1RZq btRZq (syRZq t18RZq)
def utRZq:Nat->UnOp
 |0=>.not
 |_=>.neg
def URZq:RdRZq UnOp:=m1RZq utRZq (syRZq t19RZq)
def itRZq:Nat->IntKind
 |0=>.u64
 |1=>.u8
 |2=>.i64
 |_=>.u32
def kRZq:RdRZq IntKind:=m1RZq itRZq (syRZq t20RZq)
def P2RZq:RdRZq (List (Nat×Opd)):=bdRZq (nuRZq 6 t8RZq) (reRZq (m2RZq .mk (nuRZq 15 t21RZq) (oRZq t14RZq)))
def P3RZq:RdRZq (List (Nat×Nat×Opd)):=bdRZq (nuRZq 6 t8RZq) (reRZq (m2RZq .mk (nuRZq 15 t21RZq) (m2RZq .mk (nuRZq 15 t21RZq) (oRZq t14RZq))))
def ORZq:RdRZq (Option Opd):=bdRZq (syRZq t22RZq) λx=>if x=0 then puRZq none else m1RZq some (oRZq t14RZq)
def fRZq:RdRZq Opd:=bdRZq (syRZq t23RZq) λx=>if x=0 then m1RZq (λf=>.c (.fn f [])) (raRZq 512) else oRZq t14RZq
def opRZq (d:Nat):Nat->RdRZq IOp
 |2=>m1RZq .mov (oRZq (if d=0 then t24RZq else t25RZq))
 |3=>m3RZq .load boRZq (nuRZq 17 t26RZq) (oRZq t14RZq)
 |4=>m4RZq .bin BRZq uRZq (oRZq t14RZq) (oRZq t14RZq)
 |5=>m2RZq .fadr (nuRZq 15 t27RZq) (oRZq t14RZq)
 |6=>m3RZq .call uRZq fRZq LRZq
 |7=>m3RZq .isl uRZq (oRZq t14RZq) (oRZq t14RZq)
 |8=>m2RZq .len boRZq (oRZq t14RZq)
 |9=>m3RZq .pick (oRZq t14RZq) (oRZq t14RZq) (oRZq t14RZq)
 |10=>m1RZq .nchk (oRZq t14RZq)
 |11=>m1RZq .box (oRZq t14RZq)
 |12=>m3RZq .store uRZq (oRZq t14RZq) (oRZq t14RZq)
 |13=>m2RZq .un URZq (oRZq t14RZq)
 |15=>m4RZq .bsl uRZq zRZq uRZq P2RZq
 |16=>m1RZq .alloc zRZq
 |17=>m2RZq .build zRZq P3RZq
 |18=>m3RZq .app uRZq (oRZq t14RZq) (oRZq t14RZq)
 |19=>m2RZq .ext (oRZq t14RZq) uRZq
 |20=>m4RZq .iarr uRZq uRZq (oRZq t14RZq) (oRZq t14RZq)
 |21=>m1RZq .nil0 uRZq
 |22=>m2RZq .cvi kRZq (oRZq t14RZq)
 |23=>m4RZq .slc uRZq (oRZq t14RZq) ORZq ORZq
 |24=>m2RZq .mkf uRZq LRZq
 |25=>m2RZq .mn (oRZq t14RZq) LRZq
 |26=>bdRZq boRZq λa=>m4RZq (.xarr a) uRZq uRZq (oRZq t14RZq) (oRZq t14RZq)
 |27=>m2RZq .mx (oRZq t14RZq) LRZq
 |29=>m4RZq .eqc boRZq qRZq (oRZq t14RZq) (oRZq t14RZq)
 |34=>m1RZq .cvb (oRZq t14RZq)
 |35=>m2RZq .xstr (oRZq t14RZq) (oRZq t14RZq)
 |37=>m3RZq .clr uRZq zRZq (oRZq t14RZq)
 |_=>puRZq default
def kiRZq (p:Nat):List Nat:=match p with
 |0=>t28RZq
 |1=>t29RZq
 |2=>t30RZq
 |3=>t31RZq
 |4=>t32RZq
 |5=>t33RZq
 |_=>t34RZq
def osRZq (dr:Bool):Nat->Nat->Nat->Option (Nat×Bool)->RdRZq (List IOper)
 |0,_,_,_=>puRZq []
 |f+1,i,p,g=>bdRZq (syRZq (kiRZq p)) λk=>if k=0 then puRZq [] else if k=1 then bdRZq gdRZq (osRZq dr f i p) else
  bdRZq (if k=12\/k=37 then puRZq 1 else syRZq (if k=2 then t35RZq else t36RZq)) λd=>bdRZq (dsRZq d) λe=>
  bdRZq (λn s=>opRZq d k n { s with m:=match g with
   |some q=>[q.1]
   |none=>[] }) λo=>bdRZq (fnRZq dr i e d) λa=>m1RZq (λr=>⟨e,o,g,a⟩::r) (osRZq dr f (i+1) (kcRZq k d) g)
def icRZq:Nat->RdRZq IC
 |0=>puRZq .skip
 |f+1=>bdRZq (syRZq t39RZq) λx=>match x with
  |0=>m2RZq .seq (icRZq f) (icRZq f)
  |1=>bdRZq stRZq λ_=>m2RZq (.rgn false) (osRZq false 9999 0 0 none) kpRZq
  |2=>bdRZq (oRZq t37RZq) λc n s=>(λl=>bdRZq (icRZq f) (λa n s=>m1RZq (.cond c a) (icRZq f) n { s with l:=l }) n { s with l:=l }) (match c with
   |.t v=>s.l.filter (·!= v)
   |_=>s.l)
  |3=>puRZq .skip
  |4=>puRZq .ret
  |5=>m2RZq .block (nuRZq 6 t38RZq) (icRZq f)
  |6=>m1RZq .exit (nuRZq 6 t38RZq)
  |7=>m2RZq .loop (λn s=>kpRZq n { s with d:=[] }) (icRZq f)
  |8=>bdRZq stRZq λ_=>m2RZq (.rgn true) (osRZq true 9999 0 0 none) kpRZq
  |9=>puRZq .skip
  |_=>puRZq .skip
def irRZq:RdRZq IRes:=bdRZq (syRZq t41RZq) λx=>match x with
 |0=>m1RZq .t (nuRZq 9 t40RZq)
 |_=>m3RZq .cell (nuRZq 9 t40RZq) boRZq uRZq
def ifRZq:RdRZq IFn:=bdRZq (nuRZq 6 t42RZq) λn=>bdRZq (bdRZq (nuRZq 3 t43RZq) (reRZq irRZq)) λr=>m1RZq (λb=>⟨n,r,b,none⟩) λm s=>icRZq 9999 m ⟨n,[],List.range n,[],[]⟩
def nfRZq {x:IFn} (s:String) (_:ndRZq ((ifRZq (chRZq 0 s.toList) ⟨0,[],[],[],[]⟩).1=x):=by
 refine(?f:?P->ndRZq ?P) ?p
 case p=>set_option maxRecDepth 1000000 in conv=>lhs;cbv
 exact λ_=>trivial):IFn:=x
attribute [simp] nfRZq
def F8:IFn:=nfRZq "NyW@SO]upx[O[EJ=Lb:FeKmTaaeMRZ`HJ_wy_AGjQPsMnZ_MicKFsE"
def F17:IFn:=nfRZq "t`eAVJVXlePXpkxXAGTQP:_gUWME^`RH^HDe`Fr[kC=opE@WiSaKzCVPrc"
def F19:IFn:=nfRZq "FyfOGpX_zHOOisjYi?ELxtAZ?mJmxUNWmf]V?yYfoxmz:SWZhixn"
def F20:IFn:=nfRZq "Kura``yfll;UqZmIpgEwaRLvNrK[eUDtx[jXy<KzrcWrFH[NaspuWZJaJO`Zfel=SgnH^KnBbftN"
def F23:IFn:=nfRZq "=q``sE>gfjfLlUU_MoKjjaVueX@MXN[K[aRFCE`oIqv^g:brEC><zbi?lfcef=nXUqFCef:[_UjEeEGfR<sECqnNBk`JIEqcSrRgVWCoy?ERl;mJUHk^[@uTVSKzGtMjqFsGsJ^QkSed;i]GLAmjUt<ysXIyPkdnR[<>:]LwZHtcnLUo@B]Is[e`Uj"
def F24:IFn:=nfRZq "qimH=x:`fsuv=xWpPzpFYDKch>n"
def F26:IFn:=nfRZq "<gyCvTzAl`n=H]loZ]G@L<espub]"
def F27:IFn:=nfRZq "<O@t]xQqxGcGawBKO`[lCEV;icIGVfmga<ZFrPeY>myHcZHSzTO<U;CAw:gg;dopYQgm;KCEqccd:XdVIjDSD_f_pWe=[D<=sBrKWNgthw;TEH_qS;hj]@l`"
def F30:IFn:=nfRZq "=AN<a>Drwn_`eW=Ce]J>kZ^iJt`DiD:o@aXaR?TX@WtRadNvH]cQsMyHf[=_fGIUtBXuwuiS_?Y^euRcj[G_KK;OVwrFK:"
def F32:IFn:=nfRZq ">Eb[QZUrNKqGjcc>uyFkPQU_?OuMFFS_?PF:>t@j>ea=d=vMYnIFfD@ctJ?oj`cTekqhEaJoq]EhI"
def F33:IFn:=nfRZq "=Z^L@fmOED>uwX]mnZE<atHdLyTD`DER@rMQUJWoowdnOZiunVvtB^hAIbU<CueCpBvJp[>dCm"
def F34:IFn:=nfRZq "krDGj_AhOoBMfJaticB<U^UBEW?Wa<jJaCffeNqnpn_INWMl"
def F35:IFn:=nfRZq "ETr;JQIe];kcTdxfhpnjY@Y:BUZ_C]luU?_ZrWQAZmAKKZb@`qlMYJgZb;?>SYYnz@XOAtOwYHDbxWxVx"
def F36:IFn:=nfRZq ";qUETv[C]oSrUZiTtiqI:;ybnAk_W:"
def F37:IFn:=nfRZq "viy:aoJTmoD]dMIyIdxtWQ[oLSRjGd@>SZEeK]SNBGWzvLi=sqiL:Ya^MferUrRHkKgykpxhKzklobo@czlDvHzcTgblgSwYqVVFMM@_A>Ji:NPSm?g_yE:=RURRAiLQuaVl]AHTTMtSIL[`t@v^>JmMrR^<JM_>fSPuCukagZL]"
def F38:IFn:=⟨1,[.t 2],
  .skip,some (2,[.int .i64 0,.int .i64 0])⟩
def F39:IFn:=nfRZq "acvDgCTrXj;Ipqv<<UW[J<vhz]w_KKfeWYL=z[>KtMEgx@fAApP>;fvgm<vht"
def F40:IFn:=nfRZq "TznrHc^YWB>WlGgb;t`?Hth<a?=F;"
def F41:IFn:=nfRZq "ElgeSJIyFTbnsCd<cag?dro?vHhfufNSE`S[KXzl=aR;LR_E<^=XHURnRCo:v<Eh]YeLWfSeU>C@JMZxzJEoZ>RcMbTmWRjUpD@KM`Sr`[kad=q[BizKAwSVdSaG<`hnFHK]l`zpU^drPX]aPs[Ugql<Bf?f[PI`KVpN@>=EpUk;Y?geNwM"
def F42:IFn:=nfRZq ";S`mYnulw[F`QqQ=aH;pPQoV]Vattnax`<;l><lMSMD?RqhOkE"
def F43:IFn:=nfRZq "avmClgsZoJo_;eLqXpZdjObmT<EsLhTp]qlUdx=jXdTeguvlLdvaRqqFRKtUxcqg]oqbkaHt;PNZFJvBc=GFicCLg"
def F45:IFn:=nfRZq "BQUY::VMtyVYpZN]>>xT[uSeHvvwKoi>`Vtah?@Snyu:sAgQPXpqBzYEj]i"
def F46:IFn:=nfRZq "BQUY::VMtyVYpZN]>>xT[uSXzBGY;dkwZSDLK`vqhWBJYRIVG`zGhoZq[>a"
def F47:IFn:=nfRZq "=chY;nkg>tSesEJYa<sI_N;olllgQzJ>UMqAmgy;R>QPzqvhw[XtvKkwLlfoZrJvO<HyHJdpmAEH^uPR^mhEgU:SNJDlKayvFX;OLylnSA<cyBrxmKEMNxwRXm>jYnc?]bO<KB?l=U^Zj"
def F48:IFn:=nfRZq ";u;kjfKM=`POhIj=rIz;NEymmamAVXwxnDJ<_?Z@T>XoIHeCFnhwye^vG_Uo=a@u"
def F49:IFn:=nfRZq "<_vNiIS>VSzdN:zZ`FLsGnV>cja;:kZmtPPUoewEdrOjBAs"
def F50:IFn:=nfRZq "?Zurspp^m_bo]PcGVb_T=wDq"
def F51:IFn:=nfRZq "E;eARyRSNXl>xFz_EaBP"
def F52:IFn:=nfRZq "CBtD_UkLmbaQX?aAjw`L>NEuABPWpnZlEaSx_mi@Pxi=eMAnkbla>KuRTMk;GKg[]GWsG`vmIbzYTbi"
def F53:IFn:=nfRZq "NFIhVA_]U]nruaEH"
def F54:IFn:=⟨1,[.t 2],
  .skip,some (1,[.str ⟨#[]⟩])⟩
def F55:IFn:=nfRZq "fG:LuLPFDjOyp@<bZ:Pq[w"
def F56:IFn:=nfRZq "rNgYSCmQWl_?yiA;RCeap`eVZJnPirhF_?s`cq;;_PQQ>Aq<gLpYDW@BFb=EPS<H?voR:rEPO^Waj;vLNadHyMlx[T[oKeIGhuyrHxWFMxBsJNQ?iHzWcuXqdvnUObbPICl?@XVEzEwx@f<VUN;QUBaMtazO`"
def F57:IFn:=nfRZq "=Iz^>_?CcYxZ[WZdBEqN@FPyHJM"
def F58:IFn:=nfRZq ";JT;NHnLA^SXyc@d<[aY?mBtL:@n?hWbqefW=L@;[:k?XDtOc@C`fcm`GQ>`<uonOQSHinf?ZzJZvWNdL[w[]D<I?r?niDp?lwrNJH?chuHatSZeVglGYTILUbcvqN]_NlsuZhPoMjRefGzkjoEyBixe^vmsJ`<pJbNESx?QR:vF_OYktJy@V_wv?HlcjLFPYxyCcl=PmB[PFj]]nwZZw:rE[A"
def F59:IFn:=nfRZq "?AHAobj[rQkOpIeZI?]oXHhJ:yqFjKXPtzls<``RLBU^oCvzPUVf=m[rlv"
def F60:IFn:=nfRZq "AXvZ[wV>pO?rPX@PYcbyqK?CWHoqpHHazOvBjLKb<FHqrWT"
def F61:IFn:=nfRZq "SSePXnuU[Zvw<x:e;?HQW=`FyN@hLn_u[VjbmyRYcHdugldlei]TJtqvJxhKgxmovutNnMbbdugs_kVm^hGNEwPchZBITeUSXiRQ:Lcyhq`Lo]bGwDcx=q?=xXAcmdUIOzpYsiV`EN[SljD;Mg`qqJjYcY]@V?;CjOxtQrx_YWqQ__nMe_gUzNzwKQJlteizubS]YHaD^q^TZlu=t`y`B@Ecp^oQ=JHRpZXTfWOC>]`ctid:qk<<b?Zsbf`Z:=yNlntZ?AUTlWNuoxQuHGP?ANdFzIhb??Ds]WYuQDpRGpBNtsviqt??d>JNfZtir<Mt>;Q=?R;ARAmGts?suU=uqx`^]Zo_MeIdoB<kk<?>liq=HLjF]_vYp"
def F62:IFn:=nfRZq "<<B:Q;Zl`:tCopAC;]S>qGN[m"
def F63:IFn:=nfRZq "<mG`JaE@QVULa"
def F64:IFn:=nfRZq "DUc?id?e[VbJ?HBfMgfyyCD[P`s<bHeyX`cj`liVOeUm<nyUHaR"
def F65:IFn:=nfRZq ";[yT@c][[GIJhvT[DxGCZIDmDLPj:a`dguO@:CBkikokXTl@iZygras?DEhbEU<NMZOcl=_yKKn;LczB@OCT]B]ku:[CmfupRrfndj?^zd`[@B_<:xJ:Bq[SOHDO]TmQOJeTAd=V:neEuqDtV@RG`hUKCIPHOFL;iw;w^AjtBIVDNN]t`gOWwZOd<JQeUQQ?ylOevahHnKkIsof><oJr=KsYQWFB@fbJRVxF=FJlBYavW_Kf`ZlZOesgFe:FyYEblU@PqcAZtdMIzq`:EGQHRf;`[K@`<OlDYam?:BmqBu<eMz;j@rQstIiwqGSbI:JyTItGuCbvTDCbyx"
def F66:IFn:=nfRZq "@_U_wfnWHdQN<aBToRqnfmbqslPTGubdE@gFjl=``[A"
def F67:IFn:=nfRZq ">y>bPneFnAlncWnXX@T?^=k=cZpPlEscJwXtEL<Hq`Coh>[CD[lIFV<We;nSMdHilOYNJFU?OH^lRE"
def F68:IFn:=nfRZq "@Gcyq[pikSPgx`TRT;c@zrjR@TnGXj=Xvdp<uMY:=aOOPtaiTC]hOPBBCv^pR:`bqaf=zHWfFEbjyXiOU]GV[Mv_UIXS<AXZEZje[QuuWANagARn>FK<Kix]F?LpOE<QfVaI]"
def F69:IFn:=nfRZq ">_y<Ac?qRlxbogvYg_lCsZwrkuOS^jQUOiOuyK[@JaGkTDNPF_X?;pNc<emL"
def F70:IFn:=nfRZq ";BTUsCxEX[jDm`XXX?eCnPyFHFIpc`zdSlppXnabAEpbFJjv`UFSE@J?uEsKrhDTCYZnomk;wsCGG;dpm"
def F71:IFn:=nfRZq "LxOPgUxEoha:Maq:?Bs:ddVOhSxIA_FwVhKJ;qNUphhYVClDtFlwSinvMXaMjBIVDNKdGPfdWUJy@:lG@kdNyaom^tIsvdSd>gIOOCzTAnp=D[QL;E^mpH^"
def F72:IFn:=nfRZq "JzFcIrCTHjSjTx^QUXvR_?]z?`=FUdA"
def F73:IFn:=nfRZq "??WRebfZ@DuyEu`dL?F<EW`FU@n"
def F88:IFn:=nfRZq "<mG`JaE@QVULa"
def F98:IFn:=nfRZq ";LXg`pjTgybbI>AudgMsIutmEfw_Y=V;D[QqjgkWClJHtknDEPRJ@_HxmDhSXEx@y?ZHIbQsKyTq`TB<@TJMN"
def F99:IFn:=nfRZq "=>Vwb:vaePlpLhLMAEpRd`]:[t[zW=V:hU[QpNHZL>lB:aMoA=Js;LRAGx<UmRdVpol?QqePwNk`cFr:[PMmg=s:<NOrw@qjPPRw;hpPT`aBVugrlvimHMCcJCGRNQVKaprijB[knzq=V>:ah_XroKXzMb`B_=MHW>Csp^O>AjMoJynh"
def F100:IFn:=nfRZq "BSXkQEGNmjxURUqfv:tRTvHubc?v>Ynld>uh;^SSsG;Sda:^"
def F101:IFn:=nfRZq "BSXkQEGNmjxURUqfv:tRTvHubc?v>Ynld>uh;^SSsG;Sda:_"
def F103:IFn:=nfRZq "@H;mSE;EsGiOyQc]f`wu>zgLaJ_:^ELACE]`otN<A^RHVoL"
def F104:IFn:=nfRZq "Hu;NFal[lpT_CdE>?oAo?sBe=Wkmnif_NHGJaWaqnvAeX>CoSzo^gBsIEEp;BNy`CnAGDe:OdW"
def F105:IFn:=nfRZq "twkTyuM;IlwM=CpnuG>]=_f_l=yW_HomEtK>EjTUICqsgkYuIlCvZFuFMeW]Yw:jXKTy;Gr_^vUCirwGEpK]:iXWlRLeDlFjMM?nSjbDCCPFeqf[dLnNTYK<<HV[zcv>>OZzVSi_Rmt=qhA`]dlQN_<uWFNkb;Al?dIW[;`;^RNlBlZHnHuRM^>;wKnoqoeBRIiZuU>mptOH`WNY_]X"
def F106:IFn:=nfRZq "qimH=x:`fsuv=xWpPzpFYDKch>n"
def F108:IFn:=nfRZq "@_U_wfnWHdQN<aBToRqnfmbqslPTGubdE@gFjl=``[A"
def F109:IFn:=nfRZq "<EqLcdbDHxIqXhcIFghuUm<]oAKnsJdAIGHob;`Oa?h@U^H?yo[VShdlT;zL?aftFyWn`^gW<eLLmKJxcuElSXB]XcMci`WE^"
def F110:IFn:=nfRZq ";SWgXKSWGqRX<YnLAYnFinQs^VWx?@Sv?Hd=Gv[<WNB[LMNpNCRLvYvgQ]iRo[WNYi;?LFvG[fM?vxwHR[:YGeLHj;nnyWP<YmpeLIDen`:OfJMsnm>xXkOvyENSVLuyi^embwDcNsmlViSmt>LhIw^k[Rs=]yXV`BV<Zm>IjQm<pmWmuCNvYBSTySn^kRb]Z;tVDWjOBgmAGtbBC]BsAraQ?[Ws>]vlQqF@<z_XNSZpBEBGrIdn[hPEIt?ICUlTDyDNFZenCWn?I=E"
def F111:IFn:=nfRZq "<Mu[?J=LE=bqDfqAOJ?cstMN_;BcK=:GYGFOKsuG:rsRCZvuJinvtGfBitXowiNTxAoxOHQkDZ:zytqmF@aRAYHkoCcBg>PeLQ_?gD<ba>"
def F113:IFn:=nfRZq "<kX^RE_UulCYFUF;cj?XhqPKD]n?nOdGtSgRvRWziL;k"
def F114:IFn:=nfRZq ";;yrwtZJig_Kd`HTfNY<mnuGFhfq=XehVb=BzrvcrYtLpP>XyRRLOLP^i"
def F115:IFn:=nfRZq "FQOA>]kJP?EFAtrAf@At>Z_G;hEYkAXd`_sRFP[mNwseBAb[q<ShtGo=@m^wur@qY_rBu_"
def F116:IFn:=nfRZq ";seJDbFJH?oOQjkRi@i>osxrp?WERyxxD_=wvxSgM;AfQJpHfv[:EkJbMPXLCKwAjjU@nxKfP_jKRWNX@@wiyVBVifyA^"
def F119:IFn:=nfRZq "V?cyt<`IP:ph^VBUjmRX"
def F120:IFn:=nfRZq "?bUPjXpnp<=y`XwXdS;"
def F121:IFn:=nfRZq ">VnjLjzt`=Kckr^BYh:TBCr@w=KasMiziv:su=c?nqJrEBB@fN_ONGfbEQHvM:o@[G=LreBn[HhkMfzTq`^>NyDzDjaUPJqryB[NhRAiXsT@q<ZWc:[STehtN"
def F122:IFn:=nfRZq ";Z=YInQfeXFmCyDlaio?ieTx<eEfTY?JABC?G[X`_KBuRTPdx]:Wz`fl`<=?]zcg^WrUFs[Af"
def F123:IFn:=nfRZq "<;QjuXGRPWi^f]Z<ZhgPu<xqP>wpJcNpS@rsOrp^`nHIyyHgb]eY`ynlawYJGnsES"
def F124:IFn:=nfRZq ";n_XoijKx^kOu^hwoIGyVKKB<bape<FtN`qNa<QyoszydMCESvhORnKyeh]lBZyAypDn?v<niwjXpQyYEt;TO^jZAjvIrMgRNzAHT`^Rhb?fzPpXrrUdSP=dDY"
def F125:IFn:=nfRZq "BKGanKaJ;l;YjsQwok=yoiM;i@[UzCrrg_:pbhV_AVkeSwt>wic_C@<SCRRsC"
def F126:IFn:=nfRZq "@<p[N`>zK`d[Lchh]Gil_jv<rO[PuqxM[:BWL"
def F127:IFn:=nfRZq "=WheNXfwPUkupbZ@HhXlfM?^]FT_^tS@Vvo=[ImMVlbF>rmfOhh`^dokcFErelVdXZDbth?MDiFgEDOdfzvj"
def F128:IFn:=nfRZq "bOUQv?qAKuB[fj<>[m[RQSwcoVgAE"
def F129:IFn:=nfRZq "Yar`yUmIDIweipOw:PUT:_Li:efDvinpMlEaQbcwqcXNTZa"
def F130:IFn:=nfRZq ";DyjcdLimBz=i@YazhAT@OhAYXiYHp_K>t:fHbgB]pke:nch@j`bK:W?szhPms^xEugHduSc[NcZ@BYsuRjAurf?EVv[VyiJLPenvVnP;j"
def F131:IFn:=nfRZq "=J:Pnj:uhb:g[rWosp^x=K?So]:<_td_aoGGOgnu?zTAXhpPD`WQRQC]<zHVAF=CXELfeTZUWXktBPLrSNVftWw`;y=]mwHyLwrIMyh;`t`:K`SUGvEoo@Cnes@AK]zTX?yg_`X_x>s^GExft?Sb`eIUjvK<CpmwTXiPmjWCUZdupXSaAwZn`IaMGG_]`_y"
def F133:IFn:=nfRZq "MfbgICS^Hw`fzBSGQQrcnIk;mcPzeVxWvzbrFvImans:Ev;s_h^JkwHOVrV@BXFjfF=NVpK<xD?yhkd>lpZawwe<wjQZqpsHfyjy`FPC?a["
def F134:IFn:=nfRZq "B[?kIIfavxscrjsNlxpFuKqsBSI_^y"
def F135:IFn:=nfRZq "eBINBrOsyem_gr>ytMJIYbRSuc"
def F137:IFn:=nfRZq "=wlxuax@e<msIGY^BTf[FahipzDFK`>AW[gMYR_cRTRCWhTpjibFygI>uON["
def F138:IFn:=nfRZq "k>I=Chok=jc[h>KF>jGh]ofP<sW@q_JkXd@S;cxfL]XFvZbu@mAV^ZnD>Fi?VYNyDTEvYvwLKI_gk]DTVKs"
def F141:IFn:=nfRZq "NFIhVA_aqrdRL>dR"
def F144:IFn:=nfRZq "NFIhVA_aqrdRL>dU"
def F145:IFn:=nfRZq "NFIhVA_aqrdRL>dV"
def F148:IFn:=nfRZq "@K@<v^uThiStgzo]EWEYBDylhFKZ<LWzy?Or]Oqmy=oIrctaiyPS["
def F151:IFn:=nfRZq "=mVAWWRmKxtX<jA:Wf[SPqzeSoCXpdSh]iTwFb_Y@cbzruaflRDBv"
def F152:IFn:=nfRZq "DUc?id?e[VbJ?HBfMgfyyCD[P`s<bHeyX`cj`liVOeUm<nyUHaR"
def F169:IFn:=nfRZq "@bUOo]Alt:YhgM><mkrwDyLqNh:=uVhvryJ<JVcd]tLx^wTAECr>HpmUq]uMvHesI?UsKLUQoXOw=rdSrc;EP^ItM"
def F170:IFn:=nfRZq ">mLti>JU>cCWw[[V?;Pu?M`V]epCZhcpORtNsUEjMhaJyic:Z>bpqHdpU<iEjxwb^zFqQSoJYfMyHPs_@UCnAqgpv`F<"
def F203:IFn:=nfRZq "<t?Yc=;R_UUqUQhR>U[kzCdQUOk_=gq;=Ca@jFfMFmBP[=V?N"
def F167:IFn:=nfRZq "An:[=]gBs@IzY?imccMANDdycF<KHrkukd"
def F166:IFn:=nfRZq "?v]t@aHfm=f;aELH=hTP?evof"
def F168:IFn:=nfRZq ">ae^tpmQBd>MRx_=jxMcTPt`D=v]jnYz`_D@^Tj>`fojLX^YcBG=Gzl@FUPM[=LER=ajE[Vvierqe@D=gGmFv=kEEKvfW:@NwuiWtdvtO@jJBvJ?]Gi>^WjsjhbEOInnF_F^^pJjQPGURTIBk<hub@Ymay=fQDq<:o]`LMI=TOnU`?T:[OOxKog=CundLf^AYeOc;ZUGa<HKpQ@WBcnlA[booqt?r[M"
def F204:IFn:=nfRZq "EqlCS>I;lAWxD_Yj=uP>j;KigJmfzUmJCs;O<YxXGOd[bTroj?@nZeIfzaBY_UkJS]^QMes;f"
def F279:IFn:=nfRZq ";MllEGL^SieyhtSXlgP:mZHVw?u;tmIosDbJ>?OWmkBlsSUrnF=MRTAeiiJnJ`JOUDr<Arl"
def F164:IFn:=nfRZq "Mxm>GnCjX<tdzAiyfE;`>Lrr:y`:K:GNSbtokRkDnMBu[^siNnb<=PnlEC>NzrBwVOc]@yu?^mqemyE<>@"
def F280:IFn:=nfRZq "wmN;ypZb@BJYTTw<^=JFbFRyJPtaK=yFGhpFCO^y^J`zRUARgrFZte:V"
def F281:IFn:=nfRZq "jPFKJovgLHA[bzTifExK;<coHsnkKw[@N<PN>rviWQL?h>wYnaqQMjWNBR@<]SeM:mZ>g]tndFVFxEJxqx<jxrBON@@BJhaqR@XL>pVZT;h@@k_[pPrei^cy_gfswTuh]IeKWy[K<GCTWGNkPBb?XYNJNvh:_L_KcXKj[j?AQh?JxdqX;lmO[cwrx>eckQif;[Xcf;bj<[gHz?Wi@;FCbjACaDyCpB<tfXqsoK`lsFTzbbRv?NSCRgMQKIlff`RtJbi`K;ki:_bvLjrpIy<]QmO_b<xebQD=nOFqmj;^PbS>q=@Ob`CFo"
def F165:IFn:=nfRZq "Gnf:QxmPTnyPhK`LiZ?ebfE`;rTpwO<>CvPG;Fjbv_RuhGUAEKmSd<rnZp`Cr^rTaOAiYmmpR?F=`Oz<r:dOp<TRe;QRf:Iij=f@a<x[EnDxKqTLdkwjtuAJuNk=ZiwtjtU<qeYJ_s<=eqt:JMhGUIuE^dzwl^ftpX`hTtSunDczI`G>MDa]Q[?lJC=lHe]fruNJBnlu]G:tEMkz=ztTEJ:DIKfr[QTEIHxYLzaEt;:;uwW^jd;CKSp]wBiAFVZG=vxeD[fUy?Rw_KA;jxKJjZuN=n`>D<NfNL^BTgd<oOdKDbsLYxNzgZRKSoYb^Hae]_`gKUJrlKT[KxTtk;PVuD=z[wSUUobv?EJnLlXtwF;lipN=ukcznvO@CutV`SOP_hunET]n@jN`AAgdhGnayck=OKO;KERvoWSNbu"
def F282:IFn:=nfRZq "IdW_IPT]Dwr>]><horcUxo@zyrzDklJ@Nul=n>LoQdxotfMuaeC;DxORSw@tOa_VzJnAOZVdVpVjP?peLMbU>htWE^;kQLh;liC@lKmpHwwuY_SaBhS=:UoE;fyje@gnJm`pCGsFtR[znSO`JHQTllYyfq;acDqsgtA^^W[bo"
def F283:IFn:=nfRZq "IJHTSlBPmmYz_Yq;wpm=u=UvQFhqd>GpXESBSBdycxu?<jUCksnghfSd@C^`EqMPlWeVYveNzpJS^zQ@^v@UC;FxyanxkapULhAfshoNQ@gNS=_VcPbieUfkmLIvxzRpir<PllLBH`;SyeXkNcVlFCsxunk[kiBvoYWIZbc<ClLQdJ<Sx:Dy`K"
def F171:IFn:=nfRZq "E@KJ>bQGy^;xhgoo?ODzfdn_:rl@TACOFHDWPDCmj:x`s]KhadLmfyat@@YDQ@lixqMgQ"
def F160:IFn:=nfRZq "q^rZ^XqlxkY[iORuoW_aHI_wMl<;lZTW^yw=kgNFZRS[GJi_stry<plDE[a>Hx^QF<_Pr_di:N=sswb:ijPrctuDlpWqysESc:KFpoznq_L:]dYHqYwxwcqZDunHsMAILCrb@ggJoROft=WhMdVaPgsxDCzKW?^is=<@CoUzmmhSEdtjIL[BBR?ynbo]ypH"
def F202:IFn:=nfRZq "@JZlyhp;AwXsWcdiAniWQfRN]?Z"
def F201:IFn:=nfRZq "GuTvgwsln?LL^pkyqIUAUjuUrAj^:OAifRAsEr>:j<Xa_WAxRN[Pr^?dXek:R`BXLAECoUR:RywktfkQey[CO=vbQ?mPlPfzMEY[:FeuKf[EaTQqZW@P^_mKB=phGlflRVY?YTw;[xhAk=A_OCuxHe_erb<itqoyLNG<wttDPZ"
end Arb
namespace Arb
open Go Go.RowKit
theorem get_set {α:Type} (h:List (Nat×α)) (n m:Nat) (x:α):get (set h n x) m=if n=m then some x else get h m:=by
 induction h with
 |nil=>simp[set,get]
 |cons y r ih=>
  simp only[set];by_cases hy:y.1=n
  ·rw[if_pos hy];simp only[get];by_cases hm:n=m
   ·simp[hm]
   ·rw[if_neg hm,if_neg hm,if_neg (by omega)]
  ·rw[if_neg hy];simp only[get,ih];by_cases hm:y.1=m
   ·rw[if_pos hm,if_pos hm,if_neg (by omega)]
   ·rw[if_neg hm,if_neg hm]
theorem get_set_same {α:Type} (h:List (Nat×α)) (n:Nat) (x:α):get (set h n x) n=some x:=by simp[get_set]
theorem get_set_ne {α:Type} (h:List (Nat×α)) {n m:Nat} (x:α) (hne:n≠m):get (set h n x) m=get h m:=by simp[get_set,hne]
inductive RI (ν:Nat->Nat) (I:Nat->Prop) (w:World):Value->IV->Prop
 |bool (b:Bool):RI ν I w (.bool b) (.bool b)
 |int (k:IntKind) (n:Int):RI ν I w (.int k n) (.int k n)
 |str (s:ByteArray):RI ν I w (.string s) (.str s)
 |nsl (a:Option Addr) (e:Nat):RI ν I w (.slice a 0 0) (.nsl e)
 |sl0 (a:Option Addr) (cap e:Nat):RI ν I w (.slice a 0 cap) (.sl e [])
 |sl (b off n cap e:Nat) (es:List (List IV)) (f:Nat->Nat->Value) (hI:I b) (hn:n=es.length) (hcap:n<=cap) (hl:∀c ∈ es,c.length=e)
   (hc:∀(i j:Nat) (c:List IV) (x:IV),es[i]?=some c->c[j]?=some x->w.cell? ⟨b,off+i*e+j,none⟩=some (f i j))
   (hr:∀(i j:Nat) (c:List IV) (x:IV),es[i]?=some c->c[j]?=some x->RI ν I w (f i j) x):RI ν I w (.slice (some ⟨b,off,none⟩) n cap) (.sl e es)
 |nilp:RI ν I w (.pointer none) .nilp
 |ptr (b off:Nat) (cs:List IV) (f:Nat->Value) (hI:I b) (hc:∀(j:Nat) (x:IV),cs[j]?=some x->w.cell? ⟨b,off+j,none⟩=some (f j))
   (hr:∀(j:Nat) (x:IV),cs[j]?=some x->RI ν I w (f j) x):RI ν I w (.pointer (some ⟨b,off,none⟩)) (.ptr cs)
 |fn (f:Nat) (caps:Array Value) (cs:List IV) (hn:caps.size=cs.length) (hr:∀(j:Nat) (v:Value) (x:IV),caps[j]?=some v->cs[j]?=some x->RI ν I w v x) :
   RI ν I w (.func (.func (ν f)) #[] caps) (.fn f cs)
 |junk (v:Value) (h:v.oneCell'=true):RI ν I w v .junk
theorem RI.mono {ν:Nat->Nat} {I I':Nat->Prop} {w w':World} (hI:∀b,I b->I' b) (hw:∀b off v,I b->w.cell? ⟨b,off,none⟩=some v->w'.cell? ⟨b,off,none⟩=some v)
  {v:Value} {x:IV} (h:RI ν I w v x):RI ν I' w' v x:=by
 induction h with
 |bool b=>exact .bool b
 |int k n=>exact .int k n
 |str s=>exact .str s
 |nsl a e=>exact .nsl a e
 |sl0 a cap e=>exact .sl0 a cap e
 |sl b off n cap e es f hb hn hcap hl hc hr ih=>exact .sl b off n cap e es f (hI b hb) hn hcap hl (λi j c x h1 h2=>hw _ _ _ hb (hc i j c x h1 h2)) ih
 |nilp=>exact .nilp
 |ptr b off cs f hb hc hr ih=>exact .ptr b off cs f (hI b hb) (λj x h1=>hw _ _ _ hb (hc j x h1)) ih
 |fn f caps cs hn hr ih=>exact .fn f caps cs hn ih
 |junk v h=>exact .junk v h
theorem RI.one {ν:Nat->Nat} {I:Nat->Prop} {w:World} {v:Value} {x:IV} (h:RI ν I w v x):v.oneCell'=true:=by cases h<;>first | rfl | assumption
structure Gh where
 I:Nat->Prop
 φ:Nat->Option Nat
 w:World
 h:Hp
def SlAt (w:World) (p:Option Nat) (e:Nat) (es:List (List IV)) (o n:Nat) (v:Value):Prop:=
 match p with
 |none=>(∃a,v = .slice a 0 0)/\n=0
 |some b=>∃x cap,v = .slice (some ⟨b,x,none⟩) n cap/\o+n<=es.length/\n<=cap/\(x=o*e\/n=0/\o≠0)/\(x=o*e->∀c,c<(o+cap)*e->(w.cell? ⟨b,c,none⟩).isSome=true)
def OwnAt (g:Gh) (v:Value) (id o n ver:Nat):Prop:=
 match get g.h id with
 |some (.buf v' e es) | some (.imm v' e es)=>ver<=v'/\(v'=ver->SlAt g.w (g.φ id) e es o n v)
 |_=>False
def RefAt (g:Gh) (v:Value) (id ver i j:Nat):Prop:=
 match get g.h id with
 |some (.cells _)=>ver=0/\i=0/\∃b,g.φ id=some b/\v = .pointer (some ⟨b,j,none⟩)
 |some (.buf v' e _) | some (.imm v' e _)=>ver<=v'/\(v'=ver->∃b,g.φ id=some b/\v = .pointer (some ⟨b,i*e+j,none⟩))
 |some (.map _)=>ver=0/\i=0/\j=0/\∃b,g.φ id=some b/\v = .map (some b)
 |none=>False
inductive RA (ν:Nat->Nat) (g:Gh):Value->AV->Prop
 |undef (v:Value):RA ν g v .undef
 |iv {v:Value} {x:IV} (h:RI ν g.I g.w v x):RA ν g v (.iv x)
 |agg {vs:Array Value} {cs:List AV} (hn:vs.size=cs.length) (h1:∀(j:Nat) (v:Value),vs[j]?=some v->v.oneCell'=true)
   (hr:∀(j:Nat) (v:Value) (c:AV),vs[j]?=some v->cs[j]?=some c->RA ν g v c):RA ν g (.agg vs) (.agg cs)
 |tup {vs:Array Value} {cs:List AV} (hn:vs.size=cs.length) (hr:∀(j:Nat) (v:Value) (c:AV),vs[j]?=some v->cs[j]?=some c->RA ν g v c):RA ν g (.tuple vs) (.tup cs)
 |own {v:Value} {id o n ver:Nat} (h1:v.oneCell'=true) (h:OwnAt g v id o n ver):RA ν g v (.own id o n ver)
 |ref {v:Value} {id ver i j:Nat} (h1:v.oneCell'=true) (h:RefAt g v id ver i j):RA ν g v (.ref id ver i j)
 |clo {f:Nat} {caps:Array Value} {cs:List AV} (hn:caps.size=cs.length) (hr:∀(j:Nat) (v:Value) (c:AV),caps[j]?=some v->cs[j]?=some c->RA ν g v c) :
   RA ν g (.func (.func (ν f)) #[] caps) (.clo f cs)
theorem RA.mono {ν:Nat->Nat} {g g':Gh} (hI:∀v x,RI ν g.I g.w v x->RI ν g'.I g'.w v x) (ho:∀v id o n ver,OwnAt g v id o n ver->OwnAt g' v id o n ver)
  (hr:∀v id ver i j,RefAt g v id ver i j->RefAt g' v id ver i j) {v:Value} {x:AV} (h:RA ν g v x):RA ν g' v x:=by
 induction h with
 |undef v=>exact .undef v
 |iv h=>exact .iv (hI _ _ h)
 |agg hn h1 _ ih=>exact .agg hn h1 ih
 |tup hn _ ih=>exact .tup hn ih
 |own h1 h=>exact .own h1 (ho _ _ _ _ _ h)
 |ref h1 h=>exact .ref h1 (hr _ _ _ _ _ h)
 |clo hn _ ih=>exact .clo hn ih
def Row (ν:Nat->Nat) (I:Nat->Prop) (w:World) (b e:Nat) (es:List (List IV)):Prop:=
 (∀c ∈ es,c.length=e)/\∀(i j:Nat) (c:List IV) (x:IV),es[i]?=some c->c[j]?=some x->∃v,w.cell? ⟨b,i*e+j,none⟩=some v/\RI ν I w v x
def Soft (w:World) (b:Nat):Prop:=b<w.heap.size/\∀o,w.frozen? ⟨b,o,none⟩=false
def ObAt (ν:Nat->Nat) (g:Gh) (id:Nat):Ob->Prop
 |.cells cs=>∃b,g.φ id=some b/\¬g.I b/\Soft g.w b/\∀(j:Nat) (c:AV),cs[j]?=some c->∃v,g.w.cell? ⟨b,j,none⟩=some v/\v.oneCell'=true/\RA ν g v c
 |.buf _ e es=>(g.φ id=none/\es=[])\/∃b,g.φ id=some b/\¬g.I b/\Soft g.w b/\Row ν g.I g.w b e es
 |.imm _ e es=>(g.φ id=none/\es=[])\/∃b,g.φ id=some b/\g.I b/\Row ν g.I g.w b e es
 |.map kvs=>∃b es clock,g.φ id=some b/\¬g.I b/\b<g.w.heap.size/\g.w.heap[b]?=some (.map es clock)/\es.size=kvs.length/\
   ∀(j:Nat) (e:MapEntry) (p:AV×AV),es[j]?=some e->kvs[j]?=some p->RA ν g e.key p.1/\RA ν g e.val p.2
structure Cx where
 w:World
 I:Nat->Prop
 L:Nat->Prop
structure Rel (ν:Nat->Nat) (k:Cx) (g:Gh):Prop where
 ob:∀id o,get g.h id=some o->ObAt ν g id o
 inj:∀id id' o o' b,get g.h id=some o->get g.h id'=some o'->g.φ id=some b->g.φ id'=some b->id=id'
 small:∀b,g.I b->b<g.w.heap.size
 i0:∀b,k.I b->g.I b
 i1:∀b,g.I b->k.I b\/k.L b\/k.w.heap.size<=b
 own:∀id o b,get g.h id=some o->g.φ id=some b->k.L b\/k.w.heap.size<=b
 size:k.w.heap.size<=g.w.heap.size
 os:g.w.os=k.w.os
 tape:g.w.tape=k.w.tape
 output:g.w.output=k.w.output
 old:∀b,b<k.w.heap.size->(¬k.L b\/k.I b)->g.w.heap[b]?=k.w.heap[b]?
def Mono (ν:Nat->Nat) (g g':Gh):Prop:=∀v x,RA ν g v x->RA ν g' v x
theorem Mono.refl (ν:Nat->Nat) (g:Gh):Mono ν g g:=λ_ _ h=>h
theorem Mono.trans {ν:Nat->Nat} {a b c:Gh} (h:Mono ν a b) (k:Mono ν b c):Mono ν a c:=λv x hx=>k v x (h v x hx)
theorem ObAt.block {ν:Nat->Nat} {g:Gh} {id:Nat} {o:Ob} (h:ObAt ν g id o) {b:Nat} (hb:g.φ id=some b) (hs:∀b,g.I b->b<g.w.heap.size):b<g.w.heap.size:=by
 cases o with
 |cells cs=>obtain⟨b',h1,_,h3,_⟩:=h;rw[hb]at h1;cases h1;exact h3.1
 |buf v e es=>
  rcases h with⟨h1,_⟩|⟨b',h1,_,h3,_⟩
  ·rw[hb]at h1;cases h1
  ·rw[hb]at h1;cases h1;exact h3.1
 |imm v e es=>
  rcases h with⟨h1,_⟩|⟨b',h1,h2,_⟩
  ·rw[hb]at h1;cases h1
  ·rw[hb]at h1;cases h1;exact hs _ h2
 |map kvs=>obtain⟨b',_,_,h1,_,h3,_⟩:=h;rw[hb]at h1;cases h1;exact h3
theorem Row.mono {ν:Nat->Nat} {I I':Nat->Prop} {w w':World} {b e:Nat} {es:List (List IV)} (h:Row ν I w b e es) (hR:∀v x,RI ν I w v x->RI ν I' w' v x)
  (hb:∀off v,w.cell? ⟨b,off,none⟩=some v->w'.cell? ⟨b,off,none⟩=some v):Row ν I' w' b e es:=
 ⟨h.1,λi j c x h1 h2=>let⟨v,hc,hr⟩:=h.2 i j c x h1 h2;⟨v,hb _ _ hc,hR _ _ hr⟩⟩
theorem cell_of_same {w w':World} {b:Nat} (h:w'.heap[b]?=w.heap[b]?) (off:Nat):w'.cell? ⟨b,off,none⟩=w.cell? ⟨b,off,none⟩:=by simp[World.cell?,h]
theorem frozen_of_same {w w':World} {b:Nat} (h:w'.heap[b]?=w.heap[b]?) (off:Nat):w'.frozen? ⟨b,off,none⟩=w.frozen? ⟨b,off,none⟩:=by simp[World.frozen?,h]
theorem Rel.world {ν:Nat->Nat} {k:Cx} {g:Gh} (r:Rel ν k g) {w':World} {I':Nat->Prop} (hI:∀b,g.I b->I' b) (hI':∀b,I' b->g.I b\/g.w.heap.size<=b/\b<w'.heap.size)
  (hs:g.w.heap.size<=w'.heap.size) (h1:w'.os=g.w.os) (h2:w'.tape=g.w.tape) (h3:w'.output=g.w.output) (hb:∀b,b<g.w.heap.size->w'.heap[b]?=g.w.heap[b]?) :
  Rel ν k { g with I:=I',w:=w' }/\Mono ν g { g with I:=I',w:=w' }:=by
 have hRI:∀v x,RI ν g.I g.w v x->RI ν I' w' v x:=λv x h=>h.mono hI λb off v hi hc=>by rw[cell_of_same (hb b (r.small b hi))];exact hc
 have hblk:∀id o b,get g.h id=some o->g.φ id=some b->b<g.w.heap.size:=λid o b ho hφ=>(r.ob id o ho).block hφ r.small
 have hm:Mono ν g { g with I:=I',w:=w' }:=by
  intro v x hx;refine hx.mono hRI ?_ ?_
  ·intro v id o n ver ho;unfold OwnAt at ho ⊢;have key:∀ob e es,get g.h id=some ob->SlAt g.w (g.φ id) e es o n v->SlAt w' (g.φ id) e es o n v:=by
    intro ob e es hob hsl;cases hp:g.φ id with
    |none=>rw[hp]at hsl;exact hsl
    |some b=>
     rw[hp]at hsl;obtain⟨x,cap,e1,e2,e3,e4,e5⟩:=hsl;exact⟨x,cap,e1,e2,e3,e4,λhx c hc=>by rw[cell_of_same (hb b (hblk id _ b hob hp))];exact e5 hx c hc⟩
   cases hg:get g.h id with
   |none=>rw[hg]at ho;exact ho.elim
   |some ob=>
    rw[hg]at ho;simp only[];cases ob with
    |cells cs=>exact ho.elim
    |buf v' e es=>exact⟨ho.1,λhv=>key _ e es hg (ho.2 hv)⟩
    |imm v' e es=>exact⟨ho.1,λhv=>key _ e es hg (ho.2 hv)⟩
    |map kvs=>exact ho.elim
  ·intro v id ver i j hr;exact hr
 refine⟨⟨?_,r.inj,?_,λb h=>hI b (r.i0 b h),?_,r.own,Nat.le_trans r.size hs,h1.trans r.os,h2.trans r.tape,h3.trans r.output,λb h hl=>(hb b (Nat.lt_of_lt_of_le h r.size)).trans (r.old b h hl)⟩,hm⟩
 ·intro id o ho;have hblk':=hblk id o;have old:=r.ob id o ho;cases o with
  |cells cs=>
   obtain⟨b,e1,e2,e3,e4⟩:=old;refine⟨b,e1,λhi=>?_,⟨Nat.lt_of_lt_of_le e3.1 hs,λo=>by rw[frozen_of_same (hb b e3.1)];exact e3.2 o⟩,λj c hc=>?_⟩
   ·rcases hI' b hi with h | h
    ·exact e2 h
    ·have:=e3.1;omega
   ·obtain⟨v,c1,c2,c3⟩:=e4 j c hc;exact⟨v,by rw[cell_of_same (hb b e3.1)];exact c1,c2,hm _ _ c3⟩
  |buf v e es=>
   rcases old with h | ⟨b,e1,e2,e3,e4⟩
   ·exact .inl h
   ·refine .inr ⟨b,e1,λhi=>?_,⟨Nat.lt_of_lt_of_le e3.1 hs,λo=>by rw[frozen_of_same (hb b e3.1)];exact e3.2 o⟩,e4.mono hRI λoff v hc=>by rw[cell_of_same (hb b e3.1)];exact hc⟩;rcases hI' b hi with h | h
    ·exact e2 h
    ·have:=e3.1;omega
  |imm v e es=>
   rcases old with h | ⟨b,e1,e2,e4⟩
   ·exact .inl h
   ·exact .inr ⟨b,e1,hI b e2,e4.mono hRI λoff v hc=>by rw[cell_of_same (hb b (r.small b e2))];exact hc⟩
  |map kvs=>
   obtain⟨b,es,clock,e1,e2,e3,e4,e5,e6⟩:=old;refine⟨b,es,clock,e1,λhi=>?_,Nat.lt_of_lt_of_le e3 hs,(hb b e3).trans e4,e5,λj e p h1 h2=>?_⟩
   ·rcases hI' b hi with h | h
    ·exact e2 h
    ·omega
   ·obtain⟨c1,c2⟩:=e6 j e p h1 h2;exact⟨hm _ _ c1,hm _ _ c2⟩
 ·intro b hi;rcases hI' b hi with h | h
  ·exact Nat.lt_of_lt_of_le (r.small b h) hs
  ·exact h.2
 ·intro b hi;rcases hI' b hi with h | h
  ·exact r.i1 b h
  ·exact .inr (.inr (Nat.le_trans r.size h.1))
def updφ (φ:Nat->Option Nat) (s:Nat) (p:Option Nat):Nat->Option Nat:=λi=>if i=s then p else φ i
theorem updφ_same (φ:Nat->Option Nat) (s:Nat) (p:Option Nat):updφ φ s p s=p:=by simp[updφ]
theorem updφ_ne (φ:Nat->Option Nat) {s i:Nat} (p:Option Nat) (h:i≠s):updφ φ s p i=φ i:=by simp[updφ,h]
theorem SlAt.same {w w':World} {p:Option Nat} {e:Nat} {es:List (List IV)} {o n:Nat} {v:Value} (h:SlAt w p e es o n v)
  (hw:∀b,p=some b->w'.heap[b]?=w.heap[b]?):SlAt w' p e es o n v:=by
 cases p with
 |none=>exact h
 |some b=>
  obtain⟨x,cap,e1,e2,e3,e4,e5⟩:=h;exact⟨x,cap,e1,e2,e3,e4,λhx c hc=>by rw[cell_of_same (hw b rfl)];exact e5 hx c hc⟩
theorem OwnAt.alive {g:Gh} {v:Value} {id o n ver:Nat} (h:OwnAt g v id o n ver):∃ob,get g.h id=some ob:=by
 unfold OwnAt at h;cases hg:get g.h id with
 |none=>rw[hg]at h;exact h.elim
 |some ob=>exact⟨ob,rfl⟩
theorem RefAt.alive {g:Gh} {v:Value} {id ver i j:Nat} (h:RefAt g v id ver i j):∃ob,get g.h id=some ob:=by
 unfold RefAt at h;cases hg:get g.h id with
 |none=>rw[hg]at h;exact h.elim
 |some ob=>exact⟨ob,rfl⟩
theorem OwnAt.other {g g':Gh} {v:Value} {id o n ver:Nat} (h:OwnAt g v id o n ver) (hh:get g'.h id=get g.h id) (hφ:g'.φ id=g.φ id)
  (hw:∀b,g.φ id=some b->g'.w.heap[b]?=g.w.heap[b]?):OwnAt g' v id o n ver:=by
 unfold OwnAt at h ⊢;rw[hh,hφ];cases hg:get g.h id with
 |none=>rw[hg]at h;exact h.elim
 |some ob=>
  rw[hg]at h;cases ob with
  |cells cs=>exact h.elim
  |buf v' e es=>exact⟨h.1,λhv=>(h.2 hv).same hw⟩
  |imm v' e es=>exact⟨h.1,λhv=>(h.2 hv).same hw⟩
  |map kvs=>exact h.elim
theorem RefAt.other {g g':Gh} {v:Value} {id ver i j:Nat} (h:RefAt g v id ver i j) (hh:get g'.h id=get g.h id) (hφ:g'.φ id=g.φ id):RefAt g' v id ver i j:=by
 unfold RefAt at h ⊢;rw[hh,hφ];exact h
theorem ObAt.other {ν:Nat->Nat} {g g':Gh} {id:Nat} {o:Ob} (h:ObAt ν g id o) (hφ:g'.φ id=g.φ id) (hm:Mono ν g g') (hRI:∀v x,RI ν g.I g.w v x->RI ν g'.I g'.w v x)
  (hsz:g.w.heap.size<=g'.w.heap.size) (hw:∀b,g.φ id=some b->g'.w.heap[b]?=g.w.heap[b]?) (hI:∀b,g.φ id=some b->(g'.I b↔g.I b)):ObAt ν g' id o:=by
 cases o with
 |cells cs=>
  obtain⟨b,e1,e2,e3,e4⟩:=h;refine⟨b,hφ.trans e1,λhi=>e2 ((hI b e1).1 hi),⟨Nat.lt_of_lt_of_le e3.1 hsz,λo=>by rw[frozen_of_same (hw b e1)];exact e3.2 o⟩,λj c hc=>?_⟩;obtain⟨v,c1,c2,c3⟩:=e4 j c hc;exact⟨v,by rw[cell_of_same (hw b e1)];exact c1,c2,hm _ _ c3⟩
 |buf v e es=>
  rcases h with⟨h1,h2⟩|⟨b,e1,e2,e3,e4⟩
  ·exact .inl ⟨hφ.trans h1,h2⟩
  ·exact .inr ⟨b,hφ.trans e1,λhi=>e2 ((hI b e1).1 hi),⟨Nat.lt_of_lt_of_le e3.1 hsz,λo=>by rw[frozen_of_same (hw b e1)];exact e3.2 o⟩,e4.mono hRI λoff v hc=>by rw[cell_of_same (hw b e1)];exact hc⟩
 |imm v e es=>
  rcases h with⟨h1,h2⟩|⟨b,e1,e2,e4⟩
  ·exact .inl ⟨hφ.trans h1,h2⟩
  ·exact .inr ⟨b,hφ.trans e1,(hI b e1).2 e2,e4.mono hRI λoff v hc=>by rw[cell_of_same (hw b e1)];exact hc⟩
 |map kvs=>
  obtain⟨b,es,clock,e1,e2,e3,e4,e5,e6⟩:=h;refine⟨b,es,clock,hφ.trans e1,λhi=>e2 ((hI b e1).1 hi),Nat.lt_of_lt_of_le e3 hsz,(hw b e1).trans e4,e5,λj e p h1 h2=>?_⟩;obtain⟨c1,c2⟩:=e6 j e p h1 h2;exact⟨hm _ _ c1,hm _ _ c2⟩
theorem Rel.new' {ν:Nat->Nat} {k:Cx} {g:Gh} (r:Rel ν k g) {s:Nat} {ob:Ob} {p:Option Nat} {w':World} (hs:get g.h s=none)
  (hsz:g.w.heap.size<=w'.heap.size) (h1:w'.os=g.w.os) (h2:w'.tape=g.w.tape) (h3:w'.output=g.w.output) (hb:∀b,b<g.w.heap.size->w'.heap[b]?=g.w.heap[b]?)
  (hp:∀b,p=some b->∀id o,get g.h id=some o->g.φ id≠some b) (hp2:∀b,p=some b->k.L b\/k.w.heap.size<=b)
  (hob:Mono ν g { g with φ:=updφ g.φ s p,w:=w',h:=set g.h s ob }->ObAt ν { g with φ:=updφ g.φ s p,w:=w',h:=set g.h s ob } s ob) :
  Rel ν k { g with φ:=updφ g.φ s p,w:=w',h:=set g.h s ob }/\Mono ν g { g with φ:=updφ g.φ s p,w:=w',h:=set g.h s ob }:=by
 have hRI:∀v x,RI ν g.I g.w v x->RI ν g.I w' v x:=λv x h=>h.mono (λ_ h=>h) λb off v hi hc=>by rw[cell_of_same (hb b (r.small b hi))];exact hc
 have hblk:∀id o b,get g.h id=some o->g.φ id=some b->b<g.w.heap.size:=λid o b ho hφ=>(r.ob id o ho).block hφ r.small
 have hm:Mono ν g { g with φ:=updφ g.φ s p,w:=w',h:=set g.h s ob }:=by
  intro v x hx;refine hx.mono hRI ?_ ?_
  ·intro v id o n ver ho;obtain⟨ob',hob'⟩:=ho.alive;have hne:s≠id:=λe=>by rw[<-e,hs]at hob';cases hob'
   exact ho.other (get_set_ne _ _ hne) (updφ_ne _ _ (Ne.symm hne)) λb hφ=>hb b (hblk id _ b hob' hφ)
  ·intro v id ver i j hr;obtain⟨ob',hob'⟩:=hr.alive;have hne:s≠id:=λe=>by rw[<-e,hs]at hob';cases hob'
   exact hr.other (get_set_ne _ _ hne) (updφ_ne _ _ (Ne.symm hne))
 refine⟨⟨?_,?_,λb hi=>Nat.lt_of_lt_of_le (r.small b hi) hsz,r.i0,r.i1,?_,Nat.le_trans r.size hsz,h1.trans r.os,h2.trans r.tape,h3.trans r.output,λb h hl=>(hb b (Nat.lt_of_lt_of_le h r.size)).trans (r.old b h hl)⟩,hm⟩
 ·intro id o ho;by_cases he:s=id
  ·subst he;have:ob=o:=by simpa[get_set_same]using ho
   subst this;exact hob hm
  ·have ho':get g.h id=some o:=by rwa [show get (set g.h s ob) id=get g.h id from get_set_ne _ _ he]at ho
   exact(r.ob id o ho').other (updφ_ne _ _ (Ne.symm he)) hm hRI hsz (λb hφ=>hb b (hblk id _ b ho' hφ)) λ_ _=>Iff.rfl
 ·intro id id' o o' b ho ho' hφ hφ';simp only[get_set]at ho ho';simp only[updφ]at hφ hφ';by_cases he:id=s
  ·by_cases he':id'=s
   ·rw[he,he']
   ·rw[if_pos he]at hφ;rw[if_neg he']at hφ';rw[if_neg (Ne.symm he')]at ho';exact absurd hφ' (hp b hφ id' _ ho')
  ·rw[if_neg he]at hφ;rw[if_neg (Ne.symm he)]at ho;by_cases he':id'=s
   ·rw[if_pos he']at hφ';exact absurd hφ (hp b hφ' id _ ho)
   ·rw[if_neg he']at hφ';rw[if_neg (Ne.symm he')]at ho';exact r.inj id id' o o' b ho ho' hφ hφ'
 ·intro id o b ho hφ;simp only[get_set]at ho;simp only[updφ]at hφ;by_cases he:id=s
  ·rw[if_pos he]at hφ;exact hp2 b hφ
  ·rw[if_neg he]at hφ;rw[if_neg (Ne.symm he)]at ho;exact r.own id o b ho hφ
theorem Rel.new {ν:Nat->Nat} {k:Cx} {g:Gh} (r:Rel ν k g) {s:Nat} {ob:Ob} {p:Option Nat} {w':World} (hs:get g.h s=none)
  (hsz:g.w.heap.size<=w'.heap.size) (h1:w'.os=g.w.os) (h2:w'.tape=g.w.tape) (h3:w'.output=g.w.output) (hb:∀b,b<g.w.heap.size->w'.heap[b]?=g.w.heap[b]?)
  (hp:∀b,p=some b->g.w.heap.size<=b)
  (hob:Mono ν g { g with φ:=updφ g.φ s p,w:=w',h:=set g.h s ob }->ObAt ν { g with φ:=updφ g.φ s p,w:=w',h:=set g.h s ob } s ob) :
  Rel ν k { g with φ:=updφ g.φ s p,w:=w',h:=set g.h s ob }/\Mono ν g { g with φ:=updφ g.φ s p,w:=w',h:=set g.h s ob }:=
 r.new' hs hsz h1 h2 h3 hb (λb hb' id o ho hφ=>by have:=(r.ob id o ho).block hφ r.small;have:=hp b hb';omega) (λb hb'=>.inr (Nat.le_trans r.size (hp b hb'))) hob
theorem Rel.turn {ν:Nat->Nat} {k:Cx} {g:Gh} (r:Rel ν k g) {s:Nat} {ob0 ob:Ob} {p:Option Nat} {w':World} {I':Nat->Prop} (hs:get g.h s=some ob0)
  (hnI:∀b,g.φ s=some b->¬g.I b)
  (hsz:g.w.heap.size<=w'.heap.size) (h1:w'.os=g.w.os) (h2:w'.tape=g.w.tape) (h3:w'.output=g.w.output) (hb:∀b,b<g.w.heap.size->g.φ s≠some b->w'.heap[b]?=g.w.heap[b]?)
  (hI:∀b,g.I b->I' b) (hI':∀b,I' b->g.I b\/g.φ s=some b)
  (hp:p=g.φ s\/∃b,p=some b/\g.w.heap.size<=b)
  (hO:∀v o n ver,OwnAt g v s o n ver->OwnAt ⟨I',updφ g.φ s p,w',set g.h s ob⟩ v s o n ver)
  (hR:∀v ver i j,RefAt g v s ver i j->RefAt ⟨I',updφ g.φ s p,w',set g.h s ob⟩ v s ver i j)
  (hob:(∀v x,RI ν g.I g.w v x->RI ν I' w' v x)->Mono ν g ⟨I',updφ g.φ s p,w',set g.h s ob⟩->ObAt ν ⟨I',updφ g.φ s p,w',set g.h s ob⟩ s ob) :
  Rel ν k ⟨I',updφ g.φ s p,w',set g.h s ob⟩/\Mono ν g ⟨I',updφ g.φ s p,w',set g.h s ob⟩:=by
 have hRI:∀v x,RI ν g.I g.w v x->RI ν I' w' v x:=λv x h=>h.mono hI λb off v hi hc=>by
  rw[cell_of_same (hb b (r.small b hi) λe=>hnI b e hi)];exact hc
 have hblk:∀id o b,get g.h id=some o->g.φ id=some b->b<g.w.heap.size:=λid o b ho hφ=>(r.ob id o ho).block hφ r.small
 have hapart:∀id o b,s≠id->get g.h id=some o->g.φ id=some b->g.φ s≠some b:=λid o b hne ho hφ e=>hne (r.inj s id ob0 o b hs ho e hφ)
 have hm:Mono ν g ⟨I',updφ g.φ s p,w',set g.h s ob⟩:=by
  intro v x hx;refine hx.mono hRI ?_ ?_
  ·intro v id o n ver ho;by_cases he:s=id
   ·subst he;exact hO _ _ _ _ ho
   ·obtain⟨ob',hob'⟩:=ho.alive;exact ho.other (get_set_ne _ _ he) (updφ_ne _ _ (Ne.symm he)) λb hφ=>hb b (hblk id _ b hob' hφ) (hapart id _ b he hob' hφ)
  ·intro v id ver i j hr;by_cases he:s=id
   ·subst he;exact hR _ _ _ _ hr
   ·exact hr.other (get_set_ne _ _ he) (updφ_ne _ _ (Ne.symm he))
 refine⟨⟨?_,?_,?_,λb h=>hI b (r.i0 b h),?_,?_,Nat.le_trans r.size hsz,h1.trans r.os,h2.trans r.tape,h3.trans r.output,?_⟩,hm⟩
 ·intro id o ho;by_cases he:s=id
  ·subst he;have:ob=o:=by simpa[get_set_same]using ho
   subst this;exact hob hRI hm
  ·have ho':get g.h id=some o:=by rwa [show get (set g.h s ob) id=get g.h id from get_set_ne _ _ he]at ho
   exact(r.ob id o ho').other (updφ_ne _ _ (Ne.symm he)) hm hRI hsz (λb hφ=>hb b (hblk id _ b ho' hφ) (hapart id _ b he ho' hφ))
    λb hφ=>⟨λhi=>(hI' b hi).resolve_right (hapart id _ b he ho' hφ),hI b⟩
 ·intro id id' o o' b ho ho' hφ hφ';simp only[get_set]at ho ho';simp only[updφ]at hφ hφ';by_cases he:id=s
  ·by_cases he':id'=s
   ·rw[he,he']
   ·rw[if_pos he]at hφ;rw[if_neg he']at hφ';rw[if_neg (Ne.symm he')]at ho';have hlt:=hblk id' _ b ho' hφ';rcases hp with hp | ⟨b',hp,hge⟩
    ·exact absurd (hp▸hφ) (hapart id' _ b (Ne.symm he') ho' hφ')
    ·rw[hp]at hφ;cases hφ;omega
  ·rw[if_neg he]at hφ;rw[if_neg (Ne.symm he)]at ho;by_cases he':id'=s
   ·rw[if_pos he']at hφ';have hlt:=hblk id _ b ho hφ;rcases hp with hp | ⟨b',hp,hge⟩
    ·exact absurd (hp▸hφ') (hapart id _ b (Ne.symm he) ho hφ)
    ·rw[hp]at hφ';cases hφ';omega
   ·rw[if_neg he']at hφ';rw[if_neg (Ne.symm he')]at ho';exact r.inj id id' o o' b ho ho' hφ hφ'
 ·intro b hi;rcases hI' b hi with h | h
  ·exact Nat.lt_of_lt_of_le (r.small b h) hsz
  ·exact Nat.lt_of_lt_of_le (hblk s _ b hs h) hsz
 ·intro b hi;rcases hI' b hi with h | h
  ·exact r.i1 b h
  ·exact .inr (r.own s _ b hs h)
 ·intro id o b ho hφ;simp only[get_set]at ho;simp only[updφ]at hφ;by_cases he:id=s
  ·rw[if_pos he]at hφ;rcases hp with hp | ⟨b',hp,hge⟩
   ·exact r.own s _ b hs (hp▸hφ)
   ·rw[hp]at hφ;cases hφ;exact .inr (Nat.le_trans r.size hge)
  ·rw[if_neg he]at hφ;rw[if_neg (Ne.symm he)]at ho;exact r.own id o b ho hφ
 ·intro b h hl;have hlt:=Nat.lt_of_lt_of_le h r.size;refine(hb b hlt λe=>?_).trans (r.old b h hl);rcases hl with hl | hl
  ·rcases r.own s _ b hs e with h' | h'
   ·exact hl h'
   ·omega
  ·exact hnI b e (r.i0 b hl)
theorem Mrun_bindZ {α β:Type} (m:M α) (f:α->M β) (h:Hp):(m.bind f).run h=match m.run h with
  |some (a,h')=>(f a).run h'
  |none=>none:=by
 induction m generalizing h with
 |ret a=>rfl
 |fail=>rfl
 |get id k ih=>simp only[M.bind,M.run];exact ih _ _
 |put id o k ih=>simp only[M.bind,M.run];exact ih _
theorem Mbind_someZ {α β:Type} {m:M α} {f:α->M β} {h h'':Hp} {b:β} (e:(m.bind f).run h=some (b,h'')) :
  ∃a h',m.run h=some (a,h')/\(f a).run h'=some (b,h''):=by
 rw[Mrun_bindZ]at e;cases hm:m.run h with
 |none=>rw[hm]at e;cases e
 |some p=>rw[hm]at e;exact⟨p.1,p.2,rfl,e⟩
theorem Mok_someZ {b:Bool} {h h':Hp} {u:Unit} (e:(M.ok b).run h=some (u,h')):b=true/\h'=h:=by
 unfold M.ok at e;cases b with
 |true=>simp[M.run]at e;exact⟨rfl,e.symm⟩
 |false=>simp[M.run]at e
theorem Mlook_someZ {id:Nat} {h h':Hp} {o:Ob} (e:(M.look id).run h=some (o,h')):Arb.get h id=some o/\h'=h:=by
 simp only[M.look,M.run]at e;cases hg:Arb.get h id with
 |none=>simp[hg,M.run]at e
 |some x=>simp[hg,M.run]at e;exact⟨by rw[e.1],e.2.symm⟩
theorem M.fresh_some {id:Nat} {h h':Hp} {u:Unit} (e:(M.fresh id).run h=some (u,h')):Arb.get h id=none/\h'=h:=by
 simp only[M.fresh,M.run]at e;cases hg:Arb.get h id with
 |none=>simp[hg,M.run]at e;exact⟨rfl,e.symm⟩
 |some x=>simp[hg,M.run]at e
theorem Mwrite_someZ {id:Nat} {o:Ob} {h h':Hp} {u:Unit} (e:(M.write id o).run h=some (u,h')):h'=set h id o:=by
 simp[M.write,M.run]at e;exact e.symm
theorem Mlift_someZ {α:Type} {x:Option α} {h h':Hp} {a:α} (e:(M.lift x).run h=some (a,h')):x=some a/\h'=h:=by
 cases x with
 |none=>simp[M.lift,M.run]at e
 |some y=>simp[M.lift,M.run]at e;exact⟨by rw[e.1],e.2.symm⟩
theorem Mret_someZ {α:Type} {x a:α} {h h':Hp} (e:(M.ret x).run h=some (a,h')):x=a/\h'=h:=by
 simp[M.run]at e;exact⟨e.1,e.2.symm⟩
theorem Mfail_someZ {α:Type} {a:α} {h h':Hp} (e:(M.fail:M α).run h=some (a,h')):False:=by simp[M.run]at e
theorem M.ok_bind {α:Type} {b:Bool} {f:Unit->M α} {h:Hp} {r:α×Hp} (e:((M.ok b).bind f).run h=some r):b=true/\(f ()).run h=some r:=by
 obtain⟨a,g⟩:=r;obtain⟨_,h1,e1,e2⟩:=Mbind_someZ e;obtain⟨hb,rfl⟩:=Mok_someZ e1;exact⟨hb,e2⟩
theorem M.lift_bind {α β:Type} {x:Option β} {f:β->M α} {h:Hp} {r:α×Hp} (e:((M.lift x).bind f).run h=some r):∃a,x=some a/\(f a).run h=some r:=by
 obtain⟨a,g⟩:=r;obtain⟨y,h1,e1,e2⟩:=Mbind_someZ e;obtain⟨hb,rfl⟩:=Mlift_someZ e1;exact⟨y,hb,e2⟩
theorem M.look_bind {α:Type} {id:Nat} {f:Ob->M α} {h:Hp} {r:α×Hp} (e:((M.look id).bind f).run h=some r):∃o,Arb.get h id=some o/\(f o).run h=some r:=by
 obtain⟨a,g⟩:=r;obtain⟨y,h1,e1,e2⟩:=Mbind_someZ e;obtain⟨hb,rfl⟩:=Mlook_someZ e1;exact⟨y,hb,e2⟩
theorem pickT {α β:Type} [Inhabited β] {cs:List α} {P:Nat->β->α->Prop} (h:∀(j:Nat) (c:α),cs[j]?=some c->∃v,P j v c) :
  ∃f:Nat->β,∀(j:Nat) (c:α),cs[j]?=some c->P j (f j) c:=by
 induction cs generalizing P with
 |nil=>exact⟨λ_=>default,λj c h=>by simp at h⟩
 |cons c cs ih=>
  obtain⟨v,hv⟩:=h 0 c rfl;obtain⟨f,hf⟩:=ih (P:=λj=>P (j+1)) λj c hc=>h (j+1) c (by simpa using hc)
  refine⟨λj=>match j with | 0=>v | j+1=>f j,λj c' hc=>?_⟩;cases j with
  |zero=>simp at hc;subst hc;exact hv
  |succ j=>exact hf j c' (by simpa using hc)
theorem pick {α:Type} {cs:List α} {P:Nat->Value->α->Prop} (h:∀(j:Nat) (c:α),cs[j]?=some c->∃v,P j v c) :
  ∃f:Nat->Value,∀(j:Nat) (c:α),cs[j]?=some c->P j (f j) c:=pickT h
theorem MmapL_consZ {α β:Type} {f:α->M β} {x:α} {r:List α} {h h':Hp} {ys:List β} (e:(M.mapL f (x::r)).run h=some (ys,h')) :
  ∃y h1 zs,(f x).run h=some (y,h1)/\(M.mapL f r).run h1=some (zs,h')/\ys=y::zs:=by
 obtain⟨y,h1,e1,e2⟩:=Mbind_someZ e;obtain⟨zs,h2,e3,e4⟩:=Mbind_someZ e2;obtain⟨rfl,rfl⟩:=Mret_someZ e4;exact⟨y,h1,zs,e1,e3,rfl⟩
theorem MmapL_nilZ {α β:Type} {f:α->M β} {h h':Hp} {ys:List β} (e:(M.mapL f []).run h=some (ys,h')):ys=[]/\h'=h:=by
 obtain⟨rfl,rfl⟩:=Mret_someZ e;exact⟨rfl,rfl⟩
structure Froze (ν:Nat->Nat) (k:Cx) (g:Gh) (h':Hp) (I':Nat->Prop):Prop where
 rel:Rel ν k { g with I:=I',h:=h' }
 mono:Mono ν g { g with I:=I',h:=h' }
 sub:∀b,g.I b->I' b
 up:∀b,I' b->g.I b\/∃id o,get g.h id=some o/\g.φ id=some b
 cells:∀id cs,get h' id=some (.cells cs)->get g.h id=some (.cells cs)
 alive:∀id,(get h' id).isSome=(get g.h id).isSome
theorem Froze.refl {ν:Nat->Nat} {k:Cx} {g:Gh} (r:Rel ν k g):Froze ν k g g.h g.I:=⟨r,.refl ν g,λ_ h=>h,λ_ h=>.inl h,λ_ _ h=>h,λ_=>rfl⟩
theorem Froze.trans {ν:Nat->Nat} {k:Cx} {g:Gh} {h1 h2:Hp} {I1 I2:Nat->Prop} (a:Froze ν k g h1 I1) (b:Froze ν k { g with I:=I1,h:=h1 } h2 I2):Froze ν k g h2 I2:=
 ⟨b.rel,a.mono.trans b.mono,λx hx=>b.sub x (a.sub x hx),λx hx=>by
  rcases b.up x hx with h | ⟨id,o,ho,hφ⟩
  ·exact a.up x h
  ·have ha:=a.alive id;simp only[]at ho hφ;rw[ho]at ha;cases hg:get g.h id with
   |none=>rw[hg]at ha;simp at ha
   |some o'=>exact .inr ⟨id,o',hg,hφ⟩,
  λid cs h=>a.cells id cs (b.cells id cs h),λid=>(b.alive id).trans (a.alive id)⟩
theorem froze_buf {ν:Nat->Nat} {k:Cx} {g:Gh} (r:Rel ν k g) {id v e:Nat} {es:List (List IV)} (hg:get g.h id=some (.buf v e es)) :
  Froze ν k g (set g.h id (.imm v e es)) (λb=>g.I b\/g.φ id=some b):=by
 have old:=r.ob id _ hg;have hnI:∀b,g.φ id=some b->¬g.I b:=by
  intro b hφ;rcases old with⟨h1,_⟩|⟨b',h1,h2,_⟩
  ·rw[hφ]at h1;cases h1
  ·rw[hφ]at h1;cases h1;exact h2
 have ht:=r.turn (s:=id) (ob:=.imm v e es) (p:=g.φ id) (w':=g.w) (I':=λb=>g.I b\/g.φ id=some b) hg hnI (Nat.le_refl _) rfl rfl rfl (λ_ _ _=>rfl) (λ_ h=>.inl h) (λ_ h=>h) (.inl rfl)
  (λu o n ver ho=>by
   unfold OwnAt at ho ⊢;rw[hg]at ho;simp only[get_set_same,updφ_same];exact ho)
  (λu ver i j hr=>by
   unfold RefAt at hr ⊢;rw[hg]at hr;simp only[get_set_same,updφ_same];exact hr)
  (λhRI _=>by
   rcases old with⟨h1,h2⟩|⟨b,h1,h2,h3,h4⟩
   ·exact .inl ⟨(updφ_same _ _ _).trans h1,h2⟩
   ·exact .inr ⟨b,(updφ_same _ _ _).trans h1,.inr h1,h4.mono hRI λ_ _ h=>h⟩)
 have hφ:updφ g.φ id (g.φ id)=g.φ:=by funext i;simp only[updφ];split<;>simp_all
 rw[hφ]at ht;refine⟨ht.1,ht.2,λ_ h=>.inl h,λb h=>h.imp _root_.id λh=>⟨id,_,hg,h⟩,λid' cs h=>?_,λid'=>?_⟩
 ·rw[get_set]at h;split at h
  ·cases h
  ·exact h
 ·rw[get_set];split
  ·rename_i he;subst he;rw[hg];rfl
  ·rfl
theorem froze_cells {ν:Nat->Nat} {k:Cx} {g:Gh} (r:Rel ν k g) {id b:Nat} {cs:List AV} {xs:List IV} (hg:get g.h id=some (.cells cs)) (hφ:g.φ id=some b)
  (hx:∀(j:Nat) (x:IV),xs[j]?=some x->∃u,g.w.cell? ⟨b,j,none⟩=some u/\RI ν g.I g.w u x) :
  Froze ν k g (set g.h id (.imm 0 xs.length [xs])) (λb=>g.I b\/g.φ id=some b):=by
 have old:=r.ob id _ hg;have hnI:∀b,g.φ id=some b->¬g.I b:=by
  intro b' hφ';obtain⟨b'',h1,h2,_⟩:=old;rw[hφ']at h1;cases h1;exact h2
 have ht:=r.turn (s:=id) (ob:=.imm 0 xs.length [xs]) (p:=g.φ id) (w':=g.w) (I':=λb=>g.I b\/g.φ id=some b) hg hnI (Nat.le_refl _) rfl rfl rfl (λ_ _ _=>rfl) (λ_ h=>.inl h) (λ_ h=>h) (.inl rfl)
  (λu o n ver ho=>by
   unfold OwnAt at ho;rw[hg]at ho;exact ho.elim)
  (λu ver i j hr=>by
   unfold RefAt at hr ⊢;rw[hg]at hr;simp only[get_set_same,updφ_same];obtain⟨rfl,rfl,b',h1,h2⟩:=hr;exact⟨Nat.le_refl _,λ_=>⟨b',h1,by simpa using h2⟩⟩)
  (λhRI _=>by
   refine .inr ⟨b,(updφ_same _ _ _).trans hφ,.inr hφ,⟨λc hc=>by simp at hc;subst hc;rfl,λi j c x h1 h2=>?_⟩⟩;cases i with
   |succ i=>simp at h1
   |zero=>
    simp at h1;subst h1;obtain⟨u,c1,c2⟩:=hx j x h2;exact⟨u,by simpa using c1,hRI _ _ c2⟩)
 have hφ':updφ g.φ id (g.φ id)=g.φ:=by funext i;simp only[updφ];split<;>simp_all
 rw[hφ']at ht;refine⟨ht.1,ht.2,λ_ h=>.inl h,λb h=>h.imp _root_.id λh=>⟨id,_,hg,h⟩,λid' cs h=>?_,λid'=>?_⟩
 ·rw[get_set]at h;split at h
  ·cases h
  ·exact h
 ·rw[get_set];split
  ·rename_i he;subst he;rw[hg];rfl
  ·rfl
theorem sl_reads' {ν:Nat->Nat} {J:Nat->Prop} {w:World} {p:Option Nat} {e o m:Nat} {es:List (List IV)} (hrow:∀b,p=some b->J b/\Row ν J w b e es) {v:Value}
  (h:SlAt w p e es o m v):RI ν J w v (.sl e ((es.drop o).take m)):=by
 cases hp:p with
 |none=>
  rw[hp]at h;obtain⟨⟨a,rfl⟩,rfl⟩:=h;simpa using .sl0 a 0 e
 |some b=>
  rw[hp]at h;obtain⟨x,cap,rfl,h2,h3,h4,_⟩:=h;obtain⟨hI,hl,hc⟩:=hrow b hp;by_cases hm:m=0
  ·subst hm;simpa using .sl0 _ cap e
  ·have hx:x=o*e:=h4.resolve_right λh=>hm h.1
   subst hx;have hsub:∀(i:Nat) (c:List IV),((es.drop o).take m)[i]?=some c->es[o+i]?=some c:=by
    intro i c hi;rw[List.getElem?_take]at hi;split at hi
    ·rwa [List.getElem?_drop]at hi
    ·cases hi
   have hpick:∀(i:Nat) (c:List IV),((es.drop o).take m)[i]?=some c->∃f:Nat->Value,∀(j:Nat) (x:IV),c[j]?=some x->w.cell? ⟨b,(o+i)*e+j,none⟩=some (f j)/\RI ν J w (f j) x:=
    λi c hi=>pick λj x hj=>hc (o+i) j c x (hsub i c hi) hj
   obtain⟨F,hF⟩:=pickT hpick;refine .sl b (o*e) m cap e _ F hI ?_ h3 (λc hc'=>hl c (List.mem_of_mem_drop (List.mem_of_mem_take hc'))) (λi j c x h1 h2=>?_) λi j c x h1 h2=>(hF i c h1 j x h2).2
   ·simp;omega
   ·have:=(hF i c h1 j x h2).1
    rwa [Nat.add_mul]at this
theorem ref_reads' {ν:Nat->Nat} {J:Nat->Prop} {w:World} {e i j b:Nat} {es:List (List IV)} {c:List IV} (hJ:J b) (hrow:Row ν J w b e es) (hc:es[i]?=some c) :
  RI ν J w (.pointer (some ⟨b,i*e+j,none⟩)) (.ptr (c.drop j)):=by
 obtain⟨F,hF⟩:=pick (cs:=c) λl x hx=>hrow.2 i l c x hc hx
 refine .ptr b (i*e+j) _ (λl=>F (j+l)) hJ (λl x h=>?_) λl x h=>?_
 ·rw[List.getElem?_drop]at h;have:=(hF _ x h).1
  rwa [<-Nat.add_assoc]at this
 ·rw[List.getElem?_drop]at h;exact(hF _ x h).2
theorem sl_reads {ν:Nat->Nat} {k:Cx} {g:Gh} (r:Rel ν k g) {id v' e o m:Nat} {es:List (List IV)} {ob:Ob} (hg:get g.h id=some ob) (hob:ob = .imm v' e es) {v:Value}
  (h:SlAt g.w (g.φ id) e es o m v):RI ν g.I g.w v (.sl e ((es.drop o).take m)):=by
 subst hob;refine sl_reads' (λb hp=>?_) h;rcases r.ob id _ hg with⟨h1,_⟩|⟨b',h1,hI,hrow⟩
 ·rw[hp]at h1;cases h1
 ·rw[hp]at h1;cases h1;exact⟨hI,hrow⟩
theorem ref_reads {ν:Nat->Nat} {k:Cx} {g:Gh} (r:Rel ν k g) {id v' e i j:Nat} {es:List (List IV)} {c:List IV} (hg:get g.h id=some (.imm v' e es)) (hc:es[i]?=some c) {v:Value}
  (h:∃b,g.φ id=some b/\v = .pointer (some ⟨b,i*e+j,none⟩)):RI ν g.I g.w v (.ptr (c.drop j)):=by
 obtain⟨b,hφ,rfl⟩:=h;rcases r.ob id _ hg with⟨h1,_⟩|⟨b',h1,hI,hrow⟩
 ·rw[hφ]at h1;cases h1
 ·rw[hφ]at h1;cases h1;exact ref_reads' hI hrow hc
def FzT (ν:Nat->Nat) (f:AV->M IV):Prop:=
 ∀(k:Cx) (g:Gh) (a:AV) (x:IV) (h':Hp),(f a).run g.h=some (x,h')->Rel ν k g->∀v,RA ν g v a->∃I',Froze ν k g h' I'/\RI ν I' g.w v x
theorem FzT.list {ν:Nat->Nat} {f:AV->M IV} (hf:FzT ν f):∀(cs:List AV) (k:Cx) (g:Gh) (xs:List IV) (h':Hp),(M.mapL f cs).run g.h=some (xs,h')->Rel ν k g->
  ∀V:Nat->Value,(∀(j:Nat) (c:AV),cs[j]?=some c->RA ν g (V j) c)->∃I',Froze ν k g h' I'/\xs.length=cs.length/\∀(j:Nat) (x:IV),xs[j]?=some x->RI ν I' g.w (V j) x:=by
 intro cs
 induction cs with
 |nil=>
  intro k g xs h' e r V _;obtain⟨rfl,rfl⟩:=MmapL_nilZ e;exact⟨g.I,.refl r,rfl,λj x h=>by simp at h⟩
 |cons c cs ih=>
  intro k g xs h' e r V hV;obtain⟨y,h1,zs,e1,e2,rfl⟩:=MmapL_consZ e;obtain⟨I1,f1,r1⟩:=hf k g c y h1 e1 r (V 0) (hV 0 c rfl);obtain⟨I2,f2,hl,r2⟩:=ih k { g with I:=I1,h:=h1 } zs h' e2 f1.rel (λj=>V (j+1)) λj c' hc=>f1.mono _ _ (hV (j+1) c' (by simpa using hc))
  refine⟨I2,f1.trans f2,by simp[hl],λj x hx=>?_⟩;cases j with
  |zero=>simp at hx;subst hx;exact r1.mono f2.sub λ_ _ _ _ h=>h
  |succ j=>exact r2 j x (by simpa using hx)
theorem fzT_spec (ν:Nat->Nat):∀n,FzT ν (fz true n):=by
 intro n
 induction n with
 |zero=>intro k g a x h' e;exact(Mfail_someZ e).elim
 |succ n ih=>
  intro k g a x h' e r v ha;cases ha with
  |undef=>exact(Mfail_someZ e).elim
  |agg=>exact(Mfail_someZ e).elim
  |tup=>exact(Mfail_someZ e).elim
  |iv hr=>
   cases hr with
   |nsl a e'=>obtain⟨rfl,rfl⟩:=Mret_someZ e;exact⟨g.I,.refl r,.sl0 _ _ _⟩
   |bool b=>obtain⟨rfl,rfl⟩:=Mret_someZ e;exact⟨g.I,.refl r,.bool _⟩
   |int k' n'=>obtain⟨rfl,rfl⟩:=Mret_someZ e;exact⟨g.I,.refl r,.int _ _⟩
   |str s=>obtain⟨rfl,rfl⟩:=Mret_someZ e;exact⟨g.I,.refl r,.str _⟩
   |sl0 a c e'=>obtain⟨rfl,rfl⟩:=Mret_someZ e;exact⟨g.I,.refl r,.sl0 _ _ _⟩
   |sl b off n' cap e' es f h1 h2 h3 h4 h5 h6=>obtain⟨rfl,rfl⟩:=Mret_someZ e;exact⟨g.I,.refl r,.sl b off n' cap e' es f h1 h2 h3 h4 h5 h6⟩
   |nilp=>obtain⟨rfl,rfl⟩:=Mret_someZ e;exact⟨g.I,.refl r,.nilp⟩
   |ptr b off cs f h1 h2 h3=>obtain⟨rfl,rfl⟩:=Mret_someZ e;exact⟨g.I,.refl r,.ptr b off cs f h1 h2 h3⟩
   |fn f caps cs h1 h2=>obtain⟨rfl,rfl⟩:=Mret_someZ e;exact⟨g.I,.refl r,.fn f caps cs h1 h2⟩
   |junk v h1=>obtain⟨rfl,rfl⟩:=Mret_someZ e;exact⟨g.I,.refl r,.junk _ h1⟩
  |@own _ id o m ver ho1 ho=>
   obtain⟨ob,hg,e2⟩:=M.look_bind e;unfold OwnAt at ho;rw[hg]at ho;cases ob with
   |cells cs=>exact ho.elim
   |buf v' e' es=>
    obtain⟨hv,e4⟩:=M.ok_bind e2;obtain⟨_,h3,e5,e6⟩:=Mbind_someZ e4;obtain rfl:=Mwrite_someZ e5;obtain⟨rfl,rfl⟩:=Mret_someZ e6;have hf:=froze_buf r hg;have hv':v'=ver:=by simpa using hv
    refine⟨_,hf,?_⟩;exact sl_reads hf.rel (id:=id) (ob:=.imm v' e' es) (get_set_same _ _ _) rfl (ho.2 hv')
   |imm v' e' es=>
    obtain⟨hv,e4⟩:=M.ok_bind e2;obtain⟨rfl,rfl⟩:=Mret_someZ e4;have hv':v'=ver:=by simpa using hv
    exact⟨g.I,.refl r,sl_reads r hg rfl (ho.2 hv')⟩
   |map _=>exact ho.elim
  |@ref _ id ver i j hr1 hr=>
   obtain⟨ob,hg,e2⟩:=M.look_bind e;unfold RefAt at hr;rw[hg]at hr;cases ob with
   |cells cs=>
    obtain⟨rfl,rfl,b,hφ,rfl⟩:=hr;obtain⟨-,e4⟩:=M.ok_bind e2;obtain⟨xs,h3,e5,e6⟩:=Mbind_someZ e4;obtain⟨ob',hg',e8⟩:=M.look_bind e6;obtain⟨b',hφ',hnI,_,hc⟩:=r.ob id _ hg;rw[hφ]at hφ';cases hφ';obtain⟨V,hV⟩:=pick hc;obtain⟨I1,f1,hl,hx⟩:=ih.list cs k g xs _ e5 r V λj c h=>(hV j c h).2.2
    cases ob' with
    |buf _ _ _=>exact(Mfail_someZ e8).elim
    |imm _ _ _=>exact(Mfail_someZ e8).elim
    |map _=>exact(Mfail_someZ e8).elim
    |cells cs'=>
     have hcs:=f1.cells id cs' hg';rw[hg]at hcs;cases hcs;obtain⟨_,h5,e9,e10⟩:=Mbind_someZ e8;obtain rfl:=Mwrite_someZ e9;obtain⟨rfl,rfl⟩:=Mret_someZ e10;have hlen:∀(j:Nat) (x:IV),xs[j]?=some x->∃c,cs[j]?=some c:=λj x h=>by
      have:j<xs.length:=by
       rcases Nat.lt_or_ge j xs.length with h' | h'
       ·exact h'
       ·rw[List.getElem?_eq_none h']at h;cases h
      exact⟨_,List.getElem?_eq_getElem (by omega)⟩
     have hf:=froze_cells (xs:=xs) f1.rel hg' hφ λj x h=>let⟨c,hc'⟩:=hlen j x h;⟨V j,(hV j c hc').1,hx j x h⟩
     refine⟨_,f1.trans hf,?_⟩;refine .ptr b j (xs.drop j) (λi=>V (j+i)) (.inr hφ) (λi x h=>?_) λi x h=>?_
     ·rw[List.getElem?_drop]at h;obtain⟨c,hc'⟩:=hlen _ x h;exact(hV _ c hc').1
     ·rw[List.getElem?_drop]at h;exact(hx _ x h).mono hf.sub λ_ _ _ _ h=>h
   |buf v' e' es=>
    obtain⟨hv,e4⟩:=M.ok_bind e2;obtain⟨c,hc,e6⟩:=M.lift_bind e4;obtain⟨_,h4,e7,e8⟩:=Mbind_someZ e6;obtain rfl:=Mwrite_someZ e7;obtain⟨rfl,rfl⟩:=Mret_someZ e8;have hf:=froze_buf r hg;have hv':v'=ver:=by simpa using hv
    exact⟨_,hf,ref_reads hf.rel (id:=id) (v':=v') (es:=es) (get_set_same _ _ _) hc (hr.2 hv')⟩
   |imm v' e' es=>
    obtain⟨hv,e4⟩:=M.ok_bind e2;obtain⟨c,hc,e6⟩:=M.lift_bind e4;obtain⟨rfl,rfl⟩:=Mret_someZ e6;have hv':v'=ver:=by simpa using hv
    exact⟨g.I,.refl r,ref_reads r hg hc (hr.2 hv')⟩
   |map _=>exact(Mfail_someZ e2).elim
  |@clo f caps cs hn hr=>
   obtain⟨xs,h1,e1,e2⟩:=Mbind_someZ e;obtain⟨rfl,rfl⟩:=Mret_someZ e2;obtain⟨I1,f1,hl,hx⟩:=ih.list cs k g xs _ e1 r (λj=>caps.getD j (.bool true)) λj c h=>by
    have:j<caps.size:=by
     rcases Nat.lt_or_ge j cs.length with h' | h'
     ·omega
     ·rw[List.getElem?_eq_none h']at h;cases h
    exact hr j _ c (by simp[Array.getD,this]) h
   refine⟨I1,f1,.fn f caps xs (by omega) λj v x h1 h2=>?_⟩;have:=hx j x h2
   rwa [show caps.getD j (.bool true)=v from by
    obtain⟨hj,he⟩:=Array.getElem?_eq_some_iff.1 h1;simp[Array.getD,hj,he]]at this
def FzF (ν:Nat->Nat) (f:AV->M IV):Prop:=
 ∀(k:Cx) (g:Gh) (a:AV) (x:IV) (h':Hp),(f a).run g.h=some (x,h')->Rel ν k g->∀v,RA ν g v a->
  h'=g.h/\∀J:Nat->Prop,(∀b,g.I b->J b)->(∀id o b,get g.h id=some o->g.φ id=some b->J b)->RI ν J g.w v x
theorem FzF.list {ν:Nat->Nat} {f:AV->M IV} (hf:FzF ν f) (k:Cx) (g:Gh) (r:Rel ν k g):∀(cs:List AV) (xs:List IV) (h':Hp),(M.mapL f cs).run g.h=some (xs,h')->
  ∀V:Nat->Value,(∀(j:Nat) (c:AV),cs[j]?=some c->RA ν g (V j) c)->h'=g.h/\xs.length=cs.length/\
   ∀J:Nat->Prop,(∀b,g.I b->J b)->(∀id o b,get g.h id=some o->g.φ id=some b->J b)->∀(j:Nat) (x:IV),xs[j]?=some x->RI ν J g.w (V j) x:=by
 intro cs
 induction cs with
 |nil=>
  intro xs h' e V _;obtain⟨rfl,rfl⟩:=MmapL_nilZ e;exact⟨rfl,rfl,λ_ _ _ j x h=>by simp at h⟩
 |cons c cs ih=>
  intro xs h' e V hV;obtain⟨y,h1,zs,e1,e2,rfl⟩:=MmapL_consZ e;obtain⟨rfl,r1⟩:=hf k g c y h1 e1 r (V 0) (hV 0 c rfl);obtain⟨rfl,hl,r2⟩:=ih zs h' e2 (λj=>V (j+1)) λj c' hc=>hV (j+1) c' (by simpa using hc)
  refine⟨rfl,by simp[hl],λJ hJ hJ' j x hx=>?_⟩;cases j with
  |zero=>simp at hx;subst hx;exact r1 J hJ hJ'
  |succ j=>exact r2 J hJ hJ' j x (by simpa using hx)
theorem fzF_spec (ν:Nat->Nat):∀n,FzF ν (fz false n):=by
 intro n
 induction n with
 |zero=>intro k g a x h' e;exact(Mfail_someZ e).elim
 |succ n ih=>
  intro k g a x h' e r v ha;have up:∀{J:Nat->Prop},(∀b,g.I b->J b)->∀{v:Value} {x:IV},RI ν g.I g.w v x->RI ν J g.w v x:=λhJ _ _ h=>h.mono hJ λ_ _ _ _ h=>h
  have rowUp:∀{J:Nat->Prop} {b e:Nat} {es:List (List IV)},(∀b,g.I b->J b)->Row ν g.I g.w b e es->Row ν J g.w b e es:=λhJ h=>h.mono (λ_ _=>up hJ) λ_ _ h=>h
  cases ha with
  |undef=>exact(Mfail_someZ e).elim
  |agg=>exact(Mfail_someZ e).elim
  |tup=>exact(Mfail_someZ e).elim
  |iv hr=>
   have key:∀y:IV,(M.ret y).run g.h=some (x,h')->RI ν g.I g.w v y->h'=g.h/\∀J:Nat->Prop,(∀b,g.I b->J b)->(∀id o b,get g.h id=some o->g.φ id=some b->J b)->RI ν J g.w v x:=by
    intro y e hy;obtain⟨rfl,rfl⟩:=Mret_someZ e;exact⟨rfl,λJ hJ _=>up hJ hy⟩
   cases hr with
   |nsl a e'=>exact key _ e (.sl0 _ _ _)
   |bool b=>exact key _ e (.bool _)
   |int k' n'=>exact key _ e (.int _ _)
   |str s=>exact key _ e (.str _)
   |sl0 a c e'=>exact key _ e (.sl0 _ _ _)
   |sl b off n' cap e' es f h1 h2 h3 h4 h5 h6=>exact key _ e (.sl b off n' cap e' es f h1 h2 h3 h4 h5 h6)
   |nilp=>exact key _ e .nilp
   |ptr b off cs f h1 h2 h3=>exact key _ e (.ptr b off cs f h1 h2 h3)
   |fn f caps cs h1 h2=>exact key _ e (.fn f caps cs h1 h2)
   |junk v h1=>exact key _ e (.junk _ h1)
  |@own _ id o m ver ho1 ho=>
   obtain⟨ob,hg,e2⟩:=M.look_bind e;unfold OwnAt at ho;rw[hg]at ho;cases ob with
   |cells cs=>exact ho.elim
   |buf v' e' es=>
    obtain⟨hv,e4⟩:=M.ok_bind e2;obtain⟨rfl,rfl⟩:=Mret_someZ e4;have hv':v'=ver:=by simpa using hv
    refine⟨rfl,λJ hJ hJ'=>sl_reads' (λb hp=>⟨hJ' id _ b hg hp,?_⟩) (ho.2 hv')⟩;rcases r.ob id _ hg with⟨h1,_⟩|⟨b',h1,_,_,hrow⟩
    ·rw[hp]at h1;cases h1
    ·rw[hp]at h1;cases h1;exact rowUp hJ hrow
   |imm v' e' es=>
    obtain⟨hv,e4⟩:=M.ok_bind e2;obtain⟨rfl,rfl⟩:=Mret_someZ e4;have hv':v'=ver:=by simpa using hv
    exact⟨rfl,λJ hJ _=>up hJ (sl_reads r hg rfl (ho.2 hv'))⟩
   |map _=>exact ho.elim
  |@ref _ id ver i j hr1 hr=>
   obtain⟨ob,hg,e2⟩:=M.look_bind e;unfold RefAt at hr;rw[hg]at hr;cases ob with
   |cells cs=>
    obtain⟨rfl,rfl,b,hφ,rfl⟩:=hr;obtain⟨-,e4⟩:=M.ok_bind e2;obtain⟨xs,h3,e5,e6⟩:=Mbind_someZ e4;obtain⟨rfl,rfl⟩:=Mret_someZ e6;obtain⟨b',hφ',hnI,_,hc⟩:=r.ob id _ hg;rw[hφ]at hφ';cases hφ';obtain⟨V,hV⟩:=pick hc;obtain⟨rfl,hl,hx⟩:=ih.list k g r cs xs _ e5 V λj c h=>(hV j c h).2.2
    have hlen:∀(j:Nat) (x:IV),xs[j]?=some x->∃c,cs[j]?=some c:=λj x h=>by
     have:j<xs.length:=by
      rcases Nat.lt_or_ge j xs.length with h' | h'
      ·exact h'
      ·rw[List.getElem?_eq_none h']at h;cases h
     exact⟨_,List.getElem?_eq_getElem (by omega)⟩
    refine⟨rfl,λJ hJ hJ'=>.ptr b j (xs.drop j) (λi=>V (j+i)) (hJ' id _ b hg hφ) (λi x h=>?_) λi x h=>?_⟩
    ·rw[List.getElem?_drop]at h;obtain⟨c,hc'⟩:=hlen _ x h;exact(hV _ c hc').1
    ·rw[List.getElem?_drop]at h;exact hx J hJ hJ' _ x h
   |buf v' e' es=>
    obtain⟨hv,e4⟩:=M.ok_bind e2;obtain⟨c,hc,e6⟩:=M.lift_bind e4;obtain⟨rfl,rfl⟩:=Mret_someZ e6;have hv':v'=ver:=by simpa using hv
    obtain⟨b,hφ,rfl⟩:=hr.2 hv';refine⟨rfl,λJ hJ hJ'=>ref_reads' (hJ' id _ b hg hφ) ?_ hc⟩;rcases r.ob id _ hg with⟨h1,_⟩|⟨b',h1,_,_,hrow⟩
    ·rw[hφ]at h1;cases h1
    ·rw[hφ]at h1;cases h1;exact rowUp hJ hrow
   |imm v' e' es=>
    obtain⟨hv,e4⟩:=M.ok_bind e2;obtain⟨c,hc,e6⟩:=M.lift_bind e4;obtain⟨rfl,rfl⟩:=Mret_someZ e6;have hv':v'=ver:=by simpa using hv
    exact⟨rfl,λJ hJ _=>up hJ (ref_reads r hg hc (hr.2 hv'))⟩
   |map _=>exact(Mfail_someZ e2).elim
  |@clo f caps cs hn hr=>
   obtain⟨xs,h1,e1,e2⟩:=Mbind_someZ e;obtain⟨rfl,rfl⟩:=Mret_someZ e2;obtain⟨rfl,hl,hx⟩:=ih.list k g r cs xs _ e1 (λj=>caps.getD j (.bool true)) λj c h=>by
    have:j<caps.size:=by
     rcases Nat.lt_or_ge j cs.length with h' | h'
     ·omega
     ·rw[List.getElem?_eq_none h']at h;cases h
    exact hr j _ c (by simp[Array.getD,this]) h
   refine⟨rfl,λJ hJ hJ'=>.fn f caps xs (by omega) λj v x h1 h2=>?_⟩;have:=hx J hJ hJ' j x h2
   rwa [show caps.getD j (.bool true)=v from by
    obtain⟨hj,he⟩:=Array.getElem?_eq_some_iff.1 h1;simp[Array.getD,hj,he]]at this
def Done (ν:Nat->Nat) (k:Cx) (g:Gh) (h':Hp) (r:AV) (res:Result Value):Prop:=
 ∃g' v,res = .ok v g'.w/\g'.h=h'/\Rel ν k g'/\Mono ν g g'/\RA ν g' v r
theorem Done.same {ν:Nat->Nat} {k:Cx} {g:Gh} (r:Rel ν k g) {v:Value} {x:AV} {res:Result Value} (hr:res = .ok v g.w) (h:RA ν g v x):Done ν k g g.h x res:=
 ⟨g,v,hr,rfl,r,.refl ν g,h⟩
def isAggD:TypeDesc->Bool
 |.struct _ | .array _ _=>true
 |_=>false
def tyB (P:Program) (t:TypeId) (sz:Nat) (agg:Bool):Bool:=
 match P.underlying t,P.info? t with
 |some d,some i=>isAggD d==agg&&i.size==sz&&(agg||sz==1)
 |_,_=>false
theorem tyB_spec {P:Program} {t:TypeId} {sz:Nat} {agg:Bool} (h:tyB P t sz agg=true) :
  ∃d i,P.underlying t=some d/\P.info? t=some i/\isAggD d=agg/\i.size=sz/\(agg=false->sz=1):=by
 unfold tyB at h;cases hu:P.underlying t with
 |none=>simp[hu]at h
 |some d=>
  cases hi:P.info? t with
  |none=>simp[hu,hi]at h
  |some i=>
   simp only[hu,hi,Bool.and_eq_true,beq_iff_eq,Bool.or_eq_true]at h;refine⟨d,i,rfl,rfl,h.1.1,h.1.2,λha=>?_⟩;rcases h.2 with h' | h'
   ·rw[ha]at h';cases h'
   ·exact h'
theorem run_isAgg {P:Program} {t:TypeId} {d:TypeDesc} (h:P.underlying t=some d) (w:World):(isAgg t).run P w = .ok (isAggD d) w:=by
 cases d<;>simp[isAgg,run_underlying h,isAggD]
theorem run_sizeOf {P:Program} {t:TypeId} {i:TypeInfo} (h:P.info? t=some i) (w:World):(Go.sizeOf t).run P w = .ok i.size w:=by
 simp[Go.sizeOf,typeInfo,h]
theorem mk_some {agg:Bool} {l:List AV} {h h':Hp} {r:AV} (e:(mk agg l).run h=some (r,h')):h'=h/\(agg=true/\r = .agg l\/agg=false/\l=[r]):=by
 unfold mk at e;cases agg with
 |true=>simp only[if_true]at e;obtain⟨rfl,rfl⟩:=Mret_someZ e;exact⟨rfl,.inl ⟨rfl,rfl⟩⟩
 |false=>
  simp only[Bool.false_eq_true,if_false]at e
  match l with
  |[]=>exact(Mfail_someZ e).elim
  |[x]=>obtain⟨rfl,rfl⟩:=Mret_someZ e;exact⟨rfl,.inr ⟨rfl,rfl⟩⟩
  |_::_::_=>exact(Mfail_someZ e).elim
theorem loadVar_ok {ν:Nat->Nat} {P:Program} {g:Gh} {t:TypeId} {sz:Nat} {agg:Bool} (ht:tyB P t sz agg=true) {b off:Nat} {l:List AV} (hl:l.length=sz)
  (hc:∀(i:Nat) (x:AV),l[i]?=some x->∃v,g.w.cell? ⟨b,off+i,none⟩=some v/\v.oneCell'=true/\RA ν g v x) {r:AV} (hr:agg=true/\r = .agg l\/agg=false/\l=[r]) :
  ∃v,(loadVar t ⟨b,off,none⟩).run P g.w = .ok v g.w/\RA ν g v r:=by
 obtain⟨d,i,hu,hi,ha,hs,h1⟩:=tyB_spec ht;obtain⟨V,hV⟩:=pick hc;rcases hr with⟨hagg,rfl⟩|⟨hagg,rfl⟩
 ·have hcells:(loadCells ⟨b,off,none⟩ i.size).run P g.w = .ok ((List.range i.size).map V).toArray g.w:=run_loadCells g.w _ _ V λj hj=>by
   have:=(hV j (l[j]'(by omega)) (List.getElem?_eq_getElem (by omega))).1
   rwa [Addr.add_lit]
  refine⟨.agg ((List.range i.size).map V).toArray,?_,.agg (by simp;omega) (λj v h=>?_) λj v c h1 h2=>?_⟩
  ·simp[loadVar,run_isAgg hu,ha,hagg,run_sizeOf hi,hcells]
  ·obtain⟨hj,rfl⟩:j<i.size/\V j=v:=by
    have hj:j<i.size:=by
     rcases Nat.lt_or_ge j i.size with h' | h'
     ·exact h'
     ·simp[List.getElem?_eq_none (show(List.range i.size).length<=j by simpa using h')]at h
    exact⟨hj,by simpa[hj]using h⟩
   exact(hV j (l[j]'(by omega)) (List.getElem?_eq_getElem (by omega))).2.1
  ·have hj:j<l.length:=by
    rcases Nat.lt_or_ge j l.length with h' | h'
    ·exact h'
    ·rw[List.getElem?_eq_none h']at h2;cases h2
   obtain rfl:V j=v:=by simpa[show j<i.size by omega]using h1
   exact(hV j c h2).2.2
 ·have h0:=hV 0 r rfl;refine⟨V 0,?_,h0.2.2⟩;have:=h0.1;simp only[Nat.add_zero]at this;simp[loadVar,run_isAgg hu,ha,hagg,this]
theorem obRead_ok {ν:Nat->Nat} {k:Cx} {g:Gh} (r:Rel ν k g) {id ver i j sz:Nat} {ob:Ob} {l:List AV} (hg:get g.h id=some ob) (hl:obRead ob ver i j sz=some l) {v:Value}
  (h:RefAt g v id ver i j):∃b off,v = .pointer (some ⟨b,off,none⟩)/\∀(m:Nat) (x:AV),l[m]?=some x->∃v,g.w.cell? ⟨b,off+m,none⟩=some v/\v.oneCell'=true/\RA ν g v x:=by
 unfold RefAt at h;rw[hg]at h;have old:=r.ob id _ hg;have row:∀{b e:Nat} {es:List (List IV)} {c:List IV},Row ν g.I g.w b e es->es[i]?=some c->∀(m:Nat) (x:AV),(((c.drop j).take sz).map AV.iv)[m]?=some x->
   ∃v,g.w.cell? ⟨b,i*e+j+m,none⟩=some v/\v.oneCell'=true/\RA ν g v x:=by
  intro b e es c hrow hc m x hx;simp only[List.getElem?_map,List.getElem?_take,Option.map_eq_some_iff]at hx;obtain⟨y,hy,rfl⟩:=hx;split at hy
  ·rw[List.getElem?_drop]at hy;obtain⟨v,h1,h2⟩:=hrow.2 i (j+m) c y hc hy;exact⟨v,by rw[Nat.add_assoc];exact h1,h2.one,.iv h2⟩
  ·cases hy
 cases ob with
 |cells cs=>
  obtain⟨rfl,rfl,b,hφ,rfl⟩:=h;obtain⟨b',hφ',_,_,hc⟩:=old;rw[hφ]at hφ';cases hφ';simp only[obRead,true_and,if_true,Option.some.injEq]at hl;subst hl;refine⟨b,j,rfl,λm x hx=>?_⟩;rw[List.getElem?_take]at hx;split at hx
  ·rw[List.getElem?_drop]at hx;exact hc _ _ hx
  ·cases hx
 |buf v' e es=>
  simp only[obRead]at hl;split at hl
  ·rename_i hv;obtain⟨b,hφ,rfl⟩:=h.2 hv;simp only[Option.map_eq_some_iff]at hl;obtain⟨c,hc,rfl⟩:=hl;rcases old with⟨h1,_⟩|⟨b',h1,_,_,hrow⟩
   ·rw[hφ]at h1;cases h1
   ·rw[hφ]at h1;cases h1;exact⟨b,_,rfl,row hrow hc⟩
  ·cases hl
 |imm v' e es=>
  simp only[obRead]at hl;split at hl
  ·rename_i hv;obtain⟨b,hφ,rfl⟩:=h.2 hv;simp only[Option.map_eq_some_iff]at hl;obtain⟨c,hc,rfl⟩:=hl;rcases old with⟨h1,_⟩|⟨b',h1,_,hrow⟩
   ·rw[hφ]at h1;cases h1
   ·rw[hφ]at h1;cases h1;exact⟨b,_,rfl,row hrow hc⟩
  ·cases hl
 |map _=>simp[obRead]at hl
theorem load_at {ν:Nat->Nat} {P:Program} {k:Cx} {g:Gh} (r:Rel ν k g) {t:TypeId} {sz:Nat} {agg:Bool} (ht:tyB P t sz agg=true) {v:Value} {x y:AV} {h':Hp} (hv:RA ν g v x)
  (e:(load agg sz x).run g.h=some (y,h')):h'=g.h/\∃u,(Instr.loadAt t v).run P g.w = .ok u g.w/\RA ν g u y:=by
 cases hv with
 |undef=>exact(Mfail_someZ e).elim
 |agg=>exact(Mfail_someZ e).elim
 |tup=>exact(Mfail_someZ e).elim
 |own=>exact(Mfail_someZ e).elim
 |clo=>exact(Mfail_someZ e).elim
 |iv hr=>
  cases hr with
  |ptr b off cs f hI hc hr=>
   obtain⟨hl,e2⟩:=M.ok_bind e;obtain⟨rfl,hm⟩:=mk_some e2;have hl':((cs.take sz).map AV.iv).length=sz:=by simpa using hl
   obtain⟨u,hu,hR⟩:=loadVar_ok (ν:=ν) (g:=g) ht (b:=b) (off:=off) hl' (λi x hx=>by
    simp only[List.getElem?_map,Option.map_eq_some_iff,List.getElem?_take]at hx;obtain⟨y,hy,rfl⟩:=hx;split at hy
    ·exact⟨f i,hc i y hy,(hr i y hy).one,.iv (hr i y hy)⟩
    ·cases hy) hm
   exact⟨rfl,u,by simp[Instr.loadAt,Instr.sureAddr,hu],hR⟩
  |_=>exact(Mfail_someZ e).elim
 |ref hr1 hr=>
  obtain⟨ob,hg,e2⟩:=M.look_bind e;obtain⟨l,hl,e4⟩:=M.lift_bind e2;obtain⟨hl',e6⟩:=M.ok_bind e4;obtain⟨rfl,hm⟩:=mk_some e6;obtain⟨b,off,rfl,hc⟩:=obRead_ok r hg hl hr;obtain⟨u,hu,hR⟩:=loadVar_ok (ν:=ν) (g:=g) ht (b:=b) (off:=off) (by simpa using hl') hc hm;exact⟨rfl,u,by simp[Instr.loadAt,Instr.sureAddr,hu],hR⟩
theorem load_ok {ν:Nat->Nat} {P:Program} {k:Cx} {g:Gh} (r:Rel ν k g) {t:TypeId} {sz:Nat} {agg:Bool} (ht:tyB P t sz agg=true) {v:Value} {x y:AV} {h':Hp} (hv:RA ν g v x)
  (e:(load agg sz x).run g.h=some (y,h')):Done ν k g h' y ((Instr.loadAt t v).run P g.w):=by
 obtain⟨rfl,u,hu,hR⟩:=load_at r ht hv e;exact .same r hu hR
theorem RefAt.move {g:Gh} {v:Value} {id ver i j:Nat} {ob:Ob} (hg:get g.h id=some ob) (hv:valid ob ver i=true) (h:RefAt g v id ver i j) (n:Nat) :
  ∃b off,v = .pointer (some ⟨b,off,none⟩)/\RefAt g (.pointer (some ⟨b,off+n,none⟩)) id ver i (j+n):=by
 unfold RefAt at h ⊢;rw[hg]at h ⊢;cases ob with
 |cells cs=>
  obtain⟨rfl,rfl,b,hφ,rfl⟩:=h;exact⟨b,j,rfl,rfl,rfl,b,hφ,rfl⟩
 |buf v' e es=>
  obtain⟨b,hφ,rfl⟩:=h.2 (by simpa[valid]using hv);exact⟨b,_,rfl,h.1,λ_=>⟨b,hφ,by rw[Nat.add_assoc]⟩⟩
 |imm v' e es=>
  obtain⟨b,hφ,rfl⟩:=h.2 (by simpa[valid]using hv);exact⟨b,_,rfl,h.1,λ_=>⟨b,hφ,by rw[Nat.add_assoc]⟩⟩
 |map _=>simp[valid]at hv
theorem RI.drop {ν:Nat->Nat} {I:Nat->Prop} {w:World} {b off n:Nat} {cs:List IV} (h:RI ν I w (.pointer (some ⟨b,off,none⟩)) (.ptr cs)) :
  RI ν I w (.pointer (some ⟨b,off+n,none⟩)) (.ptr (cs.drop n)):=by
 cases h with
 |ptr _ _ _ f hI hc hr=>
  refine .ptr b (off+n) _ (λj=>f (n+j)) hI (λj x hx=>?_) λj x hx=>?_
  ·rw[List.getElem?_drop]at hx;rw[Nat.add_assoc];exact hc _ _ hx
  ·rw[List.getElem?_drop]at hx;exact hr _ _ hx
def fadrB (P:Program) (s:TypeId) (f off:Nat):Bool:=
 match P.underlying s with
 |some (.struct fs)=>match fs[f]? with
  |some fd=>fd.offset==off&&(match P.info? fd.type with | some i=>i.size != 0 | none=>false)
  |none=>false
 |_=>false
theorem fadr_ok {ν:Nat->Nat} {P:Program} {k:Cx} {g:Gh} (r:Rel ν k g) {s:TypeId} {f off:Nat} (ht:fadrB P s f off=true) {v:Value} {x y:AV} {h':Hp} (hv:RA ν g v x)
  (e:(fadr off x).run g.h=some (y,h')):Done ν k g h' y ((Instr.fieldAt s v f).run P g.w):=by
 unfold fadrB at ht;split at ht
 ·rename_i fs hu;split at ht
  ·rename_i fd hf;simp only[Bool.and_eq_true,beq_iff_eq]at ht;obtain⟨rfl,hsz⟩:=ht;split at hsz
   ·rename_i i hi;have hne:¬i.size=0:=by simpa using hsz
    have key:∀(b o:Nat),(Instr.fieldAt s (.pointer (some ⟨b,o,none⟩)) f).run P g.w = .ok (.pointer (some ⟨b,o+fd.offset,none⟩)) g.w:=by
     intro b o;simp[Instr.fieldAt,run_underlying hu,hf,Instr.sureAddr,fieldPlace,run_sizeOf hi,hne,Addr.add_lit]
    cases hv with
    |undef=>exact(Mfail_someZ e).elim
    |agg=>exact(Mfail_someZ e).elim
    |tup=>exact(Mfail_someZ e).elim
    |own=>exact(Mfail_someZ e).elim
    |clo=>exact(Mfail_someZ e).elim
    |iv hr=>
     cases hr with
     |ptr b o cs f' hI hc hr=>
      obtain⟨-,e2⟩:=M.ok_bind e;obtain⟨rfl,rfl⟩:=Mret_someZ e2;exact .same r (key _ _) (.iv (RI.drop (.ptr b o cs f' hI hc hr)))
     |_=>exact(Mfail_someZ e).elim
    |ref hr1 hr=>
     obtain⟨ob,hg,e2⟩:=M.look_bind e;obtain⟨hva,e4⟩:=M.ok_bind e2;obtain⟨rfl,rfl⟩:=Mret_someZ e4;obtain⟨b,o,rfl,hR⟩:=hr.move hg hva fd.offset;exact .same r (key _ _) (.ref rfl hR)
   ·cases hsz
  ·cases ht
 ·cases ht
theorem idx_some {x:AV} {n:Int} {h h':Hp} (e:(idx x).run h=some (n,h')):h'=h/\∃k,x = .iv (.int k n):=by
 unfold idx at e;split at e
 ·obtain⟨rfl,rfl⟩:=Mret_someZ e;exact⟨rfl,_,rfl⟩
 ·exact(Mfail_someZ e).elim
def iarrB (P:Program) (t:TypeId) (len e:Nat):Bool:=
 match P.underlying t with
 |some (.array n el)=>n==len&&(match P.info? el with | some i=>i.size==e | none=>false)
 |_=>false
theorem iarrB_spec {P:Program} {t:TypeId} {len e:Nat} (h:iarrB P t len e=true):∃el i,P.underlying t=some (.array len el)/\P.info? el=some i/\i.size=e:=by
 unfold iarrB at h;split at h
 ·rename_i n el hu;simp only[Bool.and_eq_true,beq_iff_eq]at h;obtain⟨rfl,h⟩:=h;split at h
  ·rename_i i hi;exact⟨el,i,hu,hi,by simpa using h⟩
  ·cases h
 ·cases h
theorem iarr_ok {ν:Nat->Nat} {P:Program} {k:Cx} {g:Gh} (r:Rel ν k g) {t:TypeId} {len e:Nat} (ht:iarrB P t len e=true) {v u:Value} {x z y:AV} {h':Hp} (hv:RA ν g v x) (hu:RA ν g u z)
  (e':(iarr len e x z).run g.h=some (y,h')):Done ν k g h' y ((Instr.indexAt t v u).run P g.w):=by
 obtain⟨el,i,hu',hi,rfl⟩:=iarrB_spec ht;obtain⟨n,h1,e1,e2⟩:=Mbind_someZ e';obtain⟨rfl,kk,rfl⟩:=idx_some e1;cases hu with
 |iv hz=>
  cases hz;obtain⟨hn,e4⟩:=M.ok_bind e2;have hn':0<=n/\n<len:=by simpa using hn
  have key:∀(b o:Nat),(Instr.indexAt t (.pointer (some ⟨b,o,none⟩)) (.int kk n)).run P g.w = .ok (.pointer (some ⟨b,o+n.toNat*i.size,none⟩)) g.w:=by
   intro b o;simp[Instr.indexAt,run_underlying hu',Instr.sureAddr,asIntOf,hn',run_sizeOf hi,Addr.add_lit]
  cases hv with
  |undef=>exact(Mfail_someZ e4).elim
  |agg=>exact(Mfail_someZ e4).elim
  |tup=>exact(Mfail_someZ e4).elim
  |own=>exact(Mfail_someZ e4).elim
  |clo=>exact(Mfail_someZ e4).elim
  |iv hr=>
   cases hr with
   |ptr b o cs f' hI hc hr=>
    obtain⟨-,e2⟩:=M.ok_bind e4;obtain⟨rfl,rfl⟩:=Mret_someZ e2;exact .same r (key _ _) (.iv (RI.drop (.ptr b o cs f' hI hc hr)))
   |_=>exact(Mfail_someZ e4).elim
  |ref hr1 hr=>
   obtain⟨ob,hg,e2⟩:=M.look_bind e4;obtain⟨hva,e4⟩:=M.ok_bind e2;obtain⟨rfl,rfl⟩:=Mret_someZ e4;obtain⟨b,o,rfl,hR⟩:=hr.move hg hva (n.toNat*i.size);exact .same r (key _ _) (.ref rfl hR)
def sliceB (P:Program) (t:TypeId) (e:Nat):Bool:=
 match P.underlying t with
 |some (.slice el)=>(match P.info? el with | some i=>i.size==e | none=>false)
 |_=>false
theorem sliceB_spec {P:Program} {t:TypeId} {e:Nat} (h:sliceB P t e=true):∃el i,P.underlying t=some (.slice el)/\P.info? el=some i/\i.size=e:=by
 unfold sliceB at h;split at h
 ·rename_i el hu;split at h
  ·rename_i i hi;exact⟨el,i,hu,hi,by simpa using h⟩
  ·cases h
 ·cases h
theorem isl_ok {ν:Nat->Nat} {P:Program} {k:Cx} {g:Gh} (r:Rel ν k g) {t:TypeId} {e:Nat} (ht:sliceB P t e=true) {v u:Value} {x z y:AV} {h':Hp} (hv:RA ν g v x) (hu:RA ν g u z)
  (e':(isl e x z).run g.h=some (y,h')):Done ν k g h' y ((Instr.indexAt t v u).run P g.w):=by
 obtain⟨el,i,hu',hi,rfl⟩:=sliceB_spec ht;obtain⟨n,h1,e1,e2⟩:=Mbind_someZ e';obtain⟨rfl,kk,rfl⟩:=idx_some e1;cases hu with
 |iv hz=>
  cases hz;obtain⟨hn,e4⟩:=M.ok_bind e2;have hn':0<=n:=by simpa using hn
  have key:∀(b o len cap:Nat),n<(len:Int)->(Instr.indexAt t (.slice (some ⟨b,o,none⟩) len cap) (.int kk n)).run P g.w = .ok (.pointer (some ⟨b,o+n.toNat*i.size,none⟩)) g.w:=by
   intro b o len cap hlt;simp[Instr.indexAt,run_underlying hu',asIntOf,hn',hlt,run_sizeOf hi,Addr.add_lit]
  cases hv with
  |undef=>exact(Mfail_someZ e4).elim
  |agg=>exact(Mfail_someZ e4).elim
  |tup=>exact(Mfail_someZ e4).elim
  |ref=>exact(Mfail_someZ e4).elim
  |clo=>exact(Mfail_someZ e4).elim
  |iv hr=>
   cases hr with
   |sl0 a cap e''=>
    obtain⟨-,e2⟩:=M.ok_bind e4;obtain⟨c,hc,e6⟩:=M.lift_bind e2;simp at hc
   |sl b off m cap e'' es f hI hm hcap hl hc hr=>
    obtain⟨he,e2⟩:=M.ok_bind e4;obtain⟨c,hc',e6⟩:=M.lift_bind e2;obtain⟨rfl,rfl⟩:=Mret_someZ e6;have he':e''=i.size:=by simpa using he
    subst he';have hlt:n.toNat<es.length:=by
     rcases Nat.lt_or_ge n.toNat es.length with h | h
     ·exact h
     ·rw[List.getElem?_eq_none h]at hc';cases hc'
    refine .same r (key b off m cap (by omega)) (.iv (.ptr b _ c (λj=>f n.toNat j) hI (λj x hx=>?_) λj x hx=>hr _ _ _ _ hc' hx));exact hc _ _ _ _ hc' hx
   |_=>exact(Mfail_someZ e4).elim
  |@own _ id o m ver ho1 ho=>
   obtain⟨hm,e2⟩:=M.ok_bind e4;obtain⟨ob,hg,e5⟩:=M.look_bind e2;have hm':n<(m:Int):=by simpa using hm
   unfold OwnAt at ho;rw[hg]at ho;have fin:∀{v' e'':Nat} {es:List (List IV)},(get g.h id=some (.buf v' e'' es)\/get g.h id=some (.imm v' e'' es))->v'=ver->e''=i.size->SlAt g.w (g.φ id) e'' es o m v->
     Done ν k g g.h (.ref id ver (o+n.toNat) 0) ((Instr.indexAt t v (.int kk n)).run P g.w):=by
    intro v' e'' es hg' hv he hs;cases hφ:g.φ id with
    |none=>rw[hφ]at hs;obtain⟨_,rfl⟩:=hs;omega
    |some b=>
     rw[hφ]at hs;obtain⟨x,cap,rfl,h2,h3,h4,_⟩:=hs;have hx:x=o*e'':=h4.resolve_right λh=>by have:=h.1;omega
     subst hx he;refine .same r (key b _ m cap hm') (.ref rfl ?_);unfold RefAt;rcases hg' with hg' | hg'<;>rw[hg']<;>exact⟨Nat.le_of_eq hv.symm,λ_=>⟨b,hφ,by rw[Nat.add_mul];rfl⟩⟩
   cases ob with
   |cells cs=>exact ho.elim
   |buf v' e'' es=>
    obtain⟨hve,e7⟩:=M.ok_bind e5;obtain⟨rfl,rfl⟩:=Mret_someZ e7;simp only[Bool.and_eq_true,beq_iff_eq]at hve;exact fin (.inl hg) hve.1 hve.2 (ho.2 hve.1)
   |imm v' e'' es=>
    obtain⟨hve,e7⟩:=M.ok_bind e5;obtain⟨rfl,rfl⟩:=Mret_someZ e7;simp only[Bool.and_eq_true,beq_iff_eq]at hve;exact fin (.inr hg) hve.1 hve.2 (ho.2 hve.1)
   |map _=>exact ho.elim
section
variable {ν:Nat->Nat} {P:Program} {k:Cx} {g:Gh}
theorem RA.int {v:Value} {kk:IntKind} {n:Int} (h:RA ν g v (.iv (.int kk n))):v = .int kk n:=by cases h with | iv h=>cases h;rfl
theorem RA.bool {v:Value} {b:Bool} (h:RA ν g v (.iv (.bool b))):v = .bool b:=by cases h with | iv h=>cases h;rfl
theorem RA.str {v:Value} {s:ByteArray} (h:RA ν g v (.iv (.str s))):v = .string s:=by cases h with | iv h=>cases h;rfl
theorem RA.nilp {v:Value} (h:RA ν g v (.iv .nilp)):v = .pointer none:=by cases h with | iv h=>cases h;rfl
theorem RA.ptr {v:Value} {cs:List IV} (h:RA ν g v (.iv (.ptr cs))):∃b off,v = .pointer (some ⟨b,off,none⟩):=by cases h with | iv h=>cases h;exact⟨_,_,rfl⟩
theorem mkInt {kk:IntKind} {n:Int}:RA ν g (.int kk n) (.iv (.int kk n)):=.iv (.int _ _)
theorem mkBool {b:Bool}:RA ν g (.bool b) (.iv (.bool b)):=.iv (.bool _)
theorem mkStr {s:ByteArray}:RA ν g (.string s) (.iv (.str s)):=.iv (.str _)
theorem part_ok {t:TypeId} {sz off:Nat} {agg:Bool} (ht:tyB P t sz agg=true) {vs:Array Value} {cs:List AV} (hv:RA ν g (.agg vs) (.agg cs)) (hl:((cs.drop off).take sz).length=sz)
  {r:AV} (hr:agg=true/\r = .agg ((cs.drop off).take sz)\/agg=false/\(cs.drop off).take sz=[r]) (w:World):∃v,(part t vs off).run P w = .ok v w/\RA ν g v r:=by
 obtain⟨d,i,hu,hi,ha,hs,h1⟩:=tyB_spec ht;subst hs;cases hv with
 |agg hn ho hrr=>
  have hfit:off+i.size<=cs.length\/i.size=0:=by simp only[List.length_take,List.length_drop]at hl;omega
  rcases hr with⟨hagg,rfl⟩|⟨hagg,hr⟩
  ·have key:∀(j:Nat) (v:Value),(vs.extract off (off+i.size))[j]?=some v->vs[off+j]?=some v/\j<i.size:=by
    intro j v h;rw[Array.getElem?_extract]at h;split at h
    ·exact⟨h,by omega⟩
    ·cases h
   refine⟨.agg (vs.extract off (off+i.size)),by simp[part,run_isAgg hu,ha,hagg,run_sizeOf hi],.agg (by simp only[Array.size_extract,hl];omega) (λj v h=>ho _ v (key j v h).1) λj v c h h2=>?_⟩;obtain⟨h',hlt⟩:=key j v h;rw[List.getElem?_take,if_pos hlt,List.getElem?_drop]at h2;exact hrr _ v c h' h2
  ·have hz:i.size=1:=h1 hagg;have hc:cs[off]?=some r:=by
    have:((cs.drop off).take i.size)[0]?=some r:=by rw[hr];rfl
    rw[List.getElem?_take,if_pos (by omega),List.getElem?_drop]at this;simpa using this
   have hlt:off<vs.size:=by omega
   refine⟨vs[off],by simp[part,run_isAgg hu,ha,hagg,Array.getElem?_eq_getElem hlt],hrr off _ r (Array.getElem?_eq_getElem hlt) hc⟩
theorem fld_run {agg:Bool} {off sz:Nat} {x y:AV} {h h':Hp} (e:(fld agg off sz x).run h=some (y,h')) :
  h'=h/\∃cs,x = .agg cs/\((cs.drop off).take sz).length=sz/\(agg=true/\y = .agg ((cs.drop off).take sz)\/agg=false/\(cs.drop off).take sz=[y]):=by
 unfold fld at e;split at e
 ·rename_i cs;obtain⟨hl,e2⟩:=M.ok_bind e;obtain⟨rfl,hm⟩:=mk_some e2;exact⟨rfl,cs,rfl,by simpa using hl,hm⟩
 ·exact(Mfail_someZ e).elim
theorem RA.aggv {v:Value} {cs:List AV} (h:RA ν g v (.agg cs)):∃vs,v = .agg vs:=by cases h;exact⟨_,rfl⟩
def xarrB (P:Program) (t:TypeId) (agg:Bool) (len e:Nat):Bool:=
 match P.underlying t with
 |some (.array n el)=>n==len&&tyB P el e agg
 |_=>false
theorem xarr_ok (r:Rel ν k g) {t:TypeId} {len e:Nat} {agg:Bool} (ht:xarrB P t agg len e=true) {v u:Value} {x z y:AV} {h':Hp} (hv:RA ν g v x) (hu:RA ν g u z)
  (e':(xarr agg len e x z).run g.h=some (y,h')):Done ν k g h' y ((Instr.index t v u).run P g.w):=by
 unfold xarrB at ht;split at ht
 ·rename_i n el hu';simp only[Bool.and_eq_true,beq_iff_eq]at ht;obtain⟨rfl,ht⟩:=ht;obtain⟨m,h1,e1,e2⟩:=Mbind_someZ e';obtain⟨rfl,kk,rfl⟩:=idx_some e1;obtain rfl:=hu.int;obtain⟨hm,e4⟩:=M.ok_bind e2;have hm':0<=m/\m<n:=by simpa using hm
  obtain⟨rfl,cs,rfl,hl,hmk⟩:=fld_run e4;obtain⟨vs,rfl⟩:=hv.aggv;obtain⟨d,i,_,hi,_,hs,_⟩:=tyB_spec ht;obtain⟨u,hu'',hR⟩:=part_ok ht hv hl hmk g.w;exact .same r (by simp[Instr.index,run_underlying hu',asIntOf,hm',run_sizeOf hi,hs,hu'']) hR
 ·cases ht
theorem xstr_ok (r:Rel ν k g) {t:TypeId} (ht:P.underlying t=some .string) {v u:Value} {x z y:AV} {h':Hp} (hv:RA ν g v x) (hu:RA ν g u z)
  (e:(xstr x z).run g.h=some (y,h')):Done ν k g h' y ((Instr.index t v u).run P g.w):=by
 unfold xstr at e;split at e
 ·rename_i s kk n;obtain rfl:=hv.str;obtain rfl:=hu.int;obtain⟨hn,e2⟩:=M.ok_bind e;have hn':0<=n:=by simpa using hn
  split at e2
  ·rename_i b hb;obtain⟨rfl,rfl⟩:=Mret_someZ e2;exact .same r (by simp[Instr.index,run_underlying ht,asIntOf,hn',hb]) mkInt
  ·exact(Mfail_someZ e2).elim
 ·exact(Mfail_someZ e).elim
theorem intBin_ok {op:BinOp} {t:TypeId} {kk k':IntKind} {a b:Int} {z:IV} (h:intBin op kk k' a b=some z) (w:World) :
  ∃v,(binOp op t (.int kk a) (.int k' b)).run P w = .ok v w/\RI ν g.I g.w v z:=by
 cases op
 case shl=>
  simp only[intBin]at h;split at h
  ·cases h
  ·rename_i hb;cases h;exact⟨_,by simp[binOp,Op.shift,hb],.int _ _⟩
 case shr=>
  simp only[intBin]at h;split at h
  ·cases h
  ·rename_i hb;cases h;exact⟨_,by simp[binOp,Op.shift,hb],.int _ _⟩
 all_goals
  simp only[intBin]at h;split at h
  case isFalse=>cases h
  rename_i hk;subst hk
 case quo=>
  split at h
  ·cases h
  ·rename_i hb;cases h;exact⟨_,by simp[binOp,Op.intDiv,hb],.int _ _⟩
 case rem=>
  split at h
  ·cases h
  ·rename_i hb;cases h;exact⟨_,by simp[binOp,Op.intDiv,hb],.int _ _⟩
 all_goals cases h
 case add | sub | mul=>exact⟨_,by simp[binOp,Op.intArith],.int _ _⟩
 case and | or | xor | andNot=>exact⟨_,by simp[binOp];rfl,.int _ _⟩
 all_goals exact⟨_,by simp[binOp,Op.intCmp],.bool _⟩
theorem strBin_ok {op:BinOp} {t:TypeId} {a b:ByteArray} {z:IV} (h:strBin op a b=some z) (w:World) :
  ∃v,(binOp op t (.string a) (.string b)).run P w = .ok v w/\RI ν g.I g.w v z:=by
 cases op<;>simp only[strBin]at h<;>(try cases h)
 case add=>
  split at h
  ·rename_i hb;cases h;refine⟨.string (a++b),?_,.str _⟩;have:¬(9223372036854775807:Int)<((a.size:Int)+b.size):=by omega
   simp[binOp,Op.stringOp,this]
  ·cases h
 all_goals exact⟨_,by simp[binOp,Op.stringOp,sless,beq_toListBytes],.bool _⟩
def qOf (P:Program) (op:BinOp) (t:TypeId) (q:Nat):Bool:=
 match q with
 |0=>true
 |1=>(match P.underlying t with | some .bool=>true | _=>false)
 |2=>(match P.underlying t with | some (.pointer _)=>true | _=>false)
 |_=>op==op
theorem run_equalIn_nil (d:Nat) {t el:TypeId} (h:P.underlying t=some (.pointer el)) (w:World):(Op.equalIn (d+1) t (.pointer none) (.pointer none)).run P w = .ok true w:=by simp[Op.equalIn,run_underlying h]
theorem run_equalIn_nilr (d:Nat) {t el:TypeId} (h:P.underlying t=some (.pointer el)) (a:Addr) (w:World):(Op.equalIn (d+1) t (.pointer (some a)) (.pointer none)).run P w = .ok false w:=by simp[Op.equalIn,run_underlying h]
theorem run_equalIn_nill (d:Nat) {t el:TypeId} (h:P.underlying t=some (.pointer el)) (a:Addr) (w:World):(Op.equalIn (d+1) t (.pointer none) (.pointer (some a))).run P w = .ok false w:=by simp[Op.equalIn,run_underlying h]
theorem ptr_eql {t:TypeId} {a b:Option Addr} {z:Bool} (h:∀(d:Nat) (w:World),(Op.equalIn (d+1) t (.pointer a) (.pointer b)).run P w = .ok z w) (x y:Operand) (w:World) :
  ((do eqGuard .eql t x y (.pointer a) (.pointer b);binOp .eql t (.pointer a) (.pointer b):Sem Value).run P w = .ok (.bool z) w)/\
  ((do eqGuard .neq t x y (.pointer a) (.pointer b);binOp .neq t (.pointer a) (.pointer b):Sem Value).run P w = .ok (.bool (!z)) w):=by
 have h':(Op.equal t (.pointer a) (.pointer b)).run P w = .ok z w:=h 9999 w;constructor
 ·simp only[Sem.run_bind,eqGuard_at_pointer,Sem.run_pure,Result.andThen_ok,binOp];simp[h']
 ·simp only[Sem.run_bind,eqGuard_at_pointer,Sem.run_pure,Result.andThen_ok,binOp];simp[h']
theorem bin_ok (r:Rel ν k g) {op:BinOp} {t:TypeId} {q:Nat} (ht:qOf P op t q=true) {a b:Operand} {v u:Value} {x z:AV} {y:IV} (hv:RA ν g v x) (hu:RA ν g u z) (e:bin op q x z=some y) :
  Done ν k g g.h (.iv y) ((do eqGuard op t a b v u;binOp op t v u:Sem Value).run P g.w):=by
 unfold bin at e;split at e
 ·obtain rfl:=hv.int;obtain rfl:=hu.int;obtain⟨w',h1,h2⟩:=intBin_ok (ν:=ν) (P:=P) (g:=g) (t:=t) e g.w;exact .same r (by simp[eqGuard_at_int,h1]) (.iv h2)
 ·obtain rfl:=hv.str;obtain rfl:=hu.str;obtain⟨w',h1,h2⟩:=strBin_ok (ν:=ν) (P:=P) (g:=g) (t:=t) e g.w;exact .same r (by simp[eqGuard_at_string,h1]) (.iv h2)
 ·obtain rfl:=hv.bool;obtain rfl:=hu.bool;have ht':P.underlying t=some .bool:=by
   simp only[qOf]at ht;split at ht
   ·assumption
   ·cases ht
  split at e
  ·cases e;exact .same r (by simp only[Sem.run_bind,eqGuard_at_bool,Sem.run_pure,Result.andThen_ok];exact run_eql_bool _ _ _ _ ht') mkBool
  ·cases e;refine .same r (v:=.bool (!_)) ?_ mkBool;simp only[Sem.run_bind,eqGuard_at_bool,Sem.run_pure,Result.andThen_ok,binOp];simp[run_equal_bool g.w t _ _ ht']
  ·cases e
 case h_7=>cases e
 all_goals
  have ht':∃el,P.underlying t=some (.pointer el):=by
   simp only[qOf]at ht;split at ht
   ·exact⟨_,by assumption⟩
   ·cases ht
  obtain⟨el,ht'⟩:=ht'
 ·obtain rfl:=hv.nilp;obtain rfl:=hu.nilp;have key:=ptr_eql (P:=P) (λd w=>run_equalIn_nil d ht' w) a b g.w;split at e
  ·cases e;exact .same r key.1 mkBool
  ·cases e;exact .same r key.2 mkBool
  ·cases e
 ·obtain⟨b',off,rfl⟩:=hv.ptr;obtain rfl:=hu.nilp;have key:=ptr_eql (P:=P) (λd w=>run_equalIn_nilr d ht' ⟨b',off,none⟩ w) a b g.w;split at e
  ·cases e;exact .same r key.1 mkBool
  ·cases e;exact .same r key.2 mkBool
  ·cases e
 ·obtain rfl:=hv.nilp;obtain⟨b',off,rfl⟩:=hu.ptr;have key:=ptr_eql (P:=P) (λd w=>run_equalIn_nill d ht' ⟨b',off,none⟩ w) a b g.w;split at e
  ·cases e;exact .same r key.1 mkBool
  ·cases e;exact .same r key.2 mkBool
  ·cases e
def qtyB (q:Nat) (d:Option TypeDesc):Bool:=
 match d with
 |some (.int _)=>q==0
 |some .bool=>q==1
 |some .string=>q==2
 |_=>false
theorem qtyB_int {d:Option TypeDesc} (h:qtyB 0 d=true):∃kk,d=some (.int kk):=by
 unfold qtyB at h;split at h<;>first | exact⟨_,rfl⟩|simp at h
theorem qtyB_bool {d:Option TypeDesc} (h:qtyB 1 d=true):d=some .bool:=by
 unfold qtyB at h;split at h<;>first | rfl | simp at h
theorem qtyB_str {d:Option TypeDesc} (h:qtyB 2 d=true):d=some .string:=by
 unfold qtyB at h;split at h<;>first | rfl | simp at h
def eqB (P:Program):List Field->List Nat->Nat->Bool
 |[],[],_=>true
 |f::fs,q::qs,i=>f.name != "_"&&f.offset==i&&tyB P f.type 1 false&&qtyB q (P.underlying f.type)&&eqB P fs qs (i+1)
 |_,_,_=>false
theorem eq0_ok {q:Nat} {t:TypeId} {x y:AV} {b:Bool} (e:eq0 q x y=some b) (ht:qtyB q (P.underlying t)=true) {v u:Value} (hv:RA ν g v x) (hu:RA ν g u y) (d:Nat) (w:World) :
  (Op.equalIn (d+1) t v u).run P w = .ok b w:=by
 unfold eq0 at e;split at e
 ·obtain rfl:=hv.int;obtain rfl:=hu.int;obtain⟨kk,h1⟩:=qtyB_int ht;simp only[Option.ite_none_right_eq_some,Option.some.injEq]at e;obtain⟨hk,rfl⟩:=e;subst hk;exact run_equalIn_int w d t _ _ _ _ h1
 ·cases e;obtain rfl:=hv.bool;obtain rfl:=hu.bool;exact run_equalIn_bool w d t _ _ (qtyB_bool ht)
 ·cases e;obtain rfl:=hv.str;obtain rfl:=hu.str;rw[run_equalIn_string w d t _ _ (qtyB_str ht),beq_toListBytes]
 ·cases e
theorem eqs_ok {xs ys:Array Value} (d:Nat) (w:World):∀(fs:List Field) (qs:List Nat) (i:Nat) (cs ds:List AV) (b:Bool),eqB P fs qs i=true->eqs qs cs ds=some b->
  (∀(j:Nat) (c:AV),cs[j]?=some c->∃v,xs[i+j]?=some v/\RA ν g v c)->(∀(j:Nat) (c:AV),ds[j]?=some c->∃v,ys[i+j]?=some v/\RA ν g v c)->
  (Op.eqFields (d+1) xs ys fs).run P w = .ok b w:=by
 intro fs
 induction fs with
 |nil=>
  intro qs i cs ds b h1 h2 _ _;cases qs with
  |cons=>simp[eqB]at h1
  |nil=>
   cases cs<;>cases ds<;>simp[eqs]at h2;subst h2;simp[Op.eqFields]
 |cons f fs ih=>
  intro qs i cs ds b h1 h2 hx hy;cases qs with
  |nil=>simp[eqB]at h1
  |cons q qs=>
   cases cs with
   |nil=>simp[eqs]at h2
   |cons c cs=>
    cases ds with
    |nil=>simp[eqs]at h2
    |cons d' ds=>
     simp only[eqB,Bool.and_eq_true]at h1;obtain⟨⟨⟨⟨hn,hoff⟩,hty⟩,hq⟩,hrest⟩:=h1;simp only[eqs,Option.bind_eq_some_iff]at h2;obtain⟨b1,e1,b2,e2,e3⟩:=h2;cases e3;obtain⟨v,hv,hvR⟩:=hx 0 c rfl;obtain⟨u,hu,huR⟩:=hy 0 d' rfl;obtain⟨dd,ii,h3,h4,h5,h6,_⟩:=tyB_spec hty;have hoff':f.offset=i:=by simpa using hoff
     have hp1:(part f.type xs f.offset).run P w = .ok v w:=by simp[part,run_isAgg h3,h5,hoff',show xs[i]?=some v from hv]
     have hp2:(part f.type ys f.offset).run P w = .ok u w:=by simp[part,run_isAgg h3,h5,hoff',show ys[i]?=some u from hu]
     have he:=eq0_ok (P:=P) e1 hq hvR huR d w;have hr:=ih qs (i+1) cs ds b2 hrest e2 (λj c hc=>by have:=hx (j+1) c (by simpa using hc);rwa [show i+1+j=i+(j+1) by omega]) (λj c hc=>by
      have:=hy (j+1) c (by simpa using hc);rwa [show i+1+j=i+(j+1) by omega])
     have hn':f.name≠"_":=by simpa using hn
     simp only[Op.eqFields,if_pos hn',Sem.run_bind,hp1,hp2,he,Result.andThen_ok,Sem.run_ite];cases b1
     ·simp
     ·simp[hr]
def eqcB (P:Program) (t:TypeId) (qs:List Nat):Bool:=
 match P.underlying t with
 |some (.struct fs)=>eqB P fs.toList qs 0&&!P.stoodInHeld t&&!P.eqGuardType P.depth t
 |_=>false
theorem RA.agg_get {vs:Array Value} {cs:List AV} (h:RA ν g (.agg vs) (.agg cs)) (j:Nat) (c:AV) (hc:cs[j]?=some c):∃v,vs[j]?=some v/\RA ν g v c:=by
 cases h with
 |agg hn _ hr=>
  have hj:j<cs.length:=by
   rcases Nat.lt_or_ge j cs.length with h' | h'
   ·exact h'
   ·rw[List.getElem?_eq_none h']at hc;cases hc
  exact⟨vs[j],Array.getElem?_eq_getElem (by omega),hr j _ c (Array.getElem?_eq_getElem (by omega)) hc⟩
theorem eqc_ok (r:Rel ν k g) {t:TypeId} {qs:List Nat} (ht:eqcB P t qs=true) {a b:Operand} {v u:Value} {cs ds:List AV} {z:Bool} (neg:Bool) (hv:RA ν g v (.agg cs)) (hu:RA ν g u (.agg ds)) (e:eqs qs cs ds=some z) :
  Done ν k g g.h (.iv (.bool (if neg then !z else z))) ((do eqGuard (if neg then .neq else .eql) t a b v u;binOp (if neg then .neq else .eql) t v u:Sem Value).run P g.w):=by
 unfold eqcB at ht;split at ht
 ·rename_i fs hut;simp only[Bool.and_eq_true,Bool.not_eq_true']at ht;obtain⟨⟨h1,h2⟩,h3⟩:=ht;obtain⟨xs,rfl⟩:=hv.aggv;obtain⟨ys,rfl⟩:=hu.aggv;have hfs:P.fieldsOf t=fs:=by simp[Program.fieldsOf,hut]
  have hrun:=eqs_ok (ν:=ν) (P:=P) (g:=g) (xs:=xs) (ys:=ys) 9998 g.w fs.toList qs 0 cs ds z h1 e (λj c hc=>by simpa using hv.agg_get j c hc) (λj c hc=>by simpa using hu.agg_get j c hc);have hst:=run_equalIn_struct g.w 9999 t xs ys (by rw[hfs];exact hut) h2;rw[hfs]at hst;cases neg
  ·refine .same r ?_ mkBool;simp only[Bool.false_eq_true,if_false,Sem.run_bind,run_eqGuard_agg _ _ _ _ _ _ _ h3,Result.andThen_ok,run_eql_struct,hst,hrun]
  ·refine .same r ?_ mkBool;simp only[if_true,Sem.run_bind,run_eqGuard_agg _ _ _ _ _ _ _ h3,Result.andThen_ok,run_neq_struct,hst,hrun]
 ·cases ht
theorem un_ok (r:Rel ν k g) {op:UnOp} {v:Value} {x:AV} {y:IV} (hv:RA ν g v x) (e:un op x=some y):Done ν k g g.h (.iv y) ((Op.unary op v).run P g.w):=by
 unfold un at e;split at e
 ·obtain rfl:=hv.int;split at e
  ·cases e;exact .same r (by simp[Op.unary,Op.intArith]) mkInt
  ·cases e;exact .same r (v:=.int _ _) (by simp only[Op.unary,intBits_xor];rfl) mkInt
  ·cases e
 ·obtain rfl:=hv.bool;split at e
  ·cases e;exact .same r (by simp[Op.unary]) mkBool
  ·cases e
 ·cases e
def cviB (P:Program) (s d:TypeId) (kk:IntKind):Bool:=
 (P.underlying s).isSome&&(match P.underlying d with | some (.int k')=>k'==kk | _=>false)
theorem cvi_ok (r:Rel ν k g) {s d:TypeId} {kk:IntKind} (ht:cviB P s d kk=true) {v:Value} {x:AV} {n:Int} {h':Hp} (hv:RA ν g v x) (e:(idx x).run g.h=some (n,h')) :
  Done ν k g g.h (.iv (.int kk (kk.wrap n))) ((convert s d v).run P g.w):=by
 obtain⟨_,k',rfl⟩:=idx_some e;obtain rfl:=hv.int;unfold cviB at ht;simp only[Bool.and_eq_true]at ht;obtain⟨h1,h2⟩:=ht;obtain⟨sd,hs⟩:=Option.isSome_iff_exists.1 h1;split at h2
 ·rename_i k'' hd;have:k''=kk:=by simpa using h2
  subst this;exact .same r (by simp[convert,run_underlying hs,run_underlying hd,Conv.intToInt]) mkInt
 ·cases h2
end
section
variable {ν:Nat->Nat} {P:Program} {k:Cx} {g:Gh}
def RO (ν:Nat->Nat) (g:Gh):Option Value->Option AV->Prop
 |none,none=>True
 |some v,some x=>RA ν g v x
 |_,_=>False
theorem bound_run {y:Nat} {o:Option AV} {n:Option Nat} {h h':Hp} (e:(bound y o).run h=some (n,h')) {c:Option Value} (hc:RO ν g c o) :
  h'=h/\(o=none/\n=none/\c=none\/∃(kk:IntKind) (m:Nat),c=some (.int kk m)/\m<=y/\n=some m):=by
 unfold bound at e;split at e
 ·obtain⟨rfl,rfl⟩:=Mret_someZ e;cases c with
  |none=>exact⟨rfl,.inl ⟨rfl,rfl,rfl⟩⟩
  |some v=>exact hc.elim
 ·rename_i kk m;obtain⟨hm,e2⟩:=M.ok_bind e;obtain⟨rfl,rfl⟩:=Mret_someZ e2;have hm':0<=m/\m<=y:=by simpa using hm
  cases c with
  |none=>exact hc.elim
  |some v=>
   obtain rfl:=RA.int hc;exact⟨rfl,.inr ⟨kk,m.toNat,by rw[Int.toNat_of_nonneg hm'.1],by omega,rfl⟩⟩
 ·exact(Mfail_someZ e).elim
theorem bounds_run {n cap:Nat} (hcap:n<=cap) {lo hi:Option AV} {cl ch:Option Value} {l h:Option Nat} {g0 g1 g2:Hp} (isS:Bool)
  (eh:(bound n hi).run g0=some (h,g1)) (el:(bound (h.getD n) lo).run g1=some (l,g2)) (hh:RO ν g ch hi) (hl:RO ν g cl lo) (w:World) :
  g2=g0/\l.getD 0<=h.getD n/\h.getD n<=n/\(Instr.sliceBounds isS n cap cl ch none).run P w = .ok (l.getD 0,h.getD n,cap) w:=by
 obtain⟨rfl,h1⟩:=bound_run eh hh;obtain⟨rfl,h2⟩:=bound_run el hl;refine⟨rfl,?_⟩;rcases h1 with⟨-,rfl,rfl⟩|⟨k1,m1,rfl,hm1,rfl⟩
 ·rcases h2 with⟨-,rfl,rfl⟩|⟨k2,m2,rfl,hm2,rfl⟩
  ·simp[Instr.sliceBounds]
  ·simp only[Option.getD_none]at hm2;have:(Instr.sliceBound (.int k2 m2) n .sliceB).run P w = .ok m2 w:=by simp[Instr.sliceBound,asIntOf,hm2]
   simp[Instr.sliceBounds,this,hm2]
 ·have hs:∀c,(Instr.sliceBound (.int k1 m1) cap c).run P w = .ok m1 w:=λc=>by
   have:m1<=cap:=by omega
   simp[Instr.sliceBound,asIntOf,this]
  rcases h2 with⟨-,rfl,rfl⟩|⟨k2,m2,rfl,hm2,rfl⟩
  ·simp[Instr.sliceBounds,hs,hm1]
  ·simp only[Option.getD_some]at hm2;have:(Instr.sliceBound (.int k2 m2) m1 .sliceB).run P w = .ok m2 w:=by simp[Instr.sliceBound,asIntOf,hm2]
   simp[Instr.sliceBounds,hs,this,hm2,hm1]
theorem sliceAt_run {t el:TypeId} {i:TypeInfo} (hu:P.underlying t=some (.slice el)) (hi:P.info? el=some i) {a:Option Addr} {n cap l h:Nat} {cl ch:Option Value} {w:World}
  (hb:(Instr.sliceBounds true n cap cl ch none).run P w = .ok (l,h,cap) w) :
  (Instr.sliceAt t (.slice a n cap) cl ch none).run P w = .ok (.slice (if cap=l then a else a.map (·.add (l*i.size))) (h - l) (cap - l)) w:=by
 have:(Instr.slice t (.slice a n cap) cl ch none).run P w = .ok (.slice (if cap=l then a else a.map (·.add (l*i.size))) (h - l) (cap - l)) w:=by
  simp[Instr.slice,run_underlying hu,hb,run_sizeOf hi]
 simp[Instr.sliceAt,run_underlying hu,this]
theorem slc_ok (r:Rel ν k g) {t:TypeId} {e:Nat} (ht:sliceB P t e=true) {v:Value} {cl ch:Option Value} {x y:AV} {lo hi:Option AV} {h':Hp} (hv:RA ν g v x) (hl:RO ν g cl lo) (hh:RO ν g ch hi)
  (e':(slc e x lo hi).run g.h=some (y,h')):Done ν k g h' y ((Instr.sliceAt t v cl ch none).run P g.w):=by
 obtain⟨el,i,hu,hi',rfl⟩:=sliceB_spec ht;cases hv with
 |undef=>exact(Mfail_someZ e').elim
 |agg=>exact(Mfail_someZ e').elim
 |tup=>exact(Mfail_someZ e').elim
 |ref=>exact(Mfail_someZ e').elim
 |clo=>exact(Mfail_someZ e').elim
 |iv hr=>
  cases hr with
  |sl0 a cap e''=>
   obtain⟨-,e2⟩:=M.ok_bind e';obtain⟨hb,h2,e3,e4⟩:=Mbind_someZ e2;obtain⟨lb,h3,e5,e6⟩:=Mbind_someZ e4;obtain⟨rfl,h4,h5,h6⟩:=bounds_run (ν:=ν) (g:=g) (P:=P) (n:=0) (cap:=cap) (Nat.zero_le _) true e3 e5 hh hl g.w;obtain⟨rfl,rfl⟩:=Mret_someZ e6;simp only[List.length_nil]at *;have hz:hb.getD 0=0:=by omega
   have hz':lb.getD 0=0:=by omega
   refine .same r (sliceAt_run hu hi' h6) (.iv ?_);simp only[hz,hz',List.take_nil,List.drop_nil,Nat.sub_zero];exact .sl0 _ _ _
  |sl b off n cap e'' es f hI hn hcap hll hc hr=>
   obtain⟨he,e2⟩:=M.ok_bind e';obtain⟨hb,h2,e3,e4⟩:=Mbind_someZ e2;obtain⟨lb,h3,e5,e6⟩:=Mbind_someZ e4;subst hn;obtain⟨rfl,h4,h5,h6⟩:=bounds_run (ν:=ν) (g:=g) (P:=P) hcap true e3 e5 hh hl g.w;obtain⟨rfl,rfl⟩:=Mret_someZ e6;have he':e''=i.size:=by simpa using he
   subst he';refine .same r (sliceAt_run hu hi' h6) (.iv ?_);generalize lb.getD 0=l at *;generalize hb.getD es.length=h at *;by_cases hlh:l=h
   ·subst hlh;have:(es.take l).drop l=[]:=by simp
    rw[this,Nat.sub_self];exact .sl0 _ _ _
   ·have hne:¬cap=l:=by omega
    rw[if_neg hne];simp only[Option.map_some,Addr.add_lit];have hsub:∀(j:Nat) (c:List IV),((es.take h).drop l)[j]?=some c->es[l+j]?=some c:=by
     intro j c hj;rw[List.getElem?_drop,List.getElem?_take]at hj;split at hj
     ·exact hj
     ·cases hj
    refine .sl b _ _ _ i.size _ (λa b=>f (l+a) b) hI (by simp;omega) (by omega) (λc hc'=>hll c (List.mem_of_mem_take (List.mem_of_mem_drop hc'))) (λa j c x h1 h2=>?_) λa j c x h1 h2=>hr _ _ _ _ (hsub a c h1) h2
    have:=hc _ _ _ _ (hsub a c h1) h2
    rwa [Nat.add_mul,<-Nat.add_assoc]at this
  |_=>exact(Mfail_someZ e').elim
 |@own _ id o m ver ho1 ho=>
  obtain⟨hb,h2,e3,e4⟩:=Mbind_someZ e';obtain⟨lb,h3,e5,e6⟩:=Mbind_someZ e4;obtain⟨ob,h4,e7,e8⟩:=Mbind_someZ e6;have q1:=(bound_run e3 hh).1;subst q1;have q2:=(bound_run e5 hl).1;subst q2;obtain⟨hg,rfl⟩:=Mlook_someZ e7;unfold OwnAt at ho;rw[hg]at ho;have fin:∀{v' e'':Nat} {es:List (List IV)},(get g.h id=some (.buf v' e'' es)\/get g.h id=some (.imm v' e'' es))->v'=ver->e''=i.size->SlAt g.w (g.φ id) e'' es o m v->
    Done ν k g g.h (.own id (o+lb.getD 0) (hb.getD m - lb.getD 0) ver) ((Instr.sliceAt t v cl ch none).run P g.w):=by
   intro v' e'' es hg' hv he hs;have own:∀u:Value,u.oneCell'=true->SlAt g.w (g.φ id) e'' es (o+lb.getD 0) (hb.getD m - lb.getD 0) u->RA ν g u (.own id (o+lb.getD 0) (hb.getD m - lb.getD 0) ver):=by
    intro u hu1 hu2;refine .own hu1 ?_;unfold OwnAt;rcases hg' with hg' | hg'<;>rw[hg']<;>exact⟨Nat.le_of_eq hv.symm,λ_=>hu2⟩
   cases hφ:g.φ id with
   |none=>
    rw[hφ]at hs;obtain⟨⟨a,rfl⟩,rfl⟩:=hs;obtain⟨-,h4,h5,h6⟩:=bounds_run (ν:=ν) (g:=g) (P:=P) (n:=0) (cap:=0) (Nat.le_refl _) true e3 e5 hh hl g.w;refine .same r (sliceAt_run hu hi' h6) (own _ rfl ?_);rw[hφ];have:hb.getD 0=0:=by omega
    have:lb.getD 0=0:=by omega
    exact⟨⟨a,by simp[*]⟩,by omega⟩
   |some b=>
    rw[hφ]at hs;obtain⟨x,cap,rfl,q2,q3,q4,q5⟩:=hs;obtain⟨-,h4,h5,h6⟩:=bounds_run (ν:=ν) (g:=g) (P:=P) q3 true e3 e5 hh hl g.w;refine .same r (sliceAt_run hu hi' h6) (own _ rfl ?_);rw[hφ];subst he;generalize lb.getD 0=l at *;generalize hb.getD m=h at *;by_cases hcl:cap=l
    ·rw[if_pos hcl];refine⟨x,cap - l,rfl,by omega,by omega,?_,λhx c hc=>?_⟩
     ·rcases q4 with q4 | q4
      ·by_cases hl0:l=0
       ·left;subst hl0;simpa using q4
       ·right;omega
      ·right;omega
     ·by_cases hxo:x=o*i.size
      ·exact q5 hxo c (Nat.lt_of_lt_of_le hc (Nat.mul_le_mul_right _ (by omega)))
      ·have:=q4.resolve_left hxo;have hl0:l=0:=by omega
       subst hl0;exact absurd (by simpa using hx) hxo
    ·rw[if_neg hcl];refine⟨x+l*i.size,cap - l,by simp[Addr.add_lit],by omega,by omega,?_,λhx c hc=>?_⟩
     ·rcases q4 with q4 | q4
      ·left;rw[q4,Nat.add_mul]
      ·right;omega
     ·have hxo:x=o*i.size:=by rw[Nat.add_mul]at hx;omega
      exact q5 hxo c (Nat.lt_of_lt_of_le hc (Nat.mul_le_mul_right _ (by omega)))
  cases ob with
  |cells cs=>exact ho.elim
  |buf v' e'' es=>
   obtain⟨hve,e10⟩:=M.ok_bind e8;obtain⟨rfl,rfl⟩:=Mret_someZ e10;simp only[Bool.and_eq_true,beq_iff_eq]at hve;exact fin (.inl hg) hve.1 hve.2 (ho.2 hve.1)
  |imm v' e'' es=>
   obtain⟨hve,e10⟩:=M.ok_bind e8;obtain⟨rfl,rfl⟩:=Mret_someZ e10;simp only[Bool.and_eq_true,beq_iff_eq]at hve;exact fin (.inr hg) hve.1 hve.2 (ho.2 hve.1)
  |map _=>exact ho.elim
def lenB (P:Program) (t:TypeId) (str:Bool):Bool:=
 match P.underlying t with
 |some (.slice _)=>!str
 |some .string=>str
 |_=>false
theorem len_ok (r:Rel ν k g) {t ty:TypeId} {str:Bool} (ht:lenB P t str=true) {v:Value} {x y:AV} {h':Hp} (hv:RA ν g v x) (e:(len str x).run g.h=some (y,h')) :
  Done ν k g h' y ((Builtin.len_ #[t] ty #[v]).run P g.w):=by
 unfold lenB at ht;split at ht
 ·rename_i el hu;have:str=false:=by simpa using ht
  subst this;have key:∀(a:Option Addr) (n cap:Nat),Done ν k g g.h (.iv (.int .i64 n)) ((Builtin.len_ #[t] ty #[.slice a n cap]).run P g.w):=λa n cap=>
   .same r (v:=.int .i64 n) (by simp[Builtin.len_,run_underlying hu,goInt]) mkInt
  cases hv with
  |undef=>exact(Mfail_someZ e).elim
  |agg=>exact(Mfail_someZ e).elim
  |tup=>exact(Mfail_someZ e).elim
  |ref=>exact(Mfail_someZ e).elim
  |clo=>exact(Mfail_someZ e).elim
  |iv hr=>
   cases hr with
   |nsl a e''=>obtain⟨rfl,rfl⟩:=Mret_someZ e;exact key _ _ _
   |sl0 a cap e''=>obtain⟨rfl,rfl⟩:=Mret_someZ e;exact key _ 0 _
   |sl b off n cap e'' es f hI hn hcap hll hc hr=>obtain⟨rfl,rfl⟩:=Mret_someZ e;rw[hn];exact key _ _ _
   |_=>exact(Mfail_someZ e).elim
  |@own _ id o m ver ho1 ho=>
   obtain⟨ob,hg,e2⟩:=M.look_bind e;unfold OwnAt at ho;rw[hg]at ho;have fin:∀{e'':Nat} {es:List (List IV)},SlAt g.w (g.φ id) e'' es o m v->Done ν k g g.h (.iv (.int .i64 m)) ((Builtin.len_ #[t] ty #[v]).run P g.w):=by
    intro e'' es hs;cases hφ:g.φ id with
    |none=>rw[hφ]at hs;obtain⟨⟨a,rfl⟩,rfl⟩:=hs;exact key _ _ _
    |some b=>rw[hφ]at hs;obtain⟨x,cap,rfl,_⟩:=hs;exact key _ _ _
   cases ob with
   |cells cs=>exact ho.elim
   |buf v' e'' es=>
    obtain⟨hva,e4⟩:=M.ok_bind e2;obtain⟨rfl,rfl⟩:=Mret_someZ e4;exact fin (ho.2 (by simpa using hva))
   |imm v' e'' es=>
    obtain⟨hva,e4⟩:=M.ok_bind e2;obtain⟨rfl,rfl⟩:=Mret_someZ e4;exact fin (ho.2 (by simpa using hva))
   |map _=>exact ho.elim
 ·rename_i hu;have:str=true:=ht;subst this;unfold len at e;split at e
  ·rename_i h;cases h
  ·rename_i h;cases h
  ·rename_i h;cases h
  ·obtain⟨rfl,rfl⟩:=Mret_someZ e;obtain rfl:=hv.str;exact .same r (v:=.int .i64 _) (by simp[Builtin.len_,run_underlying hu,goInt]) mkInt
  ·exact(Mfail_someZ e).elim
 ·cases ht
theorem mn_ok (P:Program) (w:World):∀(xs:List AV) (vs:List Value) (a:Int) (kk:IntKind) (z:Int),mnI a xs kk=some z->vs.length=xs.length->(∀(j:Nat) (v:Value) (x:AV),vs[j]?=some v->xs[j]?=some x->RA ν g v x)->
  (vs.foldlM Builtin.min2 (.int kk a)).run P w = .ok (.int kk z) w:=by
 intro xs
 induction xs with
 |nil=>
  intro vs a kk z h hl _;have:vs=[]:=List.eq_nil_of_length_eq_zero hl;subst this;simp[mnI]at h;subst h;rfl
 |cons x xs ih=>
  intro vs a kk z h hl hr;cases vs with
  |nil=>simp at hl
  |cons v vs=>
   have h0:=hr 0 v x rfl rfl;unfold mnI at h;split at h
   ·rename_i heq;cases heq
   ·rename_i kk' b r heq;cases heq;split at h
    ·rename_i hk;subst hk;obtain rfl:=h0.int;simp only[List.foldlM_cons,Sem.run_bind,Builtin.min2,Sem.run_pure,Result.andThen_ok];exact ih vs _ _ _ h (by simpa using hl) λj v' x' h1 h2=>hr (j+1) v' x' (by simpa using h1) (by simpa using h2)
    ·cases h
   ·cases h
theorem mx_ok (P:Program) (w:World):∀(xs:List AV) (vs:List Value) (a:Int) (kk:IntKind) (z:Int),mxI a xs kk=some z->vs.length=xs.length->(∀(j:Nat) (v:Value) (x:AV),vs[j]?=some v->xs[j]?=some x->RA ν g v x)->
  (vs.foldlM Builtin.max2 (.int kk a)).run P w = .ok (.int kk z) w:=by
 intro xs
 induction xs with
 |nil=>
  intro vs a kk z h hl _;have:vs=[]:=List.eq_nil_of_length_eq_zero hl;subst this;simp[mxI]at h;subst h;rfl
 |cons x xs ih=>
  intro vs a kk z h hl hr;cases vs with
  |nil=>simp at hl
  |cons v vs=>
   have h0:=hr 0 v x rfl rfl;unfold mxI at h;split at h
   ·rename_i heq;cases heq
   ·rename_i kk' b r heq;cases heq;split at h
    ·rename_i hk;subst hk;obtain rfl:=h0.int;simp only[List.foldlM_cons,Sem.run_bind,Builtin.max2,Sem.run_pure,Result.andThen_ok];exact ih vs _ _ _ h (by simpa using hl) λj v' x' h1 h2=>hr (j+1) v' x' (by simpa using h1) (by simpa using h2)
    ·cases h
   ·cases h
theorem cells_run {x:AV} {l:List AV} {h h':Hp} (e:(cellsM x).run h=some (l,h')) {v:Value} (hv:RA ν g v x) :
  h'=h/\v.cells.size=l.length/\∀(j:Nat) (c:AV),l[j]?=some c->∃u,v.cells[j]?=some u/\u.oneCell'=true/\RA ν g u c:=by
 have one:∀{z:AV},(M.ret [z]).run h=some (l,h')->RA ν g v z->v.oneCell'=true->h'=h/\v.cells.size=l.length/\∀(j:Nat) (c:AV),l[j]?=some c->∃u,v.cells[j]?=some u/\u.oneCell'=true/\RA ν g u c:=by
  intro z e hz h1;obtain⟨rfl,rfl⟩:=Mret_someZ e;have hc:v.cells=#[v]:=by cases v<;>first | rfl | simp[Value.oneCell']at h1
  refine⟨rfl,by rw[hc];rfl,λj c hj=>?_⟩;cases j with
  |zero=>simp at hj;subst hj;exact⟨v,by rw[hc];rfl,h1,hz⟩
  |succ j=>simp at hj
 cases hv with
 |undef=>exact(Mfail_someZ e).elim
 |tup=>exact(Mfail_someZ e).elim
 |agg hn h1 hr=>
  obtain⟨rfl,rfl⟩:=Mret_someZ e;refine⟨rfl,hn,λj c hj=>?_⟩;obtain⟨u,hu,hR⟩:=RA.agg_get (.agg hn h1 hr) j c hj;exact⟨u,hu,h1 j u hu,hR⟩
 |iv hr=>exact one e (.iv hr) hr.one
 |own h1 h2=>exact one e (.own h1 h2) h1
 |ref h1 h2=>exact one e (.ref h1 h2) h1
 |clo hn hr=>exact one e (.clo hn hr) rfl
def RC (ν:Nat->Nat) (g:Gh) (vs:Array Value) (cs:List AV):Prop:=
 vs.size=cs.length/\∀(j:Nat) (c:AV),cs[j]?=some c->∃u,vs[j]?=some u/\u.oneCell'=true/\RA ν g u c
theorem RC.agg {vs:Array Value} {cs:List AV} (h:RC ν g vs cs):RA ν g (.agg vs) (.agg cs):=by
 have key:∀(j:Nat) (v:Value),vs[j]?=some v->∃c,cs[j]?=some c/\v.oneCell'=true/\RA ν g v c:=by
  intro j v hv;have hj:j<vs.size:=(Array.getElem?_eq_some_iff.1 hv).1;have hc:cs[j]?=some (cs[j]'(by have:=h.1;omega)):=List.getElem?_eq_getElem _;obtain⟨u,hu,h1,hR⟩:=h.2 j _ hc;rw[hv]at hu;cases hu;exact⟨_,hc,h1,hR⟩
 exact .agg h.1 (λj v hv=>let⟨_,_,h1,_⟩:=key j v hv;h1) λj v c hv hc=>by
  obtain⟨c',hc',_,hR⟩:=key j v hv;rw[hc]at hc';cases hc';exact hR
theorem fillFold_spec (off:Nat):∀(l:List Value) (s:Nat) (cs:Array Value),off+s+l.length<=cs.size->
  let r:=(l.zipIdx s).foldl (λcs (p:Value×Nat)=>cs.setIfInBounds (off+p.2) p.1) cs
  r.size=cs.size/\∀j,r[j]?=if off+s<=j/\j<off+s+l.length then l[j - (off+s)]? else cs[j]?:=by
 intro l
 induction l with
 |nil=>intro s cs _;simp;intro j h1 h2;omega
 |cons v l ih=>
  intro s cs hl;simp only[List.zipIdx_cons,List.foldl_cons];simp only[List.length_cons]at hl;obtain⟨h1,h2⟩:=ih (s+1) (cs.setIfInBounds (off+s) v) (by simp;omega);refine⟨by rw[h1];simp,λj=>?_⟩;rw[h2 j];by_cases hj:j=off+s
  ·subst hj;rw[if_neg (by omega),if_pos (by simp),Array.getElem?_setIfInBounds_self_of_lt (by omega)];simp
  ·by_cases hj2:off+(s+1)<=j/\j<off+(s+1)+l.length
   ·rw[if_pos hj2,if_pos (by simp;omega)];rw[show j - (off+s)=(j - (off+(s+1)))+1 by omega];simp
   ·rw[if_neg hj2,if_neg (by simp;omega)];rw[Array.getElem?_setIfInBounds_ne (Ne.symm hj)]
theorem splice_get {α:Type} (cs:List α) (o:Nat) (l:List α) (h:o+l.length<=cs.length) (j:Nat) :
  (splice cs o l)[j]?=if o<=j/\j<o+l.length then l[j - o]? else cs[j]?:=by
 unfold splice;rw[List.getElem?_append,List.getElem?_append];simp only[List.length_append,List.length_take,Nat.min_eq_left (show o<=cs.length by omega)];by_cases h1:j<o
 ·rw[if_pos (by omega),if_pos h1,if_neg (by omega),List.getElem?_take,if_pos h1]
 ·by_cases h2:j<o+l.length
  ·rw[if_pos h2,if_neg h1,if_pos ⟨by omega,h2⟩]
  ·rw[if_neg h2,if_neg (by omega),List.getElem?_drop,show o+l.length+(j - (o+l.length))=j by omega]
theorem splice_length {α:Type} (cs:List α) (o:Nat) (l:List α) (h:o+l.length<=cs.length):(splice cs o l).length=cs.length:=by simp[splice];omega
theorem RC.splice {vs us:Array Value} {cs l:List AV} {o:Nat} (h:RC ν g vs cs) (hu:RC ν g us l) (hfit:o+l.length<=cs.length) :
  RC ν g ((us.toList.zipIdx).foldl (λcs (p:Value×Nat)=>cs.setIfInBounds (o+p.2) p.1) vs) (Arb.splice cs o l):=by
 have hs:=fillFold_spec o us.toList 0 vs (by have:=h.1;have:=hu.1;simp;omega);simp only[Nat.add_zero,Array.length_toList]at hs;refine⟨by rw[hs.1,splice_length _ _ _ hfit,h.1],λj c hc=>?_⟩;rw[splice_get _ _ _ hfit]at hc;rw[hs.2 j];have:=hu.1;by_cases hj:o<=j/\j<o+l.length
 ·rw[if_pos hj]at hc;rw[if_pos (by omega)];simpa using hu.2 _ c hc
 ·rw[if_neg hj]at hc;rw[if_neg (by omega)];exact h.2 j c hc
end
section
variable {ν:Nat->Nat} {P:Program} {k:Cx} {g:Gh}
theorem RC.mono {g':Gh} {vs:Array Value} {cs:List AV} (h:RC ν g vs cs) (hm:Mono ν g g'):RC ν g' vs cs:=
 ⟨h.1,λj c hc=>let⟨u,h1,h2,h3⟩:=h.2 j c hc;⟨u,h1,h2,hm _ _ h3⟩⟩
theorem nilc_ok:∀(cs:List AV) (s:Nat) (k:Cx) (g:Gh) (ls:List AV) (h':Hp),(nilc s cs).run g.h=some (ls,h')->Rel ν k g->∀vs:Array Value,RC ν g vs cs->
  ∃φ',Rel ν k { g with φ:=φ',h:=h' }/\Mono ν g { g with φ:=φ',h:=h' }/\RC ν { g with φ:=φ',h:=h' } vs ls/\(∀id,(get g.h id).isSome=true->φ' id=g.φ id/\get h' id=get g.h id)/\
   ∀id,id<s->get h' id=get g.h id:=by
 intro cs
 induction cs with
 |nil=>
  intro s k g ls h' e r vs hv;obtain⟨rfl,rfl⟩:=Mret_someZ e;exact⟨g.φ,r,.refl ν g,hv,λ_ _=>⟨rfl,rfl⟩,λ_ _=>rfl⟩
 |cons c cs ih=>
  intro s k g ls h' e r vs hv;have htail:RC ν g (vs.extract 1 vs.size) cs:=by
   refine⟨by have:=hv.1;simp at this ⊢;omega,λj c' hc=>?_⟩;obtain⟨u,h1,h2⟩:=hv.2 (j+1) c' (by simpa using hc)
   grind
  obtain⟨u,hu,hu1,huR⟩:=hv.2 0 c rfl;have glue:∀{g':Gh} {c':AV} {rs:List AV},RC ν g' (vs.extract 1 vs.size) rs->RA ν g' u c'->RC ν g' vs (c'::rs):=by
   intro g' c' rs h1 h2;have hsz:0<vs.size:=(Array.getElem?_eq_some_iff.1 hu).1;refine⟨by have:=h1.1;simp at this ⊢;omega,λj c'' hc=>?_⟩;cases j with
   |zero=>simp at hc;subst hc;exact⟨u,hu,hu1,h2⟩
   |succ j=>
    obtain⟨u',h3,h4⟩:=h1.2 j c'' (by simpa using hc)
    grind
  have plain:∀{h1:Hp} {rs:List AV},(nilc (s+1) cs).run g.h=some (rs,h1)->ls=c::rs->h'=h1->
    ∃φ',Rel ν k { g with φ:=φ',h:=h' }/\Mono ν g { g with φ:=φ',h:=h' }/\RC ν { g with φ:=φ',h:=h' } vs ls/\(∀id,(get g.h id).isSome=true->φ' id=g.φ id/\get h' id=get g.h id)/\
     ∀id,id<s->get h' id=get g.h id:=by
   intro h1 rs e1 e2 e3;subst e2 e3;obtain⟨φ',r1,m1,c1,o1,o2⟩:=ih (s+1) k g rs h' e1 r _ htail;exact⟨φ',r1,m1,glue c1 (m1 _ _ huR),o1,λid hid=>o2 id (by omega)⟩
  by_cases hnil:∃e',c = .iv (.nsl e')
  ·obtain⟨e',rfl⟩:=hnil;obtain⟨_,h1,e1,e2⟩:=Mbind_someZ e;obtain⟨hf,rfl⟩:=M.fresh_some e1;obtain⟨_,h2,e3,e4⟩:=Mbind_someZ e2;obtain rfl:=Mwrite_someZ e3;obtain⟨rs,h3,e5,e6⟩:=Mbind_someZ e4;obtain⟨rfl,rfl⟩:=Mret_someZ e6;have hn:=r.new (s:=s) (ob:=.buf 0 e' []) (p:=none) (w':=g.w) hf (Nat.le_refl _) rfl rfl rfl (λ_ _=>rfl) (λb h=>by cases h) λ_=>.inl ⟨updφ_same _ _ _,rfl⟩
   obtain⟨φ',r1,m1,c1,o1,o2⟩:=ih (s+1) k _ rs _ e5 hn.1 _ (htail.mono hn.2);have hown:RA ν { g with φ:=updφ g.φ s none,h:=set g.h s (.buf 0 e' []) } u (.own s 0 0 0):=by
    cases huR with
    |iv hr=>
     cases hr with
     |nsl a _=>
      refine .own rfl ?_;unfold OwnAt;simp only[get_set_same,updφ_same];exact⟨Nat.le_refl _,λ_=>⟨⟨a,rfl⟩,rfl⟩⟩
   refine⟨φ',r1,hn.2.trans m1,glue c1 (m1 _ _ hown),λid hid=>?_,λid hid=>?_⟩
   ·have hne:id≠s:=λhe=>by rw[he,hf]at hid;cases hid
    obtain⟨p1,p2⟩:=o1 id (by rw[show get (set g.h s (.buf 0 e' [])) id=get g.h id from get_set_ne _ _ (Ne.symm hne)];exact hid);exact⟨p1.trans (updφ_ne _ _ hne),p2.trans (get_set_ne _ _ (Ne.symm hne))⟩
   ·exact(o2 id (by omega)).trans (get_set_ne _ _ (by omega))
  ·have hcons:nilc s (c::cs)=(nilc (s+1) cs).bind λrs=>.ret (c::rs):=by
    cases c with
    |iv x=>
     cases x with
     |nsl e'=>exact absurd ⟨e',rfl⟩ hnil
     |_=>rfl
    |_=>rfl
   rw[hcons]at e;obtain⟨rs,h1,e1,e2⟩:=Mbind_someZ e;obtain⟨rfl,rfl⟩:=Mret_someZ e2
   simp_all
theorem alloc_old (w:World) (o:Obj) (b:Nat) (h:b<w.heap.size):(w.alloc o).heap[b]?=w.heap[b]?:=by first | exact heap_alloc_old w o b h | exact heap_alloc_old w o h
theorem newVar_ok (r:Rel ν k g) {slot:Nat} {t:TypeId} {vs:Array Value} {cs:List AV} (hv:RC ν g vs cs) {h':Hp} {y:AV}
  (e:((M.fresh slot).bind λ_=>(nilc (slot+1) cs).bind λl=>(M.write slot (.cells l)).bind λ_=>M.ret (.ref slot 0 0 0)).run g.h=some (y,h')) :
  Done ν k g h' y (.ok (.pointer (some ⟨g.w.heap.size,0,none⟩)) (g.w.alloc (.cells vs t))):=by
 obtain⟨_,h1,e1,e2⟩:=Mbind_someZ e;obtain⟨hf,rfl⟩:=M.fresh_some e1;obtain⟨l,h2,e3,e4⟩:=Mbind_someZ e2;obtain⟨φ',r1,m1,c1,o1,o2⟩:=nilc_ok cs (slot+1) k g l h2 e3 r vs hv;obtain⟨_,h3,e5,e6⟩:=Mbind_someZ e4;obtain rfl:=Mwrite_someZ e5;obtain⟨rfl,rfl⟩:=Mret_someZ e6;have hn:=r1.new (s:=slot) (ob:=.cells l) (p:=some g.w.heap.size) (w':=g.w.alloc (.cells vs t)) (by rw[o2 slot (by omega)];exact hf) (by simp) rfl rfl rfl (λb hb=>alloc_old _ _ _ hb)
  (λb h=>by cases h;exact Nat.le_refl _) λhm=>by
   refine⟨g.w.heap.size,updφ_same _ _ _,λhi=>?_,⟨by simp,λo=>World.frozen?_alloc_new _ _ _ _⟩,λj c hc=>?_⟩
   ·exact Nat.lt_irrefl _ (r.small _ hi)
   ·obtain⟨u,h1,h2,h3⟩:=c1.2 j c hc;exact⟨u,by rw[World.cell?_alloc_new];exact h1,h2,hm _ _ h3⟩
 refine⟨_,_,rfl,rfl,hn.1,m1.trans hn.2,.ref rfl ?_⟩;unfold RefAt;simp only[get_set_same,updφ_same];exact⟨trivial,trivial,_,rfl,rfl⟩
theorem box_ok (r:Rel ν k g) {slot:Nat} {t:TypeId} {v:Value} {x y:AV} (hv:RA ν g v x) {h':Hp}
  (e:((cellsM x).bind λxs=>(M.fresh slot).bind λ_=>(nilc (slot+1) xs).bind λl=>(M.write slot (.cells l)).bind λ_=>M.ret (.ref slot 0 0 0)).run g.h=some (y,h')) :
  Done ν k g h' y ((Instr.box t v).run P g.w):=by
 obtain⟨xs,h1,e1,e2⟩:=Mbind_someZ e;obtain⟨rfl,hs,hc⟩:=cells_run e1 hv;have:=newVar_ok (t:=t) r ⟨hs,hc⟩ e2;simpa[Instr.box,newVar,newRow]using this
def cVal:Value->IV->Bool
 |v,.junk=>v.oneCell'
 |.int kk n,.int k' m=>kk==k'&&n==m
 |.bool b,.bool c=>b==c
 |.string s,.str t=>s.data.toList==t.data.toList
 |.slice none 0 0,.nsl _=>true
 |.pointer none,.nilp=>true
 |_,_=>false
theorem cVal_ok {v:Value} {x:IV} (h:cVal v x=true) (I:Nat->Prop) (w:World):RI ν I w v x:=by
 unfold cVal at h;split at h
 ·exact .junk _ h
 ·simp only[Bool.and_eq_true,beq_iff_eq]at h;obtain⟨rfl,rfl⟩:=h;exact .int _ _
 ·have:=beq_iff_eq.1 h;subst this;exact .bool _
 ·rename_i s t;have:=beq_iff_eq.1 h;have:s=t:=by
   cases s;cases t;simp at this;simp[this]
  subst this;exact .str _
 ·exact .nsl _ _
 ·exact .nilp
 ·cases h
def cVals:List Value->List IV->Bool
 |[],[]=>true
 |v::vs,x::xs=>cVal v x&&cVals vs xs
 |_,_=>false
theorem cVals_ok:∀{vs:List Value} {xs:List IV},cVals vs xs=true->vs.length=xs.length/\∀(j:Nat) (x:IV),xs[j]?=some x->∃v,vs[j]?=some v/\cVal v x=true
 |[],[],_=>⟨rfl,λj x h=>by simp at h⟩
 |v::vs,x::xs,h=>by
  simp only[cVals,Bool.and_eq_true]at h;obtain⟨h1,h2⟩:=cVals_ok h.2
  grind
 |[],_::_,h=>by simp[cVals]at h
 |_::_,[],h=>by simp[cVals]at h
theorem cVals_RC {vs:Array Value} {xs:List IV} (h:cVals vs.toList xs=true):RC ν g vs (xs.map .iv):=by
 obtain⟨h1,h2⟩:=cVals_ok h;refine⟨by simpa using h1,λj c hc=>?_⟩;simp only[List.getElem?_map,Option.map_eq_some_iff]at hc;obtain⟨x,hx,rfl⟩:=hc;obtain⟨v,hv,hcv⟩:=h2 j x hx;have hR:RI ν g.I g.w v x:=cVal_ok hcv _ _;exact⟨v,by simpa using hv,hR.one,.iv hR⟩
def zeroB (P:Program) (t:TypeId) (z:List IV):Bool:=
 match P.info? t with
 |some i=>(match i.zero with | some v=>cVals v.cells.toList z | none=>false)
 |none=>false
theorem zeroB_spec {t:TypeId} {z:List IV} (h:zeroB P t z=true):∃i v,P.info? t=some i/\i.zero=some v/\cVals v.cells.toList z=true:=by
 unfold zeroB at h
 grind
theorem allocI_ok (r:Rel ν k g) {slot:Nat} {t:TypeId} {z:List IV} (ht:zeroB P t z=true) {y:AV} {h':Hp}
  (e:((M.fresh slot).bind λ_=>(nilc (slot+1) (z.map .iv)).bind λl=>(M.write slot (.cells l)).bind λ_=>M.ret (.ref slot 0 0 0)).run g.h=some (y,h')) :
  Done ν k g h' y ((Instr.alloc t true (.tuple #[])).run P g.w):=by
 obtain⟨i,v,hi,hz,hc⟩:=zeroB_spec ht;have:=newVar_ok (t:=t) r (cVals_RC hc) e;simpa[Instr.alloc,zeroValue,typeInfo,hi,hz,newVar,newRow]using this
theorem nil0_ok (r:Rel ν k g) {slot e:Nat} {a:Option Addr} {y:AV} {h':Hp}
  (e':((M.fresh slot).bind λ_=>(M.write slot (.buf 0 e [])).bind λ_=>M.ret (.own slot 0 0 0)).run g.h=some (y,h')):Done ν k g h' y (.ok (.slice a 0 0) g.w):=by
 obtain⟨_,h1,e1,e2⟩:=Mbind_someZ e';obtain⟨hf,rfl⟩:=M.fresh_some e1;obtain⟨_,h2,e3,e4⟩:=Mbind_someZ e2;obtain rfl:=Mwrite_someZ e3;obtain⟨rfl,rfl⟩:=Mret_someZ e4;have hn:=r.new (s:=slot) (ob:=.buf 0 e []) (p:=none) (w':=g.w) hf (Nat.le_refl _) rfl rfl rfl (λ_ _=>rfl) (λb h=>by cases h) λ_=>.inl ⟨updφ_same _ _ _,rfl⟩
 refine⟨{ g with φ:=updφ g.φ slot none,h:=set g.h slot (.buf 0 e []) },_,rfl,rfl,hn.1,hn.2,.own rfl ?_⟩;unfold OwnAt;simp only[get_set_same,updφ_same];exact⟨Nat.le_refl _,λ_=>⟨⟨a,rfl⟩,rfl⟩⟩
end
section
variable {ν:Nat->Nat} {P:Program} {k:Cx} {g:Gh}
theorem setCells_other (w:World) (b:Nat):∀(vs:List Value) (o k:Nat),k≠b->(w.setCells b o vs).heap[k]?=w.heap[k]?:=by
 intro vs
 induction vs generalizing w with
 |nil=>intro o k _;rfl
 |cons v vs ih=>intro o k hk;rw[World.setCells,ih _ _ _ hk];exact heap_setCell_other _ _ _ _ hk
theorem setCells_size (w:World) (b:Nat):∀(vs:List Value) (o:Nat),(w.setCells b o vs).heap.size=w.heap.size:=by
 intro vs
 induction vs generalizing w with
 |nil=>intro o;rfl
 |cons v vs ih=>intro o;rw[World.setCells,ih];simp
theorem setCells_rest (w:World) (b:Nat):∀(vs:List Value) (o:Nat),(w.setCells b o vs).os=w.os/\(w.setCells b o vs).tape=w.tape/\(w.setCells b o vs).output=w.output:=by
 intro vs
 induction vs generalizing w with
 |nil=>intro o;exact⟨rfl,rfl,rfl⟩
 |cons v vs ih=>intro o;rw[World.setCells];exact ih _ _
theorem setCells_cell (w:World) (b o:Nat) (vs:List Value) (hc:∀j,j<vs.length->(w.cell? ⟨b,o+j,none⟩).isSome=true) (i:Nat) :
  (w.setCells b o vs).cell? ⟨b,i,none⟩=if o<=i/\i<o+vs.length then vs[i - o]? else w.cell? ⟨b,i,none⟩:=by
 by_cases h:o<=i/\i<o+vs.length
 ·rw[if_pos h];have:=World.cell?_setCells_in b vs o w hc (i - o) (by omega);rw[show o+(i - o)=i by omega]at this;rw[this,List.getElem?_eq_getElem (by omega)]
 ·rw[if_neg h];exact World.cell?_setCells_out b vs o w _ λ_ _=>by simp only[];omega
theorem setCells_some (w:World) (b o:Nat) (vs:List Value) (hc:∀j,j<vs.length->(w.cell? ⟨b,o+j,none⟩).isSome=true) (i:Nat) (h:(w.cell? ⟨b,i,none⟩).isSome=true) :
  ((w.setCells b o vs).cell? ⟨b,i,none⟩).isSome=true:=by
 rw[setCells_cell w b o vs hc i];split
 ·rename_i h';rw[List.getElem?_eq_getElem (by omega)];rfl
 ·exact h
theorem SlAt.put {w w':World} {b e o n:Nat} {es es':List (List IV)} {v:Value} (h:SlAt w (some b) e es o n v) (hl:es.length<=es'.length)
  (hc:∀c,(w.cell? ⟨b,c,none⟩).isSome=true->(w'.cell? ⟨b,c,none⟩).isSome=true):SlAt w' (some b) e es' o n v:=by
 obtain⟨x,cap,e1,e2,e3,e4,e5⟩:=h;exact⟨x,cap,e1,by omega,e3,e4,λhx c h'=>hc c (e5 hx c h')⟩
theorem Rel.put (r:Rel ν k g) {id v e b off v':Nat} {es es':List (List IV)} {vs:List Value} (hg:get g.h id=some (.buf v e es)) (hφ:g.φ id=some b)
  (hcells:∀j,j<vs.length->(g.w.cell? ⟨b,off+j,none⟩).isSome=true) (hv:v'=v/\es.length<=es'.length\/v'=v+1)
  (hrow:(∀v x,RI ν g.I g.w v x->RI ν g.I (g.w.setCells b off vs) v x)->Row ν g.I (g.w.setCells b off vs) b e es') :
  Rel ν k { g with w:=g.w.setCells b off vs,h:=set g.h id (.buf v' e es') }/\Mono ν g { g with w:=g.w.setCells b off vs,h:=set g.h id (.buf v' e es') }:=by
 obtain⟨hnI,hsoft⟩:¬g.I b/\Soft g.w b:=by
  rcases r.ob id _ hg with⟨h1,_⟩|⟨b',h1,h2,h3,_⟩
  ·rw[hφ]at h1;cases h1
  ·rw[hφ]at h1;cases h1;exact⟨h2,h3⟩
 have hφ':updφ g.φ id (g.φ id)=g.φ:=by funext i;simp only[updφ];split<;>simp_all
 have hrest:=setCells_rest g.w b vs off;have ht:=r.turn (s:=id) (ob:=.buf v' e es') (p:=g.φ id) (w':=g.w.setCells b off vs) (I':=g.I) hg (λb' h=>by rw[hφ]at h;cases h;exact hnI) (by rw[setCells_size];exact Nat.le_refl _) hrest.1 hrest.2.1 hrest.2.2
  (λb' _ hne=>setCells_other _ _ _ _ _ λhe=>hne (by rw[he];exact hφ)) (λ_ h=>h) (λ_ h=>.inl h) (.inl rfl)
  (λu o n ver ho=>by
   unfold OwnAt at ho ⊢;rw[hg]at ho;simp only[get_set_same,updφ_same];obtain⟨h1,h2⟩:=ho;rcases hv with⟨rfl,hl⟩|rfl
   ·refine⟨h1,λhe=>?_⟩;have:=h2 he;rw[hφ]at this ⊢;exact this.put hl λc hc=>setCells_some _ _ _ _ hcells _ hc
   ·exact⟨by omega,λhe=>by omega⟩)
  (λu ver i j hr=>by
   unfold RefAt at hr ⊢;rw[hg]at hr;simp only[get_set_same,updφ_same];obtain⟨h1,h2⟩:=hr;rcases hv with⟨rfl,hl⟩|rfl
   ·exact⟨h1,h2⟩
   ·exact⟨by omega,λhe=>by omega⟩)
  (λhRI _=>.inr ⟨b,(updφ_same _ _ _).trans hφ,hnI,⟨by rw[setCells_size];exact hsoft.1,λo=>by rw[World.frozen?_setCells];exact hsoft.2 o⟩,hrow hRI⟩)
 rw[hφ']at ht;exact ht
theorem storeAt_run {t:TypeId} {i:TypeInfo} (hi:P.info? t=some i) {b off:Nat} {v:Value} {w:World} (hs:v.cells.size=i.size) (hc:∀j,j<i.size->(w.cell? ⟨b,off+j,none⟩).isSome=true)
  (hf:∀o,w.frozen? ⟨b,o,none⟩=false) (h1:∀u ∈ v.cells.toList,u.oneCell'=true) :
  (Instr.storeAt t (.pointer (some ⟨b,off,none⟩)) v).run P w = .ok () (w.setCells b off v.cells.toList):=by
 have:=run_storeCells_cells (P:=P) b off v.cells.toList 0 w (by simpa[hs]using hc) (λ_ _=>hf _) h1;simp[Instr.storeAt,Instr.sureAddr,storeVar,run_sizeOf hi,hs,this]
def sizeB (P:Program) (t:TypeId) (sz:Nat):Bool:=match P.info? t with | some i=>i.size==sz | none=>false
theorem sizeB_spec {t:TypeId} {sz:Nat} (h:sizeB P t sz=true):∃i,P.info? t=some i/\i.size=sz:=by
 unfold sizeB at h;split at h
 ·exact⟨_,by assumption,by simpa using h⟩
 ·cases h
theorem store_ok (r:Rel ν k g) {slot:Nat} {t:TypeId} {sz:Nat} (ht:sizeB P t sz=true) {va vx:Value} {a x y:AV} (hva:RA ν g va a) (hvx:RA ν g vx x) {h':Hp}
  (e':(store slot sz a x).run g.h=some (y,h')) :
  ∃g',(Instr.storeAt t va vx).run P g.w = .ok () g'.w/\y = .tup []/\g'.h=h'/\Rel ν k g'/\Mono ν g g':=by
 obtain⟨i,hi,rfl⟩:=sizeB_spec ht;obtain⟨xs,h1,e1,e2⟩:=Mbind_someZ e';obtain⟨rfl,hs,hc⟩:=cells_run e1 hvx;obtain⟨hl,e4⟩:=M.ok_bind e2;have hl':xs.length=i.size:=by simpa using hl
 have hone:∀u ∈ vx.cells.toList,u.oneCell'=true:=by
  intro u hu;obtain⟨j,hj,rfl⟩:=List.getElem_of_mem hu;simp only[Array.length_toList]at hj;obtain⟨u',h1,h2,_⟩:=hc j _ (List.getElem?_eq_getElem (by omega));rw[Array.getElem?_eq_getElem hj]at h1;cases h1;simpa using h2
 split at e4
 case h_2=>exact(Mfail_someZ e4).elim
 rename_i id ver i' j;cases hva with
 |ref hr1 hr=>
  obtain⟨ob,hg,e6⟩:=M.look_bind e4;unfold RefAt at hr;rw[hg]at hr;cases ob with
  |imm _ _ _=>exact(Mfail_someZ e6).elim
  |map _=>exact(Mfail_someZ e6).elim
  |cells cs=>
   obtain⟨rfl,rfl,b,hφ,rfl⟩:=hr;obtain⟨hfit,e8⟩:=M.ok_bind e6;have hfit':j+i.size<=cs.length:=by simpa using hfit
   obtain⟨l,h5,e9,e10⟩:=Mbind_someZ e8;obtain⟨φ',r1,m1,c1,o1,o2⟩:=nilc_ok xs slot k g l h5 e9 r vx.cells ⟨hs,hc⟩;obtain⟨_,h6,e11,e12⟩:=Mbind_someZ e10;obtain rfl:=Mwrite_someZ e11;obtain⟨rfl,rfl⟩:=Mret_someZ e12;obtain⟨b',hφ',hnI,hsoft,hcc⟩:=r.ob id _ hg;rw[hφ]at hφ';cases hφ';have hll:l.length=i.size:=by have:=c1.1;omega
   have hex:∀m,m<vx.cells.toList.length->(g.w.cell? ⟨b,j+m,none⟩).isSome=true:=by
    intro m hm;simp only[Array.length_toList]at hm;obtain⟨u,hu,_⟩:=hcc (j+m) _ (List.getElem?_eq_getElem (by omega));rw[hu];rfl
   have hrun:=storeAt_run hi (b:=b) (off:=j) (v:=vx) (w:=g.w) (by omega) (λm hm=>hex m (by simp;omega)) hsoft.2 hone;have hg1:get h5 id=some (.cells cs):=by rw[(o1 id (by rw[hg];rfl)).2];exact hg
   have hφ1:φ' id=some b:=by rw[(o1 id (by rw[hg];rfl)).1];exact hφ
   have hrest:=setCells_rest g.w b vx.cells.toList j;have hφ2:updφ φ' id (φ' id)=φ':=by funext m;simp only[updφ];split<;>simp_all
   have ht:=r1.turn (s:=id) (ob:=.cells (splice cs j l)) (p:=φ' id) (w':=g.w.setCells b j vx.cells.toList) (I':=g.I) hg1 (λb' h=>by simp only[hφ1]at h;cases h;exact hnI)
    (by rw[setCells_size];exact Nat.le_refl _) hrest.1 hrest.2.1 hrest.2.2
    (λb' _ hne=>setCells_other _ _ _ _ _ λhe=>hne (by rw[he];exact hφ1)) (λ_ h=>h) (λ_ h=>.inl h) (.inl rfl)
    (λu o n ver ho=>by
     unfold OwnAt at ho;simp only[hg1]at ho)
    (λu ver m n hr=>by
     unfold RefAt at hr ⊢;simp only[hg1]at hr;simp only[get_set_same,updφ_same];exact hr)
    (λ_ hm=>by
     refine⟨b,(updφ_same _ _ _).trans hφ1,hnI,⟨by rw[setCells_size];exact hsoft.1,λo=>by rw[World.frozen?_setCells];exact hsoft.2 o⟩,λm c hm'=>?_⟩;rw[splice_get _ _ _ (by omega)]at hm';simp only[];rw[setCells_cell _ _ _ _ hex];simp only[Array.length_toList,hs,hl'];by_cases hin:j<=m/\m<j+i.size
     ·rw[if_pos (by omega)]at hm';rw[if_pos hin];obtain⟨u,h1,h2,h3⟩:=c1.2 _ c hm';exact⟨u,by simpa using h1,h2,hm _ _ h3⟩
     ·rw[if_neg (by omega)]at hm';rw[if_neg hin];obtain⟨u,h1,h2,h3⟩:=hcc m c hm';exact⟨u,h1,h2,hm _ _ (m1 _ _ h3)⟩)
   rw[hφ2]at ht;exact⟨_,hrun,rfl,rfl,ht.1,m1.trans ht.2⟩
  |buf v0 e0 es0=>
   obtain⟨l,h4,e7,e8⟩:=Mbind_someZ e6;obtain⟨V,hV⟩:=pick hc;obtain⟨I1,f1,hll,hx⟩:=(fzT_spec ν 8).list xs k g l h4 e7 r V λj c h=>(hV j c h).2.2
   obtain⟨ob',hg',e10⟩:=M.look_bind e8;cases ob' with
   |cells _=>exact(Mfail_someZ e10).elim
   |imm _ _ _=>exact(Mfail_someZ e10).elim
   |map _=>exact(Mfail_someZ e10).elim
   |buf v e es=>
    obtain⟨hok,e12⟩:=M.ok_bind e10;simp only[Bool.and_eq_true,beq_iff_eq,Nat.ble_eq]at hok;obtain⟨hv,hfit⟩:=hok;obtain⟨c,hci,e14⟩:=M.lift_bind e12;obtain⟨_,h8,e15,e16⟩:=Mbind_someZ e14;obtain rfl:=Mwrite_someZ e15;obtain⟨rfl,rfl⟩:=Mret_someZ e16;have hR:=f1.mono _ _ (.ref hr1 (by unfold RefAt;rw[hg];exact hr):RA ν g va (.ref id ver i' j));cases hR with
    |ref _ hR=>
    unfold RefAt at hR;simp only[hg']at hR;obtain⟨b,hφ,rfl⟩:=hR.2 hv;have r1:=f1.rel;rcases r1.ob id _ hg' with⟨h1,_⟩|⟨b',h1,hnI,hsoft,hrow⟩
    ·simp only[hφ]at h1;cases h1
    simp only[hφ]at h1;cases h1;simp only[]at hnI hsoft hrow;have hce:c.length=e:=hrow.1 c (List.mem_of_getElem? hci);have hex:∀m,m<vx.cells.toList.length->(g.w.cell? ⟨b,i'*e+j+m,none⟩).isSome=true:=by
     intro m hm;simp only[Array.length_toList]at hm;obtain⟨u,hu,_⟩:=hrow.2 i' (j+m) c _ hci (List.getElem?_eq_getElem (by omega));rw[Nat.add_assoc,hu];rfl
    have hrun:=storeAt_run hi (b:=b) (off:=i'*e+j) (v:=vx) (w:=g.w) (by omega) (λm hm=>hex m (by simp;omega)) hsoft.2 hone;have hi':i'<es.length:=by
     rcases Nat.lt_or_ge i' es.length with h | h
     ·exact h
     ·rw[List.getElem?_eq_none h]at hci;cases hci
    have hput:=r1.put (id:=id) (v:=v) (e:=e) (b:=b) (off:=i'*e+j) (v':=v) (es:=es) (es':=es.set i' (splice c j l)) (vs:=vx.cells.toList) hg' hφ hex (.inl ⟨rfl,by simp⟩)
     (λhRI=>by
      refine⟨λc' hc'=>?_,λi2 j2 c' x' h1 h2=>?_⟩
      ·rcases List.mem_or_eq_of_mem_set hc' with h | h
       ·exact hrow.1 c' h
       ·rw[h,splice_length _ _ _ (by omega)];exact hce
      ·simp only[];rw[setCells_cell _ _ _ _ hex];simp only[Array.length_toList,hs,hl'];rw[List.getElem?_set]at h1;by_cases h2i:i'=i2
       ·subst h2i;rw[if_pos rfl,if_pos hi']at h1;cases h1;rw[splice_get _ _ _ (by omega)]at h2;by_cases hin:j<=j2/\j2<j+l.length
        ·rw[if_pos hin]at h2;rw[if_pos (by omega)];obtain⟨c0,hc0⟩:∃c0,xs[j2 - j]?=some c0:=⟨_,List.getElem?_eq_getElem (by omega)⟩;obtain⟨u,hu,_,_⟩:=hc _ c0 hc0;refine⟨u,?_,?_⟩
         ·rw[show i'*e+j2 - (i'*e+j)=j2 - j by omega];simpa using hu
         ·have:=(hV _ c0 hc0).1;rw[hu]at this;cases this;exact hRI _ _ (hx _ x' h2)
        ·rw[if_neg hin]at h2;rw[if_neg (by omega)];obtain⟨u,h3,h4⟩:=hrow.2 i' j2 c x' hci h2;exact⟨u,h3,hRI _ _ h4⟩
       ·rw[if_neg h2i]at h1;have hj2:j2<e:=by
         have:=hrow.1 c' (List.mem_of_getElem? h1);rcases Nat.lt_or_ge j2 c'.length with h | h
         ·omega
         ·rw[List.getElem?_eq_none h]at h2;cases h2
        have hapart:¬(i'*e+j<=i2*e+j2/\i2*e+j2<i'*e+j+i.size):=by
         intro⟨ha,hb⟩;rcases Nat.lt_or_gt_of_ne h2i with hlt | hlt
         ·have:i'*e+e<=i2*e:=by rw[<-Nat.succ_mul];exact Nat.mul_le_mul_right _ hlt
          omega
         ·have:i2*e+e<=i'*e:=by rw[<-Nat.succ_mul];exact Nat.mul_le_mul_right _ hlt
          omega
        rw[if_neg hapart];obtain⟨u,h3,h4⟩:=hrow.2 i2 j2 c' x' h1 h2;exact⟨u,h3,hRI _ _ h4⟩)
    exact⟨_,hrun,rfl,rfl,hput.1,f1.mono.trans hput.2⟩
end
theorem M.mapL_map {α β γ:Type} (f:β->M γ) (h:α->β):∀l:List α,M.mapL f (l.map h)=M.mapL (λx=>f (h x)) l
 |[]=>rfl
 |x::r=>by simp only[List.map_cons,M.mapL,M.mapL_map f h r]
section
variable {ν:Nat->Nat} {P:Program} {k:Cx} {g:Gh}
def RowA (ν:Nat->Nat) (I:Nat->Prop) (w:World) (vs:Array Value) (e:Nat) (es:List (List IV)):Prop:=
 vs.size=es.length*e/\(∀c ∈ es,c.length=e)/\∀(i j:Nat) (c:List IV) (x:IV),es[i]?=some c->c[j]?=some x->∃u,vs[i*e+j]?=some u/\RI ν I w u x
theorem lt_of_some {α:Type} {l:List α} {i:Nat} {x:α} (h:l[i]?=some x):i<l.length:=by
 rcases Nat.lt_or_ge i l.length with h' | h'
 ·exact h'
 ·rw[List.getElem?_eq_none h']at h;cases h
theorem RowA.step {I:Nat->Prop} {w:World} {vs us:Array Value} {e i0:Nat} {es:List (List IV)} {l:List IV} (h:RowA ν I w vs e es) (hi:i0<es.length) (hu:us.size=e) (hl:l.length=e)
  (hr:∀(m:Nat) (x:IV),l[m]?=some x->∃u,us[m]?=some u/\RI ν I w u x) :
  RowA ν I w ((us.toList.zipIdx).foldl (λcs (p:Value×Nat)=>cs.setIfInBounds (i0*e+p.2) p.1) vs) e (es.set i0 l):=by
 have hfit:i0*e+e<=vs.size:=by rw[h.1,<-Nat.succ_mul];exact Nat.mul_le_mul_right _ hi
 have hs:=fillFold_spec (i0*e) us.toList 0 vs (by simp;omega);simp only[Nat.add_zero,Array.length_toList,hu]at hs;refine⟨by rw[hs.1,h.1];simp,λc hc=>?_,λi j c x h1 h2=>?_⟩
 ·rcases List.mem_or_eq_of_mem_set hc with h' | h'
  ·exact h.2.1 c h'
  ·rw[h',hl]
 ·rw[hs.2,List.getElem?_set]at *;by_cases hii:i0=i
  ·subst hii;rw[if_pos rfl,if_pos hi]at h1;cases h1;have hj:=lt_of_some h2;rw[if_pos (by omega),show i0*e+j - i0*e=j by omega];simpa using hr j x h2
  ·rw[if_neg hii]at h1;have hj:j<e:=by have:=lt_of_some h2;rw[h.2.1 c (List.mem_of_getElem? h1)]at this;exact this
   have hapart:¬(i0*e<=i*e+j/\i*e+j<i0*e+e):=by
    intro⟨ha,hb⟩;rcases Nat.lt_or_gt_of_ne hii with hlt | hlt
    ·have:i0*e+e<=i*e:=by rw[<-Nat.succ_mul];exact Nat.mul_le_mul_right _ hlt
     omega
    ·have:i*e+e<=i0*e:=by rw[<-Nat.succ_mul];exact Nat.mul_le_mul_right _ hlt
     omega
   rw[if_neg hapart];exact h.2.2 i j c x h1 h2
theorem parts_fz {e n:Nat}:∀(ps:List (Nat×AV)) (k:Cx) (g:Gh) (out:List (Nat×List IV)) (h':Hp),
  (M.mapL (λp:Nat×AV=>(cellsM p.2).bind λxs=>(M.ok (xs.length==e&&Nat.blt p.1 n)).bind λ_=>(M.mapL (fz true 8) xs).bind λl=>M.ret (p.1,l)) ps).run g.h=some (out,h')->Rel ν k g->
  ∀vs:List (Nat×Value),vs.length=ps.length->(∀(j:Nat) (q:Nat×Value) (p:Nat×AV),vs[j]?=some q->ps[j]?=some p->q.1=p.1/\RA ν g q.2 p.2)->
  ∃I',Froze ν k g h' I'/\out.length=vs.length/\∀(j:Nat) (p:Nat×List IV) (q:Nat×Value),out[j]?=some p->vs[j]?=some q->
   q.1=p.1/\p.1<n/\q.2.cells.size=e/\p.2.length=e/\∀(m:Nat) (x:IV),p.2[m]?=some x->∃u,q.2.cells[m]?=some u/\RI ν I' g.w u x:=by
 intro ps
 induction ps with
 |nil=>
  intro k g out h' e' r vs hl _;obtain⟨rfl,rfl⟩:=MmapL_nilZ e';have:vs=[]:=List.eq_nil_of_length_eq_zero hl;subst this;exact⟨g.I,.refl r,rfl,λj p q h=>by simp at h⟩
 |cons p ps ih=>
  intro k g out h' e' r vs hl hv;obtain⟨y,h1,zs,e1,e2,rfl⟩:=MmapL_consZ e';cases vs with
  |nil=>simp at hl
  |cons q vs=>
   obtain⟨hq,hqR⟩:=hv 0 q p rfl rfl;obtain⟨xs,h2,e3,e4⟩:=Mbind_someZ e1;obtain⟨rfl,hs,hc⟩:=cells_run e3 hqR;obtain⟨hok,e6⟩:=M.ok_bind e4;simp only[Bool.and_eq_true,beq_iff_eq,Nat.blt_eq]at hok;obtain⟨l,h4,e7,e8⟩:=Mbind_someZ e6;obtain⟨V,hV⟩:=pick hc;obtain⟨I1,f1,hll,hx⟩:=(fzT_spec ν 8).list xs k g l h4 e7 r V λj c h=>(hV j c h).2.2
   obtain⟨rfl,rfl⟩:=Mret_someZ e8;obtain⟨I2,f2,hl2,hr2⟩:=ih k _ zs h' e2 f1.rel vs (by simpa using hl) λj q' p' h1 h2=>by
    obtain⟨a1,a2⟩:=hv (j+1) q' p' (by simpa using h1) (by simpa using h2);exact⟨a1,f1.mono _ _ a2⟩
   refine⟨I2,f1.trans f2,by simp[hl2],λj p' q' h1 h2=>?_⟩;cases j with
   |zero=>
    simp at h1 h2;subst h1 h2;refine⟨hq,hok.2,by omega,by simp only[];omega,λm x hm=>?_⟩;have hlt:=lt_of_some hm;simp only[]at hlt;have hu:=(hV m _ (List.getElem?_eq_getElem (show m<xs.length by omega))).1;exact⟨V m,hu,(hx m x hm).mono f2.sub λ_ _ _ _ h=>h⟩
   |succ j=>exact hr2 j p' q' (by simpa using h1) (by simpa using h2)
theorem fill_row {I:Nat->Prop} {w:World} {e:Nat}:∀(out:List (Nat×List IV)) (vs:List (Nat×Value)) (cells:Array Value) (es:List (List IV)),out.length=vs.length->RowA ν I w cells e es->
  (∀(j:Nat) (p:Nat×List IV) (q:Nat×Value),out[j]?=some p->vs[j]?=some q->
   q.1=p.1/\p.1<es.length/\q.2.cells.size=e/\p.2.length=e/\∀(m:Nat) (x:IV),p.2[m]?=some x->∃u,q.2.cells[m]?=some u/\RI ν I w u x)->
  ∃cells',Instr.fill (λi=>some (i*e,e)) cells vs=some cells'/\RowA ν I w cells' e (setAll es out):=by
 intro out
 induction out with
 |nil=>
  intro vs cells es hl hrow _;have:vs=[]:=List.eq_nil_of_length_eq_zero hl.symm;subst this;exact⟨cells,rfl,hrow⟩
 |cons p out ih=>
  intro vs cells es hl hrow hh;cases vs with
  |nil=>simp at hl
  |cons q vs=>
   obtain⟨h1,h2,h3,h4,h5⟩:=hh 0 p q rfl rfl;have hstep:=hrow.step (i0:=p.1) (us:=q.2.cells) (l:=p.2) h2 h3 h4 h5;obtain⟨c',hc',hr'⟩:=ih vs _ (es.set p.1 p.2) (by simpa using hl) hstep λj p' q' a b=>by
    obtain⟨x1,x2,x3⟩:=hh (j+1) p' q' (by simpa using a) (by simpa using b);exact⟨x1,by simpa using x2,x3⟩
   refine⟨c',?_,hr'⟩;rw[<-hc'];have hfit:¬(cells.size<q.1*e+e):=by
    have:p.1*e+e<=es.length*e:=by rw[<-Nat.succ_mul];exact Nat.mul_le_mul_right _ h2
    rw[hrow.1,h1];omega
   obtain⟨i,v⟩:=q;simp only at h1 h3 hfit;subst h1;simp only[Instr.fill,h3];rw[if_neg (by simp;omega)];congr 1;rw[<-Array.foldl_toList,Array.toList_zipIdx]
def bslB (P:Program) (t:TypeId) (len e:Nat) (z:List IV):Bool:=
 match P.underlying t with
 |some (.slice el)=>sizeB P el e&&zeroB P el z&&Nat.ble (len*e) 16777216&&z.length==e&&Nat.blt 0 e
 |_=>false
theorem zeros_row {zs:Array Value} {z:List IV} (hz:cVals zs.toList z=true) (n:Nat) {I:Nat->Prop} {w:World} :
  RowA ν I w ((Array.range (n*zs.size)).map (zs[· % zs.size]!)) zs.size (List.replicate n z):=by
 obtain⟨h1,h2⟩:=cVals_ok hz;refine⟨by simp,λc hc=>by rw[List.eq_of_mem_replicate hc];simpa using h1.symm,λi j c x hi hj=>?_⟩;have hi':=lt_of_some hi;simp only[List.length_replicate]at hi';rw[List.getElem?_replicate,if_pos hi']at hi;cases hi;have hjl:=lt_of_some hj;obtain⟨v,hv,hc⟩:=h2 j x hj;have hjz:j<zs.size:=by simp at h1;omega
 have hlt:i*zs.size+j<n*zs.size:=by
  have:i*zs.size+zs.size<=n*zs.size:=by rw[<-Nat.succ_mul];exact Nat.mul_le_mul_right _ hi'
  omega
 refine⟨v,?_,cVal_ok hc _ _⟩;have hmod:(i*zs.size+j) % zs.size=j:=by rw[Nat.add_comm,Nat.add_mul_mod_self_right,Nat.mod_eq_of_lt hjz]
 simp only[Array.getElem?_map,Array.getElem?_range,if_pos hlt,Option.map_some,hmod];rw[getElem!_pos zs j hjz];have:zs[j]?=some v:=by simpa using hv
 rw[Array.getElem?_eq_getElem hjz]at this;exact this
theorem bsl_ok (r:Rel ν k g) {slot:Nat} {t:TypeId} {n e:Nat} {z:List IV} (ht:bslB P t n e z=true) {ps:List (Nat×AV)} {vs:List (Nat×Value)} (hl:vs.length=ps.length)
  (hv:∀(j:Nat) (q:Nat×Value) (p:Nat×AV),vs[j]?=some q->ps[j]?=some p->q.1=p.1/\RA ν g q.2 p.2) {y:AV} {h':Hp}
  (e':((M.ok (z.length==e)).bind λ_=>
   (M.mapL (λp:Nat×AV=>(cellsM p.2).bind λxs=>(M.ok (xs.length==e&&Nat.blt p.1 n)).bind λ_=>(M.mapL (fz true 8) xs).bind λl=>M.ret (p.1,l)) ps).bind λl=>
   (M.fresh slot).bind λ_=>(M.write slot (.buf 0 e (setAll (List.replicate n z) l))).bind λ_=>M.ret (.own slot 0 n 0)).run g.h=some (y,h')) :
  Done ν k g h' y ((Instr.buildSlice t n vs.toArray).run P g.w):=by
 unfold bslB at ht;split at ht
 case h_2=>cases ht
 rename_i el hu;simp only[Bool.and_eq_true,beq_iff_eq,Nat.ble_eq,Nat.blt_eq]at ht;obtain⟨⟨⟨⟨hsz,hz⟩,hbig⟩,hzl⟩,he0⟩:=ht;obtain⟨i,hi,hie⟩:=sizeB_spec hsz;obtain⟨i',v,hi',hzv,hcv⟩:=zeroB_spec hz;rw[hi]at hi';cases hi';subst hie;have hvs:v.cells.size=i.size:=by have:=(cVals_ok hcv).1;simp at this;omega
 obtain⟨-,e2⟩:=M.ok_bind e';obtain⟨out,h2,e3,e4⟩:=Mbind_someZ e2;obtain⟨I1,f1,hol,hout⟩:=parts_fz ps k g out h2 e3 r vs hl hv;obtain⟨_,h3,e5,e6⟩:=Mbind_someZ e4;obtain⟨hf,rfl⟩:=M.fresh_some e5;obtain⟨_,h4,e7,e8⟩:=Mbind_someZ e6;obtain rfl:=Mwrite_someZ e7;obtain⟨rfl,rfl⟩:=Mret_someZ e8;have hrow0:=zeros_row (ν:=ν) hcv n (I:=I1) (w:=g.w);rw[hvs]at hrow0;obtain⟨cells,hfill,hrow⟩:=fill_row out vs _ _ hol hrow0 λj p q a b=>by
  obtain⟨x1,x2,x3⟩:=hout j p q a b;exact⟨x1,by simpa using x2,x3⟩
 have hlen:(setAll (List.replicate n z) out).length=n:=by
  have:∀(o:List (Nat×List IV)) (l:List (List IV)),(setAll l o).length=l.length:=by
   intro o
   induction o with
   |nil=>intro l;rfl
   |cons a o ih=>intro l;simp[setAll,ih]
  rw[this];simp
 have hrun:(Instr.buildSlice t n vs.toArray).run P g.w = .ok (.slice (some ⟨g.w.heap.size,0,none⟩) n n) (g.w.alloc (.cells cells el)):=by
  have hnb:¬(2 ^ 24<n*i.size):=by omega
  by_cases hn0:n=0
  ·subst hn0;simp only[Nat.zero_mul,Array.range_zero',List.map_toArray]at hfill;simp only[Instr.buildSlice,Sem.run_bind,run_underlying hu,Result.andThen_ok,run_sizeOf hi];simp at hfill;simp[hfill,newRow,Array.range_zero']
  ·simp only[Instr.buildSlice,Sem.run_bind,run_underlying hu,Result.andThen_ok,run_sizeOf hi];have hnz:¬n*i.size=0:=Nat.mul_ne_zero hn0 (by omega);simp[hnb,hnz,zeroValue,typeInfo,hi,hzv,hvs,hfill,newRow]
 have r1:=f1.rel;have hn:=r1.new (s:=slot) (ob:=.buf 0 i.size (setAll (List.replicate n z) out)) (p:=some g.w.heap.size) (w':=g.w.alloc (.cells cells el)) hf (by simp) rfl rfl rfl (λb hb=>alloc_old _ _ _ hb)
  (λb h=>by cases h;exact Nat.le_refl _) λhm=>by
   have hRI:∀u x,RI ν I1 g.w u x->RI ν I1 (g.w.alloc (.cells cells el)) u x:=λu x h=>h.mono (λ_ h=>h) λb off w hb hc=>by
    rw[cell_of_same (alloc_old _ _ _ (r1.small b hb))];exact hc
   refine .inr ⟨g.w.heap.size,updφ_same _ _ _,λhi'=>Nat.lt_irrefl _ (r1.small _ hi'),⟨by simp,λo=>World.frozen?_alloc_new _ _ _ _⟩,hrow.2.1,λa b c x h1 h2=>?_⟩;obtain⟨u,hu',hR⟩:=hrow.2.2 a b c x h1 h2;exact⟨u,by simp only[];rw[World.cell?_alloc_new];exact hu',hRI _ _ hR⟩
 refine⟨_,_,hrun,rfl,hn.1,f1.mono.trans hn.2,.own rfl ?_⟩;unfold OwnAt;simp only[get_set_same,updφ_same];refine⟨Nat.le_refl _,λ_=>⟨0,n,rfl,by omega,Nat.le_refl _,.inl (by simp),λ_ c hc=>?_⟩⟩;rw[World.cell?_alloc_new,Array.getElem?_eq_getElem (by rw[hrow.1,hlen];simpa using hc)];rfl
end
section
variable {ν:Nat->Nat} {P:Program} {k:Cx} {g:Gh}
theorem rows_flat {e m:Nat} {f:Nat->Nat->Value}:∃news:List Value,news.length=m*e/\∀i j,i<m->j<e->news[i*e+j]?=some (f i j):=by
 refine⟨(List.range (m*e)).map λp=>f (p / e) (p % e),by simp,λi j hi hj=>?_⟩;have hlt:i*e+j<m*e:=by
  have:i*e+e<=m*e:=by rw[<-Nat.succ_mul];exact Nat.mul_le_mul_right _ hi
  omega
 have hd:(i*e+j) / e=i:=by rw[Nat.mul_comm,Nat.mul_add_div (by omega),Nat.div_eq_of_lt hj,Nat.add_zero]
 have hm:(i*e+j) % e=j:=by rw[Nat.mul_comm,Nat.mul_add_mod,Nat.mod_eq_of_lt hj]
 simp[hlt,hd,hm]
theorem flat_split {e m p:Nat} (h:p<m*e):∃i j,i<m/\j<e/\p=i*e+j:=by
 have he:0<e:=by
  rcases Nat.eq_zero_or_pos e with h0 | h0
  ·subst h0;simp at h
  ·exact h0
 refine⟨p / e,p % e,(Nat.div_lt_iff_lt_mul he).2 h,Nat.mod_lt _ he,?_⟩;rw[Nat.mul_comm];exact(Nat.div_add_mod p e).symm
def Lies (ν:Nat->Nat) (g:Gh) (v:Value) (e:Nat) (ys:List (List IV)) (news:List Value):Prop:=
 (∃a c,v = .slice a ys.length c/\(ys.length=0\/∃b off,a=some ⟨b,off,none⟩/\∀(p:Nat) (u:Value),news[p]?=some u->g.w.cell? ⟨b,off+p,none⟩=some u))/\
 news.length=ys.length*e/\(∀c ∈ ys,c.length=e)/\(∀u ∈ news,u.oneCell'=true)/\
 ∀(i j:Nat) (c:List IV) (x:IV),ys[i]?=some c->c[j]?=some x->∃u,news[i*e+j]?=some u/\RI ν g.I g.w u x
theorem lies_row {b off a0 e m cap:Nat} {ys:List (List IV)} (hm:m=ys.length) (hl:∀c ∈ ys,c.length=e)
  (hc:∀(i j:Nat) (c:List IV) (x:IV),ys[i]?=some c->c[j]?=some x->∃u,g.w.cell? ⟨b,off+i*e+j,none⟩=some u/\RI ν g.I g.w u x) (ha:off=a0) :
  ∃news,Lies ν g (.slice (some ⟨b,a0,none⟩) m cap) e ys news:=by
 subst hm ha;have hget:∀i j,i<ys.length->j<e->∃u:Value,∀c x,ys[i]?=some c->c[j]?=some x->g.w.cell? ⟨b,off+i*e+j,none⟩=some u/\RI ν g.I g.w u x:=by
  intro i j hi hj;have hci:ys[i]?=some ys[i]:=List.getElem?_eq_getElem hi;have hle:=hl _ (List.getElem_mem hi);obtain⟨u,h1,h2⟩:=hc i j _ _ hci (List.getElem?_eq_getElem (by omega));exact⟨u,λc x h3 h4=>by
   rw[hci]at h3;cases h3;rw[List.getElem?_eq_getElem (by omega)]at h4;cases h4;exact⟨h1,h2⟩⟩
 obtain⟨f,hf⟩:∃f:Nat->Nat->Value,∀i j,i<ys.length->j<e->∀c x,ys[i]?=some c->c[j]?=some x->g.w.cell? ⟨b,off+i*e+j,none⟩=some (f i j)/\RI ν g.I g.w (f i j) x:=by
  refine⟨λi j=>if h:i<ys.length/\j<e then Classical.choose (hget i j h.1 h.2) else .bool true,λi j hi hj=>?_⟩;have h:i<ys.length/\j<e:=⟨hi,hj⟩;simp only[dif_pos h];exact Classical.choose_spec (hget i j hi hj)
 obtain⟨news,hn,hget'⟩:=rows_flat (e:=e) (m:=ys.length) (f:=f);have hall:∀(p:Nat) (u:Value),news[p]?=some u->∃i j c x,i<ys.length/\j<e/\p=i*e+j/\u=f i j/\ys[i]?=some c/\c[j]?=some x:=by
  intro p u hu;have hp:=lt_of_some hu;rw[hn]at hp;obtain⟨i,j,hi,hj,rfl⟩:=flat_split hp;rw[hget' i j hi hj]at hu;cases hu;have hle:=hl _ (List.getElem_mem hi);exact⟨i,j,_,_,hi,hj,rfl,rfl,List.getElem?_eq_getElem hi,List.getElem?_eq_getElem (by omega)⟩
 refine⟨news,⟨_,cap,rfl,.inr ⟨b,off,rfl,λp u hu=>?_⟩⟩,hn,hl,λu hu=>?_,λi j c x h1 h2=>?_⟩
 ·obtain⟨i,j,c,x,hi,hj,rfl,rfl,h3,h4⟩:=hall p u hu;rw[<-Nat.add_assoc];exact(hf i j hi hj c x h3 h4).1
 ·obtain⟨p,hp,rfl⟩:=List.getElem_of_mem hu;obtain⟨i,j,c,x,hi,hj,_,h5,h3,h4⟩:=hall p _ (List.getElem?_eq_getElem hp);rw[h5];exact(hf i j hi hj c x h3 h4).2.one
 ·have hi:=lt_of_some h1;have hj:j<e:=by have:=lt_of_some h2;rwa [hl c (List.mem_of_getElem? h1)]at this
  exact⟨_,hget' i j hi hj,(hf i j hi hj c x h1 h2).2⟩
theorem lies_nil {v:Value} {e:Nat} {a:Option Addr} {c:Nat} (hv:v = .slice a 0 c):Lies ν g v e [] []:=
 ⟨⟨a,c,hv,.inl rfl⟩,by simp,λc h=>by simp at h,λu h=>by simp at h,λi j c x h=>by simp at h⟩
theorem elems_ok (r:Rel ν k g) {e:Nat} {x:AV} {ys:List (List IV)} {h':Hp} (e':(elems e x).run g.h=some (ys,h')) {v:Value} (hv:RA ν g v x):h'=g.h/\∃news,Lies ν g v e ys news:=by
 cases hv with
 |undef=>exact(Mfail_someZ e').elim
 |agg=>exact(Mfail_someZ e').elim
 |tup=>exact(Mfail_someZ e').elim
 |ref=>exact(Mfail_someZ e').elim
 |clo=>exact(Mfail_someZ e').elim
 |iv hr=>
  cases hr with
  |nsl a _=>obtain⟨rfl,rfl⟩:=Mret_someZ e';exact⟨rfl,_,lies_nil rfl⟩
  |sl0 a cap _=>
   obtain⟨-,e2⟩:=M.ok_bind e';obtain⟨rfl,rfl⟩:=Mret_someZ e2;exact⟨rfl,_,lies_nil rfl⟩
  |sl b off n cap e'' es f hI hn hcap hll hc hr=>
   obtain⟨he,e2⟩:=M.ok_bind e';obtain⟨rfl,rfl⟩:=Mret_someZ e2;have he':e''=e:=by simpa using he
   subst he';exact⟨rfl,lies_row hn hll (λi j c x h1 h2=>⟨_,hc i j c x h1 h2,hr i j c x h1 h2⟩) rfl⟩
  |_=>exact(Mfail_someZ e').elim
 |@own _ id o m ver ho1 ho=>
  obtain⟨ob,hg,e2⟩:=M.look_bind e';unfold OwnAt at ho;rw[hg]at ho;have fin:∀{e'':Nat} {es:List (List IV)},(∀b,g.φ id=some b->Row ν g.I g.w b e'' es)->e''=e->SlAt g.w (g.φ id) e'' es o m v->∃news,Lies ν g v e ((es.drop o).take m) news:=by
   intro e'' es hrow he hs;subst he;cases hφ:g.φ id with
   |none=>
    rw[hφ]at hs;obtain⟨⟨a,rfl⟩,rfl⟩:=hs;exact⟨[],by simpa using lies_nil (ν:=ν) (g:=g) (e:=e'') (v:=.slice a 0 0) rfl⟩
   |some b=>
    rw[hφ]at hs;obtain⟨x,cap,rfl,h2,h3,h4,_⟩:=hs;by_cases hm:m=0
    ·subst hm;exact⟨[],by simpa using lies_nil (ν:=ν) (g:=g) (e:=e'') (a:=some ⟨b,x,none⟩) (c:=cap) rfl⟩
    ·have hx:x=o*e'':=h4.resolve_right λh=>hm h.1
     have hrow:=hrow b hφ;have hsub:∀(i:Nat) (c:List IV),((es.drop o).take m)[i]?=some c->es[o+i]?=some c:=by
      intro i c hi;rw[List.getElem?_take]at hi;split at hi
      ·rwa [List.getElem?_drop]at hi
      ·cases hi
     exact lies_row (by simp;omega) (λc hc=>hrow.1 c (List.mem_of_mem_drop (List.mem_of_mem_take hc))) (λi j c y h1 h2=>by
      obtain⟨u,hu,hR⟩:=hrow.2 (o+i) j c y (hsub i c h1) h2;exact⟨u,by rwa [Nat.add_mul]at hu,hR⟩) hx.symm
  cases ob with
  |cells cs=>exact ho.elim
  |buf v' e'' es=>
   obtain⟨hve,e10⟩:=M.ok_bind e2;obtain⟨rfl,rfl⟩:=Mret_someZ e10;simp only[Bool.and_eq_true,beq_iff_eq]at hve;refine⟨rfl,fin (λb hφ=>?_) hve.2 (ho.2 hve.1)⟩;rcases r.ob id _ hg with⟨h1,_⟩|⟨b',h1,_,_,hrow⟩
   ·rw[hφ]at h1;cases h1
   ·rw[hφ]at h1;cases h1;exact hrow
  |imm v' e'' es=>
   obtain⟨hve,e10⟩:=M.ok_bind e2;obtain⟨rfl,rfl⟩:=Mret_someZ e10;simp only[Bool.and_eq_true,beq_iff_eq]at hve;refine⟨rfl,fin (λb hφ=>?_) hve.2 (ho.2 hve.1)⟩;rcases r.ob id _ hg with⟨h1,_⟩|⟨b',h1,_,hrow⟩
   ·rw[hφ]at h1;cases h1
   ·rw[hφ]at h1;cases h1;exact hrow
  |map _=>exact ho.elim
def appB (P:Program) (t u:TypeId) (e:Nat):Bool:=
 match P.underlying t,P.underlying u with
 |some (.slice el),some d=>(match d with | .int _=>false | _=>true)&&Nat.blt 0 e&&(match P.info? el with
  |some i=>i.size==e&&Nat.ble i.bytes 4096&&(match i.zero with | some z=>z.cells.size==e | none=>false)
  |none=>false)
 |_,_=>false
theorem appB_spec {t u:TypeId} {e:Nat} (h:appB P t u e=true):∃el d i z,P.underlying t=some (.slice el)/\P.underlying u=some d/\(∀kk,d≠.int kk)/\P.info? el=some i/\i.size=e/\i.bytes<=4096/\i.zero=some z/\z.cells.size=e/\0<e:=by
 unfold appB at h;split at h
 case h_2=>cases h
 rename_i el d hu hd;simp only[Bool.and_eq_true,Nat.blt_eq]at h;obtain⟨⟨h1,h2⟩,h3⟩:=h;split at h3
 case h_2=>cases h3
 rename_i i hi;simp only[Bool.and_eq_true,beq_iff_eq,Nat.ble_eq]at h3;obtain⟨⟨h4,h5⟩,h6⟩:=h3;split at h6
 case h_2=>cases h6
 rename_i z hz;exact⟨el,d,i,z,hu,hd,(λkk he=>by subst he;cases h1),hi,h4,h5,hz,by simpa using h6,h2⟩
theorem firstCells_lies {v:Value} {e:Nat} {ys:List (List IV)} {news:List Value} (h:Lies ν g v e ys news) {w:World} (hw:∀b off u,g.w.cell? ⟨b,off,none⟩=some u->w.cell? ⟨b,off,none⟩=some u) :
  (Builtin.lenOf v).run P w = .ok ys.length w/\(Builtin.firstCells e ys.length v).run P w = .ok news.toArray w:=by
 obtain⟨⟨a,c,rfl,ha⟩,hn,_⟩:=h;refine⟨by simp[Builtin.lenOf],?_⟩;rcases ha with h0 | ⟨b,off,rfl,hc⟩
 ·have:news=[]:=List.eq_nil_of_length_eq_zero (by rw[hn,h0];simp);subst this;cases a with
  |none=>simp[Builtin.firstCells]
  |some a=>simp[Builtin.firstCells,h0,loadCells,loadCellsFrom]
 ·exact run_firstCells_some w e ys.length _ _ _ news hn λj u hu=>by rw[Addr.add_lit];exact hw _ _ _ (hc j u hu)
theorem nextcap_fits {need cap bytes:Nat} (h:cap<need) (hn:need<=1073741824) (hb:bytes<=4096):Builtin.nextslicecap need cap*bytes<=281474976710656:=by
 refine growslice_fits h ?_;exact Nat.le_trans (Nat.mul_le_mul hn hb) (by decide)
theorem append_run {t u ty:TypeId} {e:Nat} (ht:appB P t u e=true) {base:Option Addr} {n cap:Nat} {olds:List Value} (hol:olds.length=n*e)
  (ho:n=0\/∃b,base=some ⟨b,0,none⟩/\∀(p:Nat) (x:Value),olds[p]?=some x->g.w.cell? ⟨b,p,none⟩=some x) {y:Value} {ys:List (List IV)} {news:List Value} (hy:Lies ν g y e ys news)
  (hroom:n+ys.length<=1073741824) :
  (n+ys.length<=cap/\∀R,(match base with | some a=>(storeCells (a.add (n*e)) news).run P g.w | none=>.ok () g.w) = .ok () R->
    (Builtin.append_ #[t,u] ty #[.slice base n cap,y]).run P g.w = .ok (.slice base (n+ys.length) cap) R)\/
  (cap<n+ys.length/\∃(el newcap:Nat) (arr:Array Value),n+ys.length<=newcap/\arr.size=newcap*e/\(∀(p:Nat) (x:Value),(olds++news)[p]?=some x->arr[p]?=some x)/\
    (Builtin.append_ #[t,u] ty #[.slice base n cap,y]).run P g.w = .ok (.slice (some ⟨g.w.heap.size,0,none⟩) (n+ys.length) newcap) (g.w.drew.alloc (.cells arr el))):=by
 obtain⟨el,d,i,z,hu,hd,hdi,hi,rfl,hb,hz,hzs,he0⟩:=appB_spec ht;obtain⟨f1,f2⟩:=firstCells_lies (P:=P) hy (w:=g.w) λ_ _ _ h=>h
 by_cases hc:n+ys.length<=cap
 ·refine .inl ⟨hc,λR hR=>?_⟩;cases base with
  |none=>
   simp only[Result.ok.injEq,true_and]at hR;subst hR;simp[Builtin.append_,run_underlying hu,run_underlying hd,run_sizeOf hi,f1,f2,hc]
  |some a=>
   simp only[]at hR;simp[Builtin.append_,run_underlying hu,run_underlying hd,run_sizeOf hi,f1,f2,hc,hR]
 ·refine .inr ⟨by omega,el,grownCap g.w (n+ys.length) cap el,olds.toArray++news.toArray++Builtin.zeroCells z.cells (grownCap g.w (n+ys.length) cap el - (n+ys.length)),grownCap_ge _ _ _ _,?_,?_,?_⟩
  ·have:=grownCap_ge g.w (n+ys.length) cap el;simp only[Array.size_append,List.size_toArray];rw[size_zeroCells,hzs,hol,hy.2.1,<-Nat.add_mul,<-Nat.add_mul];congr 1;omega
  ·intro p x hx;have hp:=lt_of_some hx;rw[Array.getElem?_append_left (by simpa using hp)];simpa using hx
  ·obtain⟨-,f2'⟩:=firstCells_lies (P:=P) hy (w:=g.w.drew) λ_ _ _ h=>h
   have hold:(Builtin.firstCells i.size n (.slice base n cap)).run P g.w.drew = .ok olds.toArray g.w.drew:=by
    rcases ho with h0 | ⟨b,rfl,hcell⟩
    ·have:olds=[]:=List.eq_nil_of_length_eq_zero (by rw[hol,h0];simp);subst this;cases base with
     |none=>simp[Builtin.firstCells]
     |some a=>simp[Builtin.firstCells,h0,loadCells,loadCellsFrom]
    ·exact run_firstCells_some g.w.drew i.size n _ _ _ olds hol λj x hx=>by rw[Addr.add_lit];simpa using hcell j x hx
   have hcap:=nextcap_fits (need:=n+ys.length) (cap:=cap) (bytes:=i.bytes) (by omega) hroom hb;have h48:¬(281474976710656<Builtin.nextslicecap (n+ys.length) cap*i.bytes):=by omega
   have h63:¬((9223372036854775807:Int)<(n:Int)+ys.length):=by omega
   simp[Builtin.append_,run_underlying hu,run_underlying hd,run_sizeOf hi,f1,hc,h63,typeInfo,hi,h48,Question.forced,hold,f2',zeroValue,hz,newRow,grownCap];congr 2;apply Array.ext';simp
theorem app_ok (r:Rel ν k g) {slot:Nat} {t u ty:TypeId} {e:Nat} (ht:appB P t u e=true) {v yv:Value} {x y z:AV} (hv:RA ν g v x) (hyv:RA ν g yv y) {h':Hp}
  (e':(app e slot x y).run g.h=some (z,h')):Done ν k g h' z ((Builtin.append_ #[t,u] ty #[v,yv]).run P g.w):=by
 obtain⟨ys,h1,e1,e2⟩:=Mbind_someZ e';obtain⟨rfl,news,hy⟩:=elems_ok r e1 hyv;have hys:=hy.2.1;have hye:=hy.2.2.1;have hyr:=hy.2.2.2.2;cases hv with
 |undef=>exact(Mfail_someZ e2).elim
 |agg=>exact(Mfail_someZ e2).elim
 |tup=>exact(Mfail_someZ e2).elim
 |ref=>exact(Mfail_someZ e2).elim
 |clo=>exact(Mfail_someZ e2).elim
 |iv hr=>
  cases hr with
  |nsl a _=>
   obtain⟨hroom,e4⟩:=M.ok_bind e2;obtain⟨_,h3,e5,e6⟩:=Mbind_someZ e4;obtain⟨hf,rfl⟩:=M.fresh_some e5;obtain⟨_,h4,e7,e8⟩:=Mbind_someZ e6;obtain rfl:=Mwrite_someZ e7;obtain⟨rfl,rfl⟩:=Mret_someZ e8;have hroom':0+ys.length<=1073741824:=by simpa[roomy]using hroom
   rcases append_run (ty:=ty) (base:=a) (n:=0) (cap:=0) (olds:=[]) ht (by simp) (.inl rfl) hy hroom' with⟨hc,hrun⟩|⟨hc,el,newcap,arr,h1,h2,h3,hrun⟩
   ·have h0:ys=[]:=List.eq_nil_of_length_eq_zero (by omega);subst h0;have hn0:news=[]:=List.eq_nil_of_length_eq_zero (by simpa using hys);subst hn0;have:=hrun g.w (by cases a<;>simp[storeCells]);have hn:=r.new (s:=slot) (ob:=.buf 0 e []) (p:=none) (w':=g.w) hf (Nat.le_refl _) rfl rfl rfl (λ_ _=>rfl) (λb h=>by cases h) λ_=>.inl ⟨updφ_same _ _ _,rfl⟩
    refine⟨{ g with φ:=updφ g.φ slot none,h:=set g.h slot (.buf 0 e []) },_,this,rfl,hn.1,hn.2,.own rfl ?_⟩;unfold OwnAt;simp only[get_set_same,updφ_same];exact⟨Nat.le_refl _,λ_=>⟨⟨a,rfl⟩,rfl⟩⟩
   ·simp only[Nat.zero_add]at *;have hn:=r.new (s:=slot) (ob:=.buf 0 e ys) (p:=some g.w.heap.size) (w':=g.w.drew.alloc (.cells arr el)) hf (by simp) rfl rfl rfl (λb hb=>alloc_old g.w.drew _ _ hb)
     (λb h=>by cases h;exact Nat.le_refl _) λ_=>by
      have hRI:∀u x,RI ν g.I g.w u x->RI ν g.I (g.w.drew.alloc (.cells arr el)) u x:=λu x h=>h.mono (λ_ h=>h) λb off w hb hc=>by
       rw[cell_of_same (alloc_old g.w.drew _ _ (r.small b hb))];exact hc
      refine .inr ⟨g.w.heap.size,updφ_same _ _ _,λhi'=>Nat.lt_irrefl _ (r.small _ hi'),⟨by simp,λo=>World.frozen?_alloc_new g.w.drew _ _ _⟩,hye,λi j c x hi hj=>?_⟩;obtain⟨u,hu,hR⟩:=hyr i j c x hi hj;exact⟨u,by simp only[];rw[show(g.w.drew.alloc (.cells arr el)).cell? ⟨g.w.heap.size,i*e+j,none⟩=arr[i*e+j]? from World.cell?_alloc_new g.w.drew _ _ _];exact h3 _ _ (by simpa using hu),hRI _ _ hR⟩
    refine⟨_,_,hrun,rfl,hn.1,hn.2,.own rfl ?_⟩;unfold OwnAt;simp only[get_set_same,updφ_same];refine⟨Nat.le_refl _,λ_=>⟨0,newcap,rfl,by omega,h1,.inl (by simp),λ_ c hc=>?_⟩⟩;rw[show(g.w.drew.alloc (.cells arr el)).cell? ⟨g.w.heap.size,c,none⟩=arr[c]? from World.cell?_alloc_new g.w.drew _ _ _,Array.getElem?_eq_getElem (by rw[h2];simpa using hc)];rfl
  |_=>exact(Mfail_someZ e2).elim
 |@own _ id o n ver ho1 ho=>
  obtain⟨ob,hg,e4⟩:=M.look_bind e2;unfold OwnAt at ho;rw[hg]at ho;cases ob with
  |cells _=>exact ho.elim
  |imm _ _ _=>exact(Mfail_someZ e4).elim
  |map _=>exact(Mfail_someZ e4).elim
  |buf v' e'' es=>
   obtain⟨hok,e6⟩:=M.ok_bind e4;simp only[Bool.and_eq_true,beq_iff_eq]at hok;obtain⟨⟨⟨rfl,rfl⟩,rfl⟩,hroom⟩:=hok;obtain⟨_,h4,e7,e8⟩:=Mbind_someZ e6;obtain rfl:=Mwrite_someZ e7;obtain⟨rfl,rfl⟩:=Mret_someZ e8;have hroom':n+ys.length<=1073741824:=by simpa[roomy]using hroom
   have hs:=ho.2 rfl;have grow:∀{cap:Nat} {base:Option Addr} {olds:List Value} {el newcap:Nat} {arr:Array Value},v = .slice base n cap->olds.length=n*e''->(∀c ∈ es.take n,c.length=e'')->n<=es.length->
     (∀(i j:Nat) (c:List IV) (x:IV),(es.take n)[i]?=some c->c[j]?=some x->∃u,olds[i*e''+j]?=some u/\RI ν g.I g.w u x)->
     n+ys.length<=newcap->arr.size=newcap*e''->(∀(p:Nat) (x:Value),(olds++news)[p]?=some x->arr[p]?=some x)->
     (Builtin.append_ #[t,u] ty #[v,yv]).run P g.w = .ok (.slice (some ⟨g.w.heap.size,0,none⟩) (n+ys.length) newcap) (g.w.drew.alloc (.cells arr el))->
     Done ν k g (set g.h id (.buf (v'+1) e'' (es.take n++ys))) (.own id 0 (n+ys.length) (v'+1)) ((Builtin.append_ #[t,u] ty #[v,yv]).run P g.w):=by
    intro cap base olds el newcap arr _ hol htl hn hold h1 h2 h3 hrun;have hnI:∀b,g.φ id=some b->¬g.I b:=by
     intro b hφ;rcases r.ob id _ hg with⟨h1,_⟩|⟨b',h1,h2,_⟩
     ·rw[hφ]at h1;cases h1
     ·rw[hφ]at h1;cases h1;exact h2
    have hRI:∀u x,RI ν g.I g.w u x->RI ν g.I (g.w.drew.alloc (.cells arr el)) u x:=λu x h=>h.mono (λ_ h=>h) λb off w hb hc=>by
     rw[cell_of_same (alloc_old g.w.drew _ _ (r.small b hb))];exact hc
    have ht:=r.turn (s:=id) (ob:=.buf (v'+1) e'' (es.take n++ys)) (p:=some g.w.heap.size) (w':=g.w.drew.alloc (.cells arr el)) (I':=g.I) hg hnI (by simp) rfl rfl rfl
     (λb hb _=>alloc_old g.w.drew _ _ hb) (λ_ h=>h) (λ_ h=>.inl h) (.inr ⟨_,rfl,Nat.le_refl _⟩)
     (λw o n ver h=>by
      unfold OwnAt at h ⊢;rw[hg]at h;simp only[get_set_same,updφ_same];have:=h.1;exact⟨by omega,λhe=>by omega⟩)
     (λw ver i j h=>by
      unfold RefAt at h ⊢;rw[hg]at h;simp only[get_set_same,updφ_same];have:=h.1;exact⟨by omega,λhe=>by omega⟩)
     (λ_ _=>by
      refine .inr ⟨g.w.heap.size,updφ_same _ _ _,λhi'=>Nat.lt_irrefl _ (r.small _ hi'),⟨by simp,λo=>World.frozen?_alloc_new g.w.drew _ _ _⟩,λc hc=>?_,λi j c x hi hj=>?_⟩
      ·rcases List.mem_append.1 hc with h | h
       ·exact htl c h
       ·exact hye c h
      ·rw[List.getElem?_append]at hi;simp only[List.length_take,Nat.min_eq_left hn]at hi;have key:∃u,(olds++news)[i*e''+j]?=some u/\RI ν g.I g.w u x:=by
        split at hi
        ·obtain⟨u,hu,hR⟩:=hold i j c x hi hj;exact⟨u,by rw[List.getElem?_append_left (lt_of_some hu)];exact hu,hR⟩
        ·rename_i hin;obtain⟨u,hu,hR⟩:=hyr (i - n) j c x hi hj;refine⟨u,?_,hR⟩;have:n*e''+(i - n)*e''=i*e'':=by rw[<-Nat.add_mul];congr 1;omega
         rw[List.getElem?_append_right (by omega),show i*e''+j - olds.length=(i - n)*e''+j by omega];exact hu
       obtain⟨u,hu,hR⟩:=key;exact⟨u,by simp only[];rw[show(g.w.drew.alloc (.cells arr el)).cell? ⟨g.w.heap.size,i*e''+j,none⟩=arr[i*e''+j]? from World.cell?_alloc_new g.w.drew _ _ _];exact h3 _ _ hu,hRI _ _ hR⟩)
    refine⟨_,_,hrun,rfl,ht.1,ht.2,.own rfl ?_⟩;unfold OwnAt;simp only[get_set_same,updφ_same];refine⟨Nat.le_refl _,λ_=>⟨0,newcap,rfl,by simp;omega,h1,.inl (by simp),λ_ c hc=>?_⟩⟩;rw[show(g.w.drew.alloc (.cells arr el)).cell? ⟨g.w.heap.size,c,none⟩=arr[c]? from World.cell?_alloc_new g.w.drew _ _ _,Array.getElem?_eq_getElem (by rw[h2];simpa using hc)];rfl
   cases hφ:g.φ id with
   |none=>
    rw[hφ]at hs;obtain⟨⟨a,rfl⟩,rfl⟩:=hs;rcases append_run (ty:=ty) (base:=a) (n:=0) (cap:=0) (olds:=[]) ht (by simp) (.inl rfl) hy hroom' with⟨hc,hrun⟩|⟨hc,el,newcap,arr,h1,h2,h3,hrun⟩
    ·have h0:ys=[]:=List.eq_nil_of_length_eq_zero (by omega);subst h0;have hn0:news=[]:=List.eq_nil_of_length_eq_zero (by simpa using hys);subst hn0;have hrun':=hrun g.w (by cases a<;>simp[storeCells]);have ht':=r.turn (s:=id) (ob:=.buf (v'+1) e'' []) (p:=g.φ id) (w':=g.w) (I':=g.I) hg (λb h=>by rw[hφ]at h;cases h) (Nat.le_refl _) rfl rfl rfl
      (λ_ _ _=>rfl) (λ_ h=>h) (λ_ h=>.inl h) (.inl rfl)
      (λw o n ver h=>by
       unfold OwnAt at h ⊢;rw[hg]at h;simp only[get_set_same,updφ_same];have:=h.1;exact⟨by omega,λhe=>by omega⟩)
      (λw ver i j h=>by
       unfold RefAt at h ⊢;rw[hg]at h;simp only[get_set_same,updφ_same];have:=h.1;exact⟨by omega,λhe=>by omega⟩)
      (λ_ _=>.inl ⟨(updφ_same _ _ _).trans hφ,rfl⟩)
     simp only[List.take_zero,List.append_nil]at *;refine⟨⟨g.I,updφ g.φ id (g.φ id),g.w,set g.h id (.buf (v'+1) e'' [])⟩,_,hrun',rfl,ht'.1,ht'.2,.own rfl ?_⟩;unfold OwnAt;simp only[get_set_same,updφ_same,hφ];exact⟨Nat.le_refl _,λ_=>⟨⟨a,rfl⟩,rfl⟩⟩
    ·exact grow rfl (olds:=[]) (by simp) (λc h=>by simp at h) (Nat.zero_le _) (λi j c x h=>by simp at h) h1 h2 h3 hrun
   |some b=>
    rw[hφ]at hs;obtain⟨x,cap,rfl,q2,q3,q4,q5⟩:=hs;have hx:x=0:=by
     rcases q4 with h | h
     ·simpa using h
     ·exact absurd rfl h.2
    subst hx;have q5:=q5 (by simp);rcases r.ob id _ hg with⟨h1,_⟩|⟨b',h1,hnI,hsoft,hrow⟩
    ·rw[hφ]at h1;cases h1
    rw[hφ]at h1;cases h1;have hlies:=lies_row (ν:=ν) (g:=g) (b:=b) (off:=0) (a0:=0) (e:=e'') (m:=n) (cap:=cap) (ys:=es.take n) (by simp;omega) (λc hc=>hrow.1 c (List.mem_of_mem_take hc)) (λi j c x h1 h2=>by
     rw[List.getElem?_take]at h1;split at h1
     ·obtain⟨w,hw,hR⟩:=hrow.2 i j c x h1 h2;exact⟨w,by rw[Nat.zero_add];exact hw,hR⟩
     ·cases h1) rfl
    obtain⟨olds,⟨a,c,ha,hac⟩,hol,htl,hone,hold⟩:=hlies;simp only[Value.slice.injEq]at ha;obtain⟨rfl, -,rfl⟩:=ha;have htn:(es.take n).length=n:=by simp;omega
    rw[htn]at hol;have hcell:n=0\/∃b',some (⟨b,0,none⟩:Addr)=some ⟨b',0,none⟩/\∀(p:Nat) (x:Value),olds[p]?=some x->g.w.cell? ⟨b',p,none⟩=some x:=by
     rcases hac with h | ⟨b'',off,hb,hh⟩
     ·exact .inl (by omega)
     ·cases hb;exact .inr ⟨b,rfl,λp x hp=>by have:=hh p x hp;rwa [Nat.zero_add]at this⟩
    rcases append_run (ty:=ty) (base:=some ⟨b,0,none⟩) (n:=n) (cap:=cap) (olds:=olds) ht hol hcell hy hroom' with⟨hc,hrun⟩|⟨hc,el,newcap,arr,h1,h2,h3,hrun⟩
    ·
     have hex:∀j,j<news.length->(g.w.cell? ⟨b,n*e''+j,none⟩).isSome=true:=λj hj=>q5 _ (by
      have:n*e''+ys.length*e''<=cap*e'':=by rw[<-Nat.add_mul];exact Nat.mul_le_mul_right _ hc
      rw[Nat.zero_add];omega)
     have hst:=run_storeCells_cells (P:=P) b (n*e'') news 0 g.w (by simpa using hex) (λ_ _=>hsoft.2 _) hy.2.2.2.1;have hrun':=hrun (g.w.setCells b (n*e'') news) (by simpa[Addr.add_lit]using hst);have hput:=r.put (id:=id) (v:=v') (e:=e'') (b:=b) (off:=n*e'') (v':=v'+1) (es:=es) (es':=es.take n++ys) (vs:=news) hg hφ hex (.inr rfl) (λhRI=>by
      refine⟨λc hc=>?_,λi j c x hi hj=>?_⟩
      ·rcases List.mem_append.1 hc with h | h
       ·exact hrow.1 c (List.mem_of_mem_take h)
       ·exact hye c h
      ·rw[setCells_cell _ _ _ _ hex];rw[List.getElem?_append]at hi;simp only[htn]at hi;split at hi
       ·rename_i hin;rw[List.getElem?_take,if_pos hin]at hi;have hj':j<e'':=by have:=lt_of_some hj;rwa [hrow.1 c (List.mem_of_getElem? hi)]at this
        have:i*e''+e''<=n*e'':=by rw[<-Nat.succ_mul];exact Nat.mul_le_mul_right _ hin
        rw[if_neg (by omega)];obtain⟨w,hw,hR⟩:=hrow.2 i j c x hi hj;exact⟨w,hw,hRI _ _ hR⟩
       ·rename_i hin;obtain⟨w,hw,hR⟩:=hyr (i - n) j c x hi hj;have hlt:=lt_of_some hw;have:n*e''+(i - n)*e''=i*e'':=by rw[<-Nat.add_mul];congr 1;omega
        rw[if_pos (by omega),show i*e''+j - n*e''=(i - n)*e''+j by omega];exact⟨w,hw,hRI _ _ hR⟩)
     refine⟨_,_,hrun',rfl,hput.1,hput.2,.own rfl ?_⟩;unfold OwnAt;simp only[get_set_same,hφ];refine⟨Nat.le_refl _,λ_=>⟨0,cap,rfl,by simp;omega,hc,.inl (by simp),λ_ c hc=>setCells_some _ _ _ _ hex _ (q5 c hc)⟩⟩
    ·exact grow rfl hol (λc hc=>hrow.1 c (List.mem_of_mem_take hc)) (by omega) hold h1 h2 h3 hrun
def clrB (P:Program) (t:TypeId) (e:Nat) (z:List IV):Bool:=
 match P.underlying t with
 |some (.slice el)=>sizeB P el e&&zeroB P el z
 |_=>false
theorem clr_ok (r:Rel ν k g) {t ty:TypeId} {e:Nat} {z:List IV} (ht:clrB P t e z=true) {v:Value} {x y:AV} (hv:RA ν g v x) {h':Hp} (e':(clr e z x).run g.h=some (y,h')) :
  Done ν k g h' y ((Builtin.clear_ #[t] ty #[v]).run P g.w):=by
 unfold clrB at ht;split at ht
 case h_2=>cases ht
 rename_i el hu;simp only[Bool.and_eq_true]at ht;obtain⟨hsz,hz⟩:=ht;obtain⟨i,hi,rfl⟩:=sizeB_spec hsz;obtain⟨i',zv,hi',hzv,hcv⟩:=zeroB_spec hz;rw[hi]at hi';cases hi';cases hv with
 |undef=>exact(Mfail_someZ e').elim
 |agg=>exact(Mfail_someZ e').elim
 |tup=>exact(Mfail_someZ e').elim
 |ref=>exact(Mfail_someZ e').elim
 |clo=>exact(Mfail_someZ e').elim
 |iv=>exact(Mfail_someZ e').elim
 |@own _ id o n ver ho1 ho=>
  obtain⟨ob,hg,e4⟩:=M.look_bind e';unfold OwnAt at ho;rw[hg]at ho;cases ob with
  |cells _=>exact ho.elim
  |imm _ _ _=>exact(Mfail_someZ e4).elim
  |map _=>exact(Mfail_someZ e4).elim
  |buf v' e'' es=>
   obtain⟨hok,e6⟩:=M.ok_bind e4;simp only[Bool.and_eq_true,beq_iff_eq]at hok;obtain⟨⟨rfl,rfl⟩,hzl⟩:=hok;obtain⟨_,h4,e7,e8⟩:=Mbind_someZ e6;obtain rfl:=Mwrite_someZ e7;obtain⟨rfl,rfl⟩:=Mret_someZ e8;have hs:=ho.2 rfl;have hzs:zv.cells.size=i.size:=by have:=(cVals_ok hcv).1;simp at this;omega
   have hu0:RA ν g (.tuple #[]) (.tup []):=.tup rfl λj v c h=>by simp at h
   cases hφ:g.φ id with
   |none=>
    rw[hφ]at hs;obtain⟨⟨a,rfl⟩,rfl⟩:=hs;have hes:es=[]:=by
     rcases r.ob id _ hg with⟨_,h2⟩|⟨b',h1,_⟩
     ·exact h2
     ·rw[hφ]at h1;cases h1
    subst hes;have hset:set g.h id (.buf v' i.size ([].take o++List.replicate 0 z++[].drop (o+0)))=set g.h id (.buf v' i.size []):=by simp
    rw[hset];have hrun:(Builtin.clear_ #[t] ty #[.slice a 0 0]).run P g.w = .ok (.tuple #[]) g.w:=by
     cases a<;>simp[Builtin.clear_,run_underlying hu]
    have ht':=r.turn (s:=id) (ob:=.buf v' i.size []) (p:=g.φ id) (w':=g.w) (I':=g.I) hg (λb h=>by rw[hφ]at h;cases h) (Nat.le_refl _) rfl rfl rfl
     (λ_ _ _=>rfl) (λ_ h=>h) (λ_ h=>.inl h) (.inl rfl)
     (λw o n ver h=>by
      unfold OwnAt at h ⊢;rw[hg]at h;simp only[get_set_same,updφ_same];exact h)
     (λw ver i j h=>by
      unfold RefAt at h ⊢;rw[hg]at h;simp only[get_set_same,updφ_same];exact h)
     (λ_ _=>.inl ⟨(updφ_same _ _ _).trans hφ,rfl⟩)
    exact⟨⟨g.I,updφ g.φ id (g.φ id),g.w,set g.h id (.buf v' i.size [])⟩,_,hrun,rfl,ht'.1,ht'.2,ht'.2 _ _ hu0⟩
   |some b=>
    rw[hφ]at hs;obtain⟨x,cap,rfl,q2,q3,q4,q5⟩:=hs;rcases r.ob id _ hg with⟨h1,_⟩|⟨b',h1,hnI,hsoft,hrow⟩
    ·rw[hφ]at h1;cases h1
    rw[hφ]at h1;cases h1;generalize hvs:(Builtin.zeroCells zv.cells n).toList=vs;have hvl:vs.length=n*i.size:=by rw[<-hvs];simp[size_zeroCells,hzs]
    have hone:∀u ∈ vs,u.oneCell'=true:=by
     intro u hu';rw[<-hvs]at hu';simp only[Builtin.zeroCells,Array.toList_map,List.mem_map]at hu';obtain⟨p,hp,rfl⟩:=hu';simp only[Array.toList_range,List.mem_range]at hp;have hlt:p % zv.cells.size<zv.cells.size:=Nat.mod_lt _ (by
      rcases Nat.eq_zero_or_pos zv.cells.size with h0 | h0
      ·rw[h0]at hp;simp at hp
      ·exact h0)
     rw[getElem!_pos zv.cells _ hlt];obtain⟨hl,hall⟩:=cVals_ok hcv;obtain⟨w,hw,hc⟩:=hall (p % zv.cells.size) _ (List.getElem?_eq_getElem (by simp at hl;omega));have:w=zv.cells[p % zv.cells.size]:=by
      have h':zv.cells[p % zv.cells.size]?=some w:=by simpa using hw
      rw[Array.getElem?_eq_getElem hlt]at h';exact(Option.some.inj h').symm
     rw[<-this];exact(cVal_ok (ν:=ν) hc g.I g.w).one
    have hex:∀j,j<vs.length->(g.w.cell? ⟨b,o*i.size+j,none⟩).isSome=true:=by
     intro j hj;have hn0:n≠0:=λh=>by rw[hvl,h]at hj;simp at hj
     have hx:x=o*i.size:=q4.resolve_right λh=>hn0 h.1
     refine q5 hx _ ?_;have:n*i.size<=cap*i.size:=Nat.mul_le_mul_right _ q3;rw[Nat.add_mul];omega
    have hrun:(Builtin.clear_ #[t] ty #[.slice (some ⟨b,x,none⟩) n cap]).run P g.w = .ok (.tuple #[]) (g.w.setCells b (o*i.size) vs):=by
     by_cases hn0:n=0
     ·subst hn0;have:vs=[]:=List.eq_nil_of_length_eq_zero (by simpa using hvl);subst this;simp[Builtin.clear_,run_underlying hu,World.setCells]
     ·have hx:x=o*i.size:=q4.resolve_right λh=>hn0 h.1
      subst hx;have hst:=run_storeCells_cells (P:=P) b (o*i.size) vs 0 g.w (by simpa using hex) (λ_ _=>hsoft.2 _) hone;simp only[Nat.add_zero]at hst;have hmk:∀m,n=m+1->(Builtin.clear_ #[t] ty #[.slice (some ⟨b,o*i.size,none⟩) n cap]).run P g.w = .ok (.tuple #[]) (g.w.setCells b (o*i.size) vs):=by
       intro m hm;subst hm;simp[Builtin.clear_,run_underlying hu,zeroValue,typeInfo,hi,hzv,hvs,hst]
      exact hmk (n - 1) (by omega)
    have hput:=r.put (id:=id) (v:=v') (e:=i.size) (b:=b) (off:=o*i.size) (v':=v') (es:=es) (es':=es.take o++List.replicate n z++es.drop (o+n)) (vs:=vs) hg hφ hex (.inl ⟨rfl,by simp;omega⟩) (λhRI=>by
     have hto:(es.take o).length=o:=by simp;omega
     refine⟨λc hc=>?_,λa j c y ha hj=>?_⟩
     ·simp only[List.mem_append]at hc;rcases hc with(h | h) | h
      ·exact hrow.1 c (List.mem_of_mem_take h)
      ·rw[List.eq_of_mem_replicate h];exact hzl
      ·exact hrow.1 c (List.mem_of_mem_drop h)
     ·rw[setCells_cell _ _ _ _ hex,hvl];rw[List.getElem?_append,List.getElem?_append]at ha;simp only[List.length_append,List.length_replicate,hto]at ha;have mul1:∀{p q:Nat},p<q->p*i.size+i.size<=q*i.size:=λh=>by rw[<-Nat.succ_mul];exact Nat.mul_le_mul_right _ h
      split at ha
      ·rename_i h1;split at ha
       ·rename_i h2;rw[List.getElem?_take,if_pos h2]at ha;have hj':j<i.size:=by have:=lt_of_some hj;rwa [hrow.1 c (List.mem_of_getElem? ha)]at this
        have:=mul1 h2;rw[if_neg (by omega)];obtain⟨w,hw,hR⟩:=hrow.2 a j c y ha hj;exact⟨w,hw,hRI _ _ hR⟩
       ·rename_i h2;rw[List.getElem?_replicate,if_pos (by omega)]at ha;cases ha;have hj':j<i.size:=by have:=lt_of_some hj;omega
        have e1:o*i.size+(a - o)*i.size=a*i.size:=by rw[<-Nat.add_mul];congr 1;omega
        have e2:(a - o)*i.size+i.size<=n*i.size:=mul1 (by omega);rw[if_pos (by omega),show a*i.size+j - o*i.size=(a - o)*i.size+j by omega];obtain⟨hl,hall⟩:=cVals_ok hcv;obtain⟨w,hw,hc⟩:=hall j y hj;refine⟨w,?_,cVal_ok hc _ _⟩;rw[<-hvs];have hp:(a - o)*i.size+j<n*i.size:=by omega
        have hmod:((a - o)*i.size+j) % i.size=j:=by rw[Nat.add_comm,Nat.add_mul_mod_self_right,Nat.mod_eq_of_lt hj']
        simp only[Builtin.zeroCells,Array.getElem?_toList,Array.getElem?_map,Array.getElem?_range,if_pos hp,Option.map_some,hzs,hmod];rw[getElem!_pos zv.cells j (by omega)];have h':zv.cells[j]?=some w:=by simpa using hw
        rw[Array.getElem?_eq_getElem (by omega)]at h';exact h'
      ·rename_i h1;rw[List.getElem?_drop,show o+n+(a - (o+n))=a by omega]at ha;have hj':j<i.size:=by have:=lt_of_some hj;rwa [hrow.1 c (List.mem_of_getElem? ha)]at this
       have:o*i.size+n*i.size<=a*i.size:=by rw[<-Nat.add_mul];exact Nat.mul_le_mul_right _ (by omega)
       rw[if_neg (by omega)];obtain⟨w,hw,hR⟩:=hrow.2 a j c y ha hj;exact⟨w,hw,hRI _ _ hR⟩)
    exact⟨_,_,hrun,rfl,hput.1,hput.2,hput.2 _ _ hu0⟩
end
def keyB (P:Program) (t:TypeId) (qs:List Nat):Bool:=
 match P.underlying t with
 |some (.array n e)=>qs.length==n&&qs.length != 1&&tyB P e 1 false&&qs.all λq=>qtyB q (P.underlying e)
 |d=>(match qs with | [q]=>qtyB q d | _=>false)
section
variable {ν:Nat->Nat} {P:Program} {k:Cx} {g:Gh}
def FindR (es:List MapEntry) (i:Nat):Option (Nat×AV)->Option (Nat×Value)->Prop
 |none,r=>r=none
 |some p,r=>∃e,i<=p.1/\es[p.1 - i]?=some e/\r=some (p.1,e.val)
theorem FindR.up {es:List MapEntry} {e:MapEntry} {i:Nat} {a:Option (Nat×AV)} {r:Option (Nat×Value)} (h:FindR es (i+1) a r):FindR (e::es) i a r:=by
 cases a with
 |none=>exact h
 |some p=>
  obtain⟨e',h1,h2,h3⟩:=h;refine⟨e',by omega,?_,h3⟩;rw[show p.1 - i=(p.1 - (i+1))+1 by omega];simpa using h2
def KeysR (ν:Nat->Nat) (g:Gh) (es:List MapEntry) (kvs:List (AV×AV)):Prop:=es.length=kvs.length/\∀(j:Nat) (e:MapEntry) (p:AV×AV),es[j]?=some e->kvs[j]?=some p->RA ν g e.key p.1
theorem KeysR.cons {e:MapEntry} {es:List MapEntry} {p:AV×AV} {kvs:List (AV×AV)} (h:KeysR ν g (e::es) (p::kvs)):RA ν g e.key p.1/\KeysR ν g es kvs:=
 ⟨h.2 0 e p rfl rfl,by have:=h.1;simpa using this,λj e p h1 h2=>h.2 (j+1) e p (by simpa using h1) (by simpa using h2)⟩
end
def mapB (P:Program) (t:TypeId) (qs:List Nat):Bool:=match P.underlying t with | some (.map kt _)=>keyB P kt qs | _=>false
theorem mapB_spec {P:Program} {t:TypeId} {qs:List Nat} (h:mapB P t qs=true):∃kt et,P.underlying t=some (.map kt et)/\keyB P kt qs=true:=by
 unfold mapB at h;split at h
 ·exact⟨_,_,by assumption,h⟩
 ·cases h
section
variable {ν:Nat->Nat} {P:Program} {k:Cx} {g:Gh}
end
def cOpd (ν:Nat->Nat):Operand->Opd->Bool
 |.tmp t,.t n=>t==n
 |.const v,.c x=>cVal v x
 |.func f,.c (.fn h [])=>f==ν h
 |_,_=>false
def cOpds (ν:Nat->Nat):List Operand->List Opd->Bool
 |[],[]=>true
 |x::xs,y::ys=>cOpd ν x y&&cOpds ν xs ys
 |_,_=>false
def cOpt (ν:Nat->Nat):Option Operand->Option Opd->Bool
 |none,none=>true
 |some x,some y=>cOpd ν x y
 |_,_=>false
def cParts (ν:Nat->Nat):List (Nat×Operand)->List (Nat×Opd)->Bool
 |[],[]=>true
 |x::xs,y::ys=>x.1==y.1&&cOpd ν x.2 y.2&&cParts ν xs ys
 |_,_=>false
def placesOf (P:Program) (t:TypeId):Option (Nat->Option (Nat×Nat)):=
 match P.underlying t with
 |some (.array _ e)=>(P.info? e).map λie=>λi=>some (i*ie.size,ie.size)
 |some (.struct fields)=>(fields.toList.mapM (λf=>(P.info? f.type).map λi=>(f.offset,i.size))).map λplaces=>(places.toArray[·]?)
 |_=>none
def cPlaced (ν:Nat->Nat) (pl:Nat->Option (Nat×Nat)):List (Nat×Operand)->List (Nat×Nat×Opd)->Bool
 |[],[]=>true
 |x::xs,y::ys=>pl x.1==some (y.1,y.2.1)&&cOpd ν x.2 y.2.2&&cPlaced ν pl xs ys
 |_,_=>false
def isStr (P:Program) (t:TypeId):Bool:=match P.underlying t with | some .string=>true | _=>false
theorem isStr_spec {P:Program} {t:TypeId} (h:isStr P t=true):P.underlying t=some .string:=by
 unfold isStr at h;split at h<;>first | assumption | cases h
def bytesB (P:Program) (t:TypeId):Bool:=match P.underlying t with | some (.slice e)=>(match P.underlying e with | some (.int .u8)=>true | _=>false) | _=>false
def cOp (P:Program) (ν:Nat->Nat) (op:Op) (io:IOp):Bool:=
 match io with
 |.mov y=>(match op with | .move x | .assign x=>cOpd ν x y | _=>false)
 |.nil0 _=>(match op with | .move (.const (.slice none 0 0)) | .assign (.const (.slice none 0 0))=>true | _=>false)
 |.pick c' a' b'=>(match op with | .pick c a b=>cOpd ν c c'&&cOpd ν a a'&&cOpd ν b b' | _=>false)
 |.alloc z=>(match op with | .alloc t=>zeroB P t z | _=>false)
 |.box y=>(match op with | .box _ x=>cOpd ν x y | _=>false)
 |.build z qs=>(match op with | .build t ps=>zeroB P t z&&(match placesOf P t with | some pl=>cPlaced ν pl ps.toList qs | none=>false) | _=>false)
 |.bsl e z n' qs=>(match op with | .buildSlice t n ps=>n==n'&&bslB P t n e z&&cParts ν ps.toList qs | _=>false)
 |.load agg sz a'=>(match op with | .load t a=>tyB P t sz agg&&cOpd ν a a' | _=>false)
 |.store sz a' x'=>(match op with | .store t a x=>sizeB P t sz&&cOpd ν a a'&&cOpd ν x x' | _=>false)
 |.fadr off x'=>(match op with | .fieldAddr s x f=>fadrB P s f off&&cOpd ν x x' | _=>false)
 |.fld _ _ _ _=>false
 |.iarr len e x' i'=>(match op with | .indexAddr t x i=>iarrB P t len e&&cOpd ν x x'&&cOpd ν i i' | _=>false)
 |.isl e x' i'=>(match op with | .indexAddr t x i=>sliceB P t e&&cOpd ν x x'&&cOpd ν i i' | _=>false)
 |.xarr agg len e x' i'=>(match op with | .index t x i=>xarrB P t agg len e&&cOpd ν x x'&&cOpd ν i i' | _=>false)
 |.xstr x' i'=>(match op with | .index t x i=>isStr P t&&cOpd ν x x'&&cOpd ν i i' | _=>false)
 |.bin bo q x' y'=>(match op with | .binOp b t x y _=>b==bo&&qOf P b t q&&cOpd ν x x'&&cOpd ν y y' | _=>false)
 |.eqc neg qs x' y'=>(match op with | .binOp b t x y _=>b==(if neg then .neq else .eql)&&eqcB P t qs&&cOpd ν x x'&&cOpd ν y y' | _=>false)
 |.un uo x'=>(match op with | .unOp u _ x=>u==uo&&cOpd ν x x' | _=>false)
 |.cvi kk x'=>(match op with | .convert s d x=>cviB P s d kk&&cOpd ν x x' | _=>false)
 |.cvs _=>false
 |.slc e x' lo' hi'=>(match op with | .slice t x lo hi none=>sliceB P t e&&cOpd ν x x'&&cOpt ν lo lo'&&cOpt ν hi hi' | _=>false)
 |.slcs _ _ _=>false
 |.slz _ _=>false
 |.clr e z x'=>(match op with | .call { callee:=.builtin .clear,args,argTypes }=>(match args.toList,argTypes.toList with | [x],[t]=>clrB P t e z&&cOpd ν x x' | _,_=>false) | _=>false)
 |.len str x'=>(match op with | .call { callee:=.builtin .len,args,argTypes }=>(match args.toList,argTypes.toList with | [x],[t]=>lenB P t str&&cOpd ν x x' | _,_=>false) | _=>false)
 |.app e x' y'=>(match op with | .call { callee:=.builtin .append,args,argTypes }=>(match args.toList,argTypes.toList with | [x,y],[t,u]=>appB P t u e&&cOpd ν x x'&&cOpd ν y y' | _,_=>false) | _=>false)
 |.mn x' ys=>(match op with | .call { callee:=.builtin .min,args,.. }=>cOpds ν args.toList (x'::ys) | _=>false)
 |.mx x' ys=>(match op with | .call { callee:=.builtin .max,args,.. }=>cOpds ν args.toList (x'::ys) | _=>false)
 |.ext x' i'=>(match op with | .extract x i=>i==i'&&cOpd ν x x' | _=>false)
 |.nchk x'=>(match op with | .nilCheck x=>cOpd ν x x' | _=>false)
 |.mkf f' caps'=>(match op with | .makeFunc (.func f) first caps=>f==ν f'&&first.isEmpty&&cOpds ν caps.toList caps' | _=>false)
 |.call _ f' args'=>(match op with | .call { callee:=.value f,args,.. }=>cOpd ν f f'&&cOpds ν args.toList args' | _=>false)
 |.cvb x'=>(match op with | .convert s d x=>bytesB P s&&isStr P d&&cOpd ν x x' | _=>false)
 |.mmk=>false
 |.mget _ _ _ _ _ _=>false
 |.mput _ _ _ _=>false
 |.mdel _ _ _=>false
 |.mlen _=>false
def FrR (ν:Nat->Nat) (g:Gh) (tmps:Array Value) (fr:Fr):Prop:=∀(t:Nat) (x:AV),get fr t=some x->∃v,tmps[t]?=some v/\RA ν g v x
theorem FrR.mono {ν:Nat->Nat} {g g':Gh} {tmps:Array Value} {fr:Fr} (h:FrR ν g tmps fr) (hm:Mono ν g g'):FrR ν g' tmps fr:=
 λt x ht=>let⟨v,h1,h2⟩:=h t x ht;⟨v,h1,hm _ _ h2⟩
section
variable {ν:Nat->Nat} {P:Program} {k:Cx} {g:Gh}
theorem eval_ok {a:Act} {fr:Fr} (hf:FrR ν g a.tmps fr) {x:Operand} {y:Opd} (h:cOpd ν x y=true):RA ν g (a.eval x) (ev fr y):=by
 unfold cOpd at h;split at h
 ·rename_i t n;have:=beq_iff_eq.1 h;subst this;simp only[ev];cases hg:get fr t with
  |none=>exact .undef _
  |some z=>
   obtain⟨v,hv,hR⟩:=hf t z hg;have:a.eval (.tmp t)=v:=by simp[Act.eval,Array.getD,(Array.getElem?_eq_some_iff.1 hv).1,(Array.getElem?_eq_some_iff.1 hv).2]
   rw[this];exact hR
 ·rename_i v x;exact .iv (cVal_ok h _ _)
 ·rename_i f h';have:=beq_iff_eq.1 h;subst this;exact .iv (.fn h' #[] [] rfl λj v x h=>by simp at h)
 ·cases h
theorem evals_ok {a:Act} {fr:Fr} (hf:FrR ν g a.tmps fr):∀{xs:List Operand} {ys:List Opd},cOpds ν xs ys=true->
  (xs.map a.eval).length=(ys.map (ev fr)).length/\∀(j:Nat) (v:Value) (x:AV),(xs.map a.eval)[j]?=some v->(ys.map (ev fr))[j]?=some x->RA ν g v x
 |[],[],_=>⟨rfl,λj v x h=>by simp at h⟩
 |x::xs,y::ys,h=>by
  simp only[cOpds,Bool.and_eq_true]at h;obtain⟨h1,h2⟩:=evals_ok hf h.2;refine⟨by simpa using h1,λj v z hv hz=>?_⟩;cases j with
  |zero=>simp at hv hz;subst hv hz;exact eval_ok hf h.1
  |succ j=>exact h2 j v z (by simpa using hv) (by simpa using hz)
 |[],_::_,h=>by simp[cOpds]at h
 |_::_,[],h=>by simp[cOpds]at h
theorem evalo_ok {a:Act} {fr:Fr} (hf:FrR ν g a.tmps fr) {x:Option Operand} {y:Option Opd} (h:cOpt ν x y=true):RO ν g (x.map a.eval) (y.map (ev fr)):=by
 cases x<;>cases y<;>simp[cOpt]at h
 ·trivial
 ·exact eval_ok hf h
theorem fill_placed {a:Act} {fr:Fr} (hf:FrR ν g a.tmps fr) {pl:Nat->Option (Nat×Nat)}:∀(ps:List (Nat×Operand)) (qs:List (Nat×Nat×Opd)) (cells:Array Value) (cs:List AV) (n:Nat) (l:List (Nat×List AV)) (h h':Hp),
  cPlaced ν pl ps qs=true->RC ν g cells cs->cs.length=n->
  (M.mapL (λp:Nat×Nat×Opd=>(cellsM (ev fr p.2.2)).bind λl=>(M.ok (l.length==p.2.1&&Nat.ble (p.1+p.2.1) n)).bind λ_=>M.ret (p.1,l)) qs).run h=some (l,h')->
  h'=h/\∃cells',Instr.fill pl cells (ps.map λp=>(p.1,a.eval p.2))=some cells'/\RC ν g cells' (putAll cs l):=by
 intro ps
 induction ps with
 |nil=>
  intro qs cells cs n l h h' hc hr _ e;cases qs with
  |cons=>simp[cPlaced]at hc
  |nil=>
   obtain⟨rfl,rfl⟩:=MmapL_nilZ e;exact⟨rfl,cells,rfl,hr⟩
 |cons p ps ih=>
  intro qs cells cs n l h h' hc hr hn e;cases qs with
  |nil=>simp[cPlaced]at hc
  |cons q qs=>
   simp only[cPlaced,Bool.and_eq_true,beq_iff_eq]at hc;obtain⟨⟨hpl,hq⟩,hrest⟩:=hc;obtain⟨y,h1,zs,e1,e2,rfl⟩:=MmapL_consZ e;obtain⟨xs,h2,e3,e4⟩:=Mbind_someZ e1;obtain⟨rfl,hs,hcc⟩:=cells_run e3 (eval_ok hf hq);obtain⟨hok,e6⟩:=M.ok_bind e4;obtain⟨rfl,rfl⟩:=Mret_someZ e6;simp only[Bool.and_eq_true,beq_iff_eq,Nat.ble_eq]at hok;have hfit:q.1+xs.length<=cs.length:=by omega
   have hsp:=hr.splice (us:=(a.eval p.2).cells) (l:=xs) (o:=q.1) ⟨hs,hcc⟩ hfit;obtain⟨rfl,c',hfill,hR⟩:=ih qs _ _ n zs h1 h' hrest hsp (by rw[splice_length _ _ _ hfit];exact hn) e2;refine⟨rfl,c',?_,hR⟩;rw[<-hfill];simp only[List.map_cons,Instr.fill,hpl];have hfit':¬(((a.eval p.2).cells.size≠q.2.1||q.1+(a.eval p.2).cells.size > cells.size)=true):=by
    have:=hr.1;simp;omega
   rw[if_neg hfit',<-Array.foldl_toList,Array.toList_zipIdx]
theorem built_ok {t:TypeId} {pl:Nat->Option (Nat×Nat)} (hp:placesOf P t=some pl) {parts:List (Nat×Value)} {zs:Array Value} {i:TypeInfo} {v:Value}
  (hi:P.info? t=some i) (hv:i.zero=some v) (hzs:zs=v.cells):P.built t parts=Instr.fill pl zs parts:=by
 subst hzs;unfold placesOf at hp;unfold Program.built;split at hp
 ·rename_i n e hu;simp only[Option.map_eq_some_iff]at hp;obtain⟨ie,hie,rfl⟩:=hp;simp[hi,hu,hv,hie]
 ·rename_i fields hu;simp only[Option.map_eq_some_iff]at hp;obtain⟨places,hpl,rfl⟩:=hp;simp[hi,hu,hv,hpl]
 ·cases hp
theorem build_ok (r:Rel ν k g) {a:Act} {fr:Fr} (hf:FrR ν g a.tmps fr) {t:TypeId} {z:List IV} {ps:Array (Nat×Operand)} {qs:List (Nat×Nat×Opd)} {pl:Nat->Option (Nat×Nat)}
  (hz:zeroB P t z=true) (hp:placesOf P t=some pl) (hc:cPlaced ν pl ps.toList qs=true) {y:AV} {h':Hp}
  (e:((M.mapL (λp:Nat×Nat×Opd=>(cellsM (ev fr p.2.2)).bind λl=>(M.ok (l.length==p.2.1&&Nat.ble (p.1+p.2.1) z.length)).bind λ_=>M.ret (p.1,l)) qs).bind λl=>M.ret (.agg (putAll (z.map .iv) l))).run g.h=some (y,h')) :
  Done ν k g h' y ((Instr.build t (ps.map fun(i,x)=>(i,a.eval x))).run P g.w):=by
 obtain⟨l,h1,e1,e2⟩:=Mbind_someZ e;obtain⟨rfl,rfl⟩:=Mret_someZ e2;obtain⟨i,v,hi,hzv,hcv⟩:=zeroB_spec hz;have hrc:=cVals_RC (ν:=ν) (g:=g) hcv;obtain⟨rfl,cells',hfill,hR⟩:=fill_placed hf ps.toList qs v.cells (z.map .iv) z.length l _ _ hc hrc (by simp) e1;refine .same r (run_build g.w t _ cells' ?_) hR.agg;rw[built_ok hp hi hzv rfl];simpa using hfill
theorem bytesOf_at:∀{ys:List (List IV)} {b:List Int},bytesOf ys=some b->b.length=ys.length/\∀i,i<ys.length->ys[i]?=some [.int .u8 (b.getD i 0)]
 |[],b,h=>by simp[bytesOf]at h;subst h;exact⟨rfl,λi hi=>absurd hi (Nat.not_lt_zero _)⟩
 |y::ys,b,h=>by
  unfold bytesOf at h;split at h
  ·rename_i heq;cases heq
  ·rename_i n r heq;cases heq;simp only[Option.map_eq_some_iff]at h;obtain⟨b',hb,rfl⟩:=h;obtain⟨h1,h2⟩:=bytesOf_at hb;refine⟨by simp[h1],λi hi=>?_⟩;cases i with
   |zero=>rfl
   |succ i=>simpa using h2 i (by simpa using hi)
  ·cases h
theorem bytesB_spec {P:Program} {t:TypeId} (h:bytesB P t=true):∃e,P.underlying t=some (.slice e)/\P.underlying e=some (.int .u8):=by
 unfold bytesB at h;split at h
 ·split at h
  ·exact⟨_,by assumption,by assumption⟩
  ·cases h
 ·cases h
theorem cvb_ok (r:Rel ν k g) {s d:TypeId} (hs:bytesB P s=true) (hd:isStr P d=true) {v:Value} {x y:AV} {h':Hp} (hv:RA ν g v x)
  (e:((elems 1 x).bind λys=>(M.lift (bytesOf ys)).bind λb=>M.ret (.iv (.str (strB b)))).run g.h=some (y,h')):Done ν k g h' y ((convert s d v).run P g.w):=by
 obtain⟨ys,h1,e1,e2⟩:=Mbind_someZ e;obtain⟨rfl,news,⟨a,c,hva,hlie⟩,hlen,hrows, -,hat⟩:=elems_ok r e1 hv;obtain⟨b,hb,e4⟩:=M.lift_bind e2;obtain⟨rfl,rfl⟩:=Mret_someZ e4;obtain⟨hbl,hbat⟩:=bytesOf_at hb;obtain⟨el,hs1,hs2⟩:=bytesB_spec hs;have hd':=isStr_spec hd;subst hva;refine .same r (v:=.string (strB b)) ?_ mkStr;rcases hlie with h0 | ⟨blk,off,rfl,hcells⟩
 ·have:b=[]:=List.eq_nil_of_length_eq_zero (by omega);subst this;rw[h0];cases a with
  |none=>rw[run_convert_bytes_nil g.w s el hs1 hs2 0 c d hd'];rfl
  |some a=>
   rw[run_convert_bytes_string g.w s d el _ 0 c hs1 hs2 hd',run_bytesToString g.w a 0 c [] (by simp[loadCells,loadCellsFrom])];rfl
 ·refine run_convert_bytes_arg g.w s el hs1 hs2 blk off ys.length c b hbl (λi hi=>?_) d hd';obtain⟨u,hu,hR⟩:=hat i 0 _ _ (hbat i hi) rfl;have:=hcells (i*1+0) u hu;rw[Nat.mul_one,Nat.add_zero]at this;rw[this];cases hR;rfl
end
def RC0 (ν:Nat->Nat) (I:Nat->Prop) (w:World) (v:Value) (x:AV):Prop:=RA ν ⟨I,λ_=>none,w,[]⟩ v x
theorem RC0.up {ν:Nat->Nat} {I:Nat->Prop} {w:World} {v:Value} {x:AV} (h:RC0 ν I w v x) {g:Gh} (hR:∀v x,RI ν I w v x->RI ν g.I g.w v x):RA ν g v x:=
 RA.mono (g:=⟨I,λ_=>none,w,[]⟩) hR (λv id o n ver ho=>by simp[OwnAt,get]at ho) (λv id ver i j hr=>by simp[RefAt,get]at hr) h
theorem RC0.mono {ν:Nat->Nat} {I J:Nat->Prop} {w w':World} {v:Value} {x:AV} (h:RC0 ν I w v x) (hR:∀v x,RI ν I w v x->RI ν J w' v x):RC0 ν J w' v x:=h.up hR
theorem fzC_list {w:Bool}:∀(cs:List AV) (h h':Hp) (l:List AV),(M.mapL (fzC w) cs).run h=some (l,h')->∃xs,(M.mapL (fz w 8) cs).run h=some (xs,h')/\l=xs.map .iv:=by
 intro cs
 induction cs with
 |nil=>
  intro h h' l e;obtain⟨rfl,rfl⟩:=MmapL_nilZ e;exact⟨[],rfl,rfl⟩
 |cons c cs ih=>
  intro h h' l e;obtain⟨y,h1,zs,e1,e2,rfl⟩:=MmapL_consZ e;obtain⟨x,h2,e3,e4⟩:=Mbind_someZ e1;obtain⟨rfl,rfl⟩:=Mret_someZ e4;obtain⟨xs,e5,rfl⟩:=ih _ _ _ e2;refine⟨x::xs,?_,rfl⟩;simp only[M.mapL,Mrun_bindZ,e3,e5,M.run]
theorem agg_plain {ν:Nat->Nat} {I:Nat->Prop} {w:World} {vs:Array Value} {xs:List IV} (hn:vs.size=xs.length) (hr:∀(j:Nat) (v:Value) (x:IV),vs[j]?=some v->xs[j]?=some x->RI ν I w v x) :
  RC0 ν I w (.agg vs) (.agg (xs.map .iv)):=by
 refine .agg (by simpa using hn) (λj v hv=>?_) λj v c hv hc=>?_
 ·have hj:=(Array.getElem?_eq_some_iff.1 hv).1;exact(hr j v _ hv (List.getElem?_eq_getElem (by omega))).one
 ·simp only[List.getElem?_map,Option.map_eq_some_iff]at hc;obtain⟨x,hx,rfl⟩:=hc;exact .iv (hr j v x hv hx)
section
variable {ν:Nat->Nat} {P:Program} {k:Cx} {g:Gh}
theorem fz1T (r:Rel ν k g) {a y:AV} {h':Hp} (e:(fz1 true a).run g.h=some (y,h')) {v:Value} (hv:RA ν g v a):∃I',Froze ν k g h' I'/\RC0 ν I' g.w v y:=by
 have plain:∀{a:AV},(fzC true a).run g.h=some (y,h')->RA ν g v a->∃I',Froze ν k g h' I'/\RC0 ν I' g.w v y:=by
  intro a e hv;obtain⟨x,h1,e1,e2⟩:=Mbind_someZ e;obtain⟨rfl,rfl⟩:=Mret_someZ e2;obtain⟨I',f,hR⟩:=fzT_spec ν 8 k g a x _ e1 r v hv;exact⟨I',f,.iv hR⟩
 cases a with
 |agg cs=>
  obtain⟨l,h1,e1,e2⟩:=Mbind_someZ e;obtain⟨rfl,rfl⟩:=Mret_someZ e2;obtain⟨xs,e3,rfl⟩:=fzC_list cs _ _ _ e1;obtain⟨vs,rfl⟩:=hv.aggv;obtain⟨V,hV⟩:=pick λj c hc=>hv.agg_get j c hc
  obtain⟨I',f,hl,hx⟩:=(fzT_spec ν 8).list cs k g xs _ e3 r V λj c hc=>(hV j c hc).2
  refine⟨I',f,agg_plain ?_ λj v x h1 h2=>?_⟩
  ·cases hv with
   |agg hn _ _=>omega
  ·have hlt:=lt_of_some h2;have:=(hV j _ (List.getElem?_eq_getElem (show j<cs.length by omega))).1;rw[h1]at this;cases this;exact hx j x h2
 |undef=>exact plain e hv
 |iv x=>exact plain e hv
 |tup vs=>exact plain e hv
 |own id o n v=>exact plain e hv
 |ref id v i j=>exact plain e hv
 |clo f caps=>exact plain e hv
theorem fz1F (r:Rel ν k g) {a y:AV} {h':Hp} (e:(fz1 false a).run g.h=some (y,h')) {v:Value} (hv:RA ν g v a) :
  h'=g.h/\∀J:Nat->Prop,(∀b,g.I b->J b)->(∀id o b,get g.h id=some o->g.φ id=some b->J b)->RC0 ν J g.w v y:=by
 have plain:∀{a:AV},(fzC false a).run g.h=some (y,h')->RA ν g v a->h'=g.h/\∀J:Nat->Prop,(∀b,g.I b->J b)->(∀id o b,get g.h id=some o->g.φ id=some b->J b)->RC0 ν J g.w v y:=by
  intro a e hv;obtain⟨x,h1,e1,e2⟩:=Mbind_someZ e;obtain⟨rfl,rfl⟩:=Mret_someZ e2;obtain⟨rfl,hR⟩:=fzF_spec ν 8 k g a x _ e1 r v hv;exact⟨rfl,λJ h1 h2=>.iv (hR J h1 h2)⟩
 cases a with
 |agg cs=>
  obtain⟨l,h1,e1,e2⟩:=Mbind_someZ e;obtain⟨rfl,rfl⟩:=Mret_someZ e2;obtain⟨xs,e3,rfl⟩:=fzC_list cs _ _ _ e1;obtain⟨vs,rfl⟩:=hv.aggv;obtain⟨V,hV⟩:=pick λj c hc=>hv.agg_get j c hc
  obtain⟨rfl,hl,hx⟩:=(fzF_spec ν 8).list k g r cs xs _ e3 V λj c hc=>(hV j c hc).2
  refine⟨rfl,λJ h1 h2=>agg_plain ?_ λj v x h3 h4=>?_⟩
  ·cases hv with
   |agg hn _ _=>omega
  ·have hlt:=lt_of_some h4;have:=(hV j _ (List.getElem?_eq_getElem (show j<cs.length by omega))).1;rw[h3]at this;cases this;exact hx J h1 h2 j x h4
 |undef=>exact plain e hv
 |iv x=>exact plain e hv
 |tup vs=>exact plain e hv
 |own id o n v=>exact plain e hv
 |ref id v i j=>exact plain e hv
 |clo f caps=>exact plain e hv
def RL (ν:Nat->Nat) (g:Gh) (vs:List Value) (xs:List AV):Prop:=vs.length=xs.length/\∀(j:Nat) (v:Value) (x:AV),vs[j]?=some v->xs[j]?=some x->RA ν g v x
theorem RL.nil:RL ν g [] []:=⟨rfl,λj v x h=>by simp at h⟩
theorem RL.cons {v:Value} {x:AV} {vs:List Value} {xs:List AV} (h:RA ν g v x) (hl:RL ν g vs xs):RL ν g (v::vs) (x::xs):=
 ⟨by simp[hl.1],λj v' x' h1 h2=>by
  cases j with
  |zero=>simp at h1 h2;subst h1 h2;exact h
  |succ j=>exact hl.2 j v' x' (by simpa using h1) (by simpa using h2)⟩
theorem RL.tail {v:Value} {x:AV} {vs:List Value} {xs:List AV} (h:RL ν g (v::vs) (x::xs)):RA ν g v x/\RL ν g vs xs:=
 ⟨h.2 0 v x rfl rfl,by have:=h.1;simpa using this,λj v' x' h1 h2=>h.2 (j+1) v' x' (by simpa using h1) (by simpa using h2)⟩
theorem RL.mono {g':Gh} {vs:List Value} {xs:List AV} (h:RL ν g vs xs) (hm:∀v x,RA ν g v x->RA ν g' v x):RL ν g' vs xs:=⟨h.1,λj v x h1 h2=>hm _ _ (h.2 j v x h1 h2)⟩
theorem RL.append {vs us:List Value} {xs ys:List AV} (h:RL ν g vs xs) (h':RL ν g us ys):RL ν g (vs++us) (xs++ys):=
 ⟨by simp[h.1,h'.1],λj v x h1 h2=>by
  rw[List.getElem?_append]at h1 h2;rw[<-h.1]at h2;split at h1
  ·rename_i hj;rw[if_pos hj]at h2;exact h.2 j v x h1 h2
  ·rename_i hj;rw[if_neg hj]at h2;exact h'.2 _ v x h1 h2⟩
theorem fz1T_list:∀(U:List AV) (k:Cx) (g:Gh) (ys:List AV) (h':Hp),(M.mapL (fz1 true) U).run g.h=some (ys,h')->Rel ν k g->∀vs:List Value,RL ν g vs U->
  ∃I',Froze ν k g h' I'/\RL ν ⟨I',λ_=>none,g.w,[]⟩ vs ys:=by
 intro U
 induction U with
 |nil=>
  intro k g ys h' e r vs hv;obtain⟨rfl,rfl⟩:=MmapL_nilZ e;have:vs=[]:=List.eq_nil_of_length_eq_zero hv.1;subst this;exact⟨g.I,.refl r,.nil⟩
 |cons a U ih=>
  intro k g ys h' e r vs hv;cases vs with
  |nil=>have:=hv.1;simp at this
  |cons v vs=>
   obtain⟨y,h1,zs,e1,e2,rfl⟩:=MmapL_consZ e;obtain⟨I1,f1,hR⟩:=fz1T r e1 hv.tail.1;obtain⟨I2,f2,hRL⟩:=ih k _ zs h' e2 f1.rel vs (hv.tail.2.mono f1.mono);exact⟨I2,f1.trans f2,.cons (hR.mono λv x h=>h.mono f2.sub λ_ _ _ _ h=>h) hRL⟩
theorem fz1F_list (r:Rel ν k g):∀(U:List AV) (ys:List AV) (h':Hp),(M.mapL (fz1 false) U).run g.h=some (ys,h')->∀vs:List Value,RL ν g vs U->
  h'=g.h/\∀J:Nat->Prop,(∀b,g.I b->J b)->(∀id o b,get g.h id=some o->g.φ id=some b->J b)->RL ν ⟨J,λ_=>none,g.w,[]⟩ vs ys:=by
 intro U
 induction U with
 |nil=>
  intro ys h' e vs hv;obtain⟨rfl,rfl⟩:=MmapL_nilZ e;have:vs=[]:=List.eq_nil_of_length_eq_zero hv.1;subst this;exact⟨rfl,λ_ _ _=>.nil⟩
 |cons a U ih=>
  intro ys h' e vs hv;cases vs with
  |nil=>have:=hv.1;simp at this
  |cons v vs=>
   obtain⟨y,h1,zs,e1,e2,rfl⟩:=MmapL_consZ e;obtain⟨rfl,hR⟩:=fz1F r e1 hv.tail.1;obtain⟨rfl,hRL⟩:=ih zs h' e2 vs hv.tail.2;exact⟨rfl,λJ h1 h2=>.cons (hR J h1 h2) (hRL J h1 h2)⟩
theorem flatI_any {x:IV} (hx:flatI x=true) {v:Value} {I J:Nat->Prop} {w w':World} (h:RI ν I w v x):RI ν J w' v x:=by
 cases h with
 |bool b=>exact .bool b
 |int kk n=>exact .int kk n
 |str s=>exact .str s
 |nilp=>exact .nilp
 |_=>simp[flatI]at hx
theorem flat0_any {x:AV} (hx:flat0 x=true) {v:Value} {g':Gh} (h:RA ν g v x):RA ν g' v x:=by
 cases h with
 |iv h=>exact .iv (flatI_any hx h)
 |_=>simp[flat0]at hx
theorem flat1_any {x:AV} (hx:flat1 x=true) {v:Value} {g':Gh} (h:RA ν g v x):RA ν g' v x:=by
 cases h with
 |agg hn h1 hr=>
  simp only[flat1,List.all_eq_true]at hx;exact .agg hn h1 λj v c hv hc=>flat0_any (hx c (List.mem_of_getElem? hc)) (hr j v c hv hc)
 |iv h=>exact flat0_any (by simpa[flat1]using hx) (.iv h)
 |_=>simp[flat1,flat0]at hx
theorem flat_any {x:AV} (hx:flat x=true) {v:Value} {g':Gh} (h:RA ν g v x):RA ν g' v x:=by
 cases h with
 |tup hn hr=>
  simp only[flat,List.all_eq_true]at hx;exact .tup hn λj v c hv hc=>flat1_any (hx c (List.mem_of_getElem? hc)) (hr j v c hv hc)
 |agg hn h1 hr=>exact flat1_any (by simpa[flat]using hx) (.agg hn h1 hr)
 |iv h=>exact flat1_any (by simpa[flat]using hx) (.iv h)
 |_=>simp[flat,flat1,flat0]at hx
theorem fzA_list_tup:∀(vs:List AV) (k:Cx) (g:Gh) (ys:List AV) (h':Hp),(M.mapL (fz1 true) vs).run g.h=some (ys,h')->Rel ν k g->∀us:Array Value,RA ν g (.tuple us) (.tup vs)->
  ∃I',Froze ν k g h' I'/\RC0 ν I' g.w (.tuple us) (.tup ys):=by
 intro vs k g ys h' e r us hu;have hRL:RL ν g us.toList vs:=by
  cases hu with
  |tup hn hr=>exact⟨by simpa using hn,λj v x h1 h2=>hr j v x (by simpa using h1) h2⟩
 obtain⟨I',f,hR⟩:=fz1T_list vs k g ys h' e r us.toList hRL;exact⟨I',f,.tup (by have:=hR.1;simpa using this) λj v c h1 h2=>hR.2 j v c (by simpa using h1) h2⟩
theorem shut_ok (r:Rel ν k g) {p y:AV} (e:shut (p,g.h)=some y) {v:Value} (hv:RA ν g v p):∃I' h',Froze ν k g h' I'/\RC0 ν I' g.w v y:=by
 unfold shut at e;simp only[Option.map_eq_some_iff]at e;obtain⟨⟨y',h'⟩,e,rfl⟩:=e;cases p with
 |tup vs=>
  obtain⟨l,h1,e1,e2⟩:=Mbind_someZ e;obtain⟨rfl,rfl⟩:=Mret_someZ e2;obtain⟨us,rfl⟩:∃us,v = .tuple us:=by cases hv;exact⟨_,rfl⟩
  obtain⟨I',f,hR⟩:=fzA_list_tup vs k g l _ e1 r us hv;exact⟨I',_,f,hR⟩
 |undef=>obtain⟨I',f',hR⟩:=fz1T (a:=.undef) r e hv;exact⟨I',_,f',hR⟩
 |iv x=>obtain⟨I',f',hR⟩:=fz1T (a:=(.iv x)) r e hv;exact⟨I',_,f',hR⟩
 |agg cs=>obtain⟨I',f',hR⟩:=fz1T (a:=(.agg cs)) r e hv;exact⟨I',_,f',hR⟩
 |own id o n v=>obtain⟨I',f',hR⟩:=fz1T (a:=(.own id o n v)) r e hv;exact⟨I',_,f',hR⟩
 |ref id v i j=>obtain⟨I',f',hR⟩:=fz1T (a:=(.ref id v i j)) r e hv;exact⟨I',_,f',hR⟩
 |clo f caps=>obtain⟨I',f',hR⟩:=fz1T (a:=(.clo f caps)) r e hv;exact⟨I',_,f',hR⟩
structure MonoL (g g':Gh):Prop where
 own:∀v id o n ver,id<1000->v.oneCell'=true->OwnAt g v id o n ver->OwnAt g' v id o n ver
 ref:∀v id ver i j,id<1000->v.oneCell'=true->RefAt g v id ver i j->RefAt g' v id ver i j
theorem MonoL.refl (g:Gh):MonoL g g:=⟨λ_ _ _ _ _ _ _ h=>h,λ_ _ _ _ _ _ _ h=>h⟩
theorem MonoL.trans {a b c:Gh} (h:MonoL a b) (h':MonoL b c):MonoL a c:=⟨λ_ _ _ _ _ hi h1 x=>h'.own _ _ _ _ _ hi h1 (h.own _ _ _ _ _ hi h1 x),λ_ _ _ _ _ hi h1 x=>h'.ref _ _ _ _ _ hi h1 (h.ref _ _ _ _ _ hi h1 x)⟩
theorem Mono.low {g g':Gh} (h:Mono ν g g'):MonoL g g':=
 ⟨λv id o n ver _ h1 x=>by cases h v _ (.own h1 x)with | own _ y=>exact y,λv id ver i j _ h1 x=>by cases h v _ (.ref h1 x)with | ref _ y=>exact y⟩
theorem RA.mono1 {g g':Gh} (hI:∀v x,RI ν g.I g.w v x->RI ν g'.I g'.w v x) (ho:∀v id o n ver,v.oneCell'=true->OwnAt g v id o n ver->OwnAt g' v id o n ver)
  (hr:∀v id ver i j,v.oneCell'=true->RefAt g v id ver i j->RefAt g' v id ver i j) {v:Value} {x:AV} (h:RA ν g v x):RA ν g' v x:=by
 induction h with
 |undef v=>exact .undef v
 |iv h=>exact .iv (hI _ _ h)
 |agg hn h1 _ ih=>exact .agg hn h1 ih
 |tup hn _ ih=>exact .tup hn ih
 |own h1 h=>exact .own h1 (ho _ _ _ _ _ h1 h)
 |ref h1 h=>exact .ref h1 (hr _ _ _ _ _ h1 h)
 |clo hn _ ih=>exact .clo hn ih
def CallOK (ν:Nat->Nat) (P:Program) (f:Nat) (args:List AV) (hp:Hp) (r:AV) (hp':Hp):Prop:=
 ∀(k0:Cx) (g0:Gh) (cargs:Array Value),g0.h=hp->k0.w=g0.w->k0.I=g0.I->Rel ν k0 g0->RL ν g0 cargs.toList args->
  Calls P (ν f) cargs g0.w λe w'=>∃v g',e = .returned v/\g'.w=w'/\g'.h=hp'/\Rel ν k0 g'/\MonoL g0 g'/\RA ν g' v r
def CallSound (ν:Nat->Nat) (P:Program) (call:Nat->List AV->Hp->Option (AV×Hp)):Prop:=
 ∀f args hp r hp',call f args hp=some (r,hp')->(∃fn,P.funcs[ν f]?=some fn/\fn.body.isSome=true/\(fn.name=="runtime.NumGoroutine")=false)/\CallOK ν P f args hp r hp'
theorem callee_ok {x:AV} {q:Nat×List AV} (e:callee x=some q) {v:Value} (hv:RA ν g v x):∃caps,v = .func (.func (ν q.1)) #[] caps/\RL ν g caps.toList q.2:=by
 unfold callee at e;split at e
 ·cases e;cases hv with
  |iv h=>
   cases h with
   |fn f caps cs hn hr=>
    refine⟨caps,rfl,by simpa using hn,λj v x h1 h2=>?_⟩;simp only[List.getElem?_map,Option.map_eq_some_iff]at h2;obtain⟨y,hy,rfl⟩:=h2;exact .iv (hr j v y (by simpa using h1) hy)
 ·cases e;cases hv with
  |clo hn hr=>exact⟨_,rfl,by simpa using hn,λj v x h1 h2=>hr j v x (by simpa using h1) h2⟩
 ·cases e
theorem enter_run {ρ:Operand->Value} {o:Oper} {fo:Operand} {cargs:Array Operand} {tys:Array TypeId} (ho:o.op = .call { callee:=.value fo,args:=cargs,argTypes:=tys }) {f:Nat} {caps:Array Value}
  (hf:ρ fo = .func (.func (ν f)) #[] caps) {fn:Func} (hfn:P.funcs[ν f]?=some fn) (hb:fn.body.isSome=true) (hn:(fn.name=="runtime.NumGoroutine")=false) (w:World) :
  (execOp ρ o).run P w = .ok (.enter (ν f) (cargs.map ρ++caps)) w:=by
 have hb':¬fn.body=none:=λh=>by rw[h]at hb;cases hb
 have hn':¬fn.name="runtime.NumGoroutine":=by simpa using hn
 simp[execOp,ho,resolve,hf,Deferred.ofValue,invoke,callFunc,hfn,hb',hn']
def CallDone (ν:Nat->Nat) (P:Program) (k:Cx) (g:Gh) (h':Hp) (y:AV) (fv:Value) (cargs:Array Value):Prop:=
 ∃q caps fn,fv = .func (.func (ν q)) #[] caps/\P.funcs[ν q]?=some fn/\fn.body.isSome=true/\(fn.name=="runtime.NumGoroutine")=false/\
  Calls P (ν q) (cargs++caps) g.w λe w'=>∃v g',e = .returned v/\g'.w=w'/\g'.h=h'/\Rel ν k g'/\Mono ν g g'/\RA ν g' v y
theorem rel_none {J:Nat->Prop} (hs:∀b,J b->b<g.w.heap.size):Rel ν ⟨g.w,J,λ_=>False⟩ ⟨J,λ_=>none,g.w,[]⟩:=
 ⟨λid o h=>by simp[get]at h,λid id' o o' b h=>by simp[get]at h,hs,λ_ h=>h,λ_ h=>.inl h,λid o b h=>by simp[get]at h,Nat.le_refl _,rfl,rfl,rfl,λ_ _ _=>rfl⟩
theorem world_next (r:Rel ν k g) {J:Nat->Prop} {g':Gh} (r':Rel ν ⟨g.w,J,λ_=>False⟩ g'):Rel ν k { g with w:=g'.w }/\Mono ν g { g with w:=g'.w }:=
 r.world (I':=g.I) (λ_ h=>h) (λ_ h=>.inl h) r'.size r'.os r'.tape r'.output λb hb=>r'.old b hb (.inl λh=>h)
theorem callM_ok {call:Nat->List AV->Hp->Option (AV×Hp)} (hs:CallSound ν P call) (r:Rel ν k g) {f y:AV} {args:List AV} {h':Hp} (e:(callM call f args).run g.h=some (y,h')) {fv:Value} {cargs:Array Value}
  (hf:RA ν g fv f) (ha:RL ν g cargs.toList args):CallDone ν P k g h' y fv cargs:=by
 obtain⟨q,hq,e2⟩:=M.lift_bind e;obtain⟨caps,rfl,hcaps⟩:=callee_ok hq hf;obtain⟨U,h2,e3,e4⟩:=Mbind_someZ e2;obtain⟨rfl,hJ⟩:=fz1F_list r _ _ _ e3 (cargs.toList++caps.toList) (ha.append hcaps);obtain⟨y',hc,e6⟩:=M.lift_bind e4;obtain⟨hfl,e8⟩:=M.ok_bind e6;obtain⟨rfl,rfl⟩:=Mret_someZ e8;obtain⟨⟨rr,hh⟩,hcall,hshut⟩:=Option.bind_eq_some_iff.1 hc;obtain⟨⟨fn,hfn,hb,hn⟩,hok⟩:=hs _ _ _ _ _ hcall;have hsm:∀b,(g.I b\/∃id o,get g.h id=some o/\g.φ id=some b)->b<g.w.heap.size:=by
  rintro b (h | ⟨id,o,ho,hφ⟩)
  ·exact r.small b h
  ·exact(r.ob id o ho).block hφ r.small
 have hRL:=hJ (λb=>g.I b\/∃id o,get g.h id=some o/\g.φ id=some b) (λ_ h=>.inl h) λid o b h1 h2=>.inr ⟨id,o,h1,h2⟩
 refine⟨q.1,caps,fn,rfl,hfn,hb,hn,(hok _ _ (cargs++caps) rfl rfl rfl (rel_none hsm) (by simpa using hRL)).mono ?_⟩;rintro e w' ⟨v,g',rfl,rfl,rfl,r', -,hR⟩;obtain⟨I',h'', -,hR'⟩:=shut_ok r' hshut hR;obtain⟨r2,m2⟩:=world_next r r';exact⟨v,{ g with w:=g'.w },rfl,rfl,rfl,r2,m2,flat_any hfl hR'⟩
theorem fcallM_ok {call:Nat->List AV->Hp->Option (AV×Hp)} (hs:CallSound ν P call) (r:Rel ν k g) {f y:AV} {args:List AV} {h':Hp} (e:(fcallM call f args).run g.h=some (y,h')) {fv:Value} {cargs:Array Value}
  (hf:RA ν g fv f) (ha:RL ν g cargs.toList args):CallDone ν P k g h' y fv cargs:=by
 obtain⟨q,hq,e2⟩:=M.lift_bind e;obtain⟨caps,rfl,hcaps⟩:=callee_ok hq hf;obtain⟨U,h2,e3,e4⟩:=Mbind_someZ e2;obtain⟨I1,f1,hRL⟩:=fz1T_list _ k g U _ e3 r (cargs.toList++caps.toList) (ha.append hcaps);obtain⟨hc,rfl⟩:=Mlift_someZ e4;obtain⟨⟨rr,hh⟩,hcall,hshut⟩:=Option.bind_eq_some_iff.1 hc;obtain⟨⟨fn,hfn,hb,hn⟩,hok⟩:=hs _ _ _ _ _ hcall;refine⟨q.1,caps,fn,rfl,hfn,hb,hn,(hok _ _ (cargs++caps) rfl rfl rfl (rel_none f1.rel.small) (by simpa using hRL)).mono ?_⟩;rintro e w' ⟨v,g',rfl,rfl,rfl,r', -,hR⟩;obtain⟨I2,h'',f2,hR'⟩:=shut_ok r' hshut hR;have hup:∀b,I2 b->I1 b\/g.w.heap.size<=b/\b<g'.w.heap.size:=by
  intro b hb;have hlt:=f2.rel.small b hb;rcases f2.rel.i1 b hb with h | h | h
  ·exact .inl h
  ·exact h.elim
  ·exact .inr ⟨h,hlt⟩
 have hw:=f1.rel.world (w':=g'.w) (I':=I2) (λb h=>f2.sub b (r'.i0 b h)) hup r'.size r'.os r'.tape r'.output λb hb=>r'.old b hb (.inl λh=>h)
 exact⟨v,⟨I2,g.φ,g'.w,_⟩,rfl,rfl,rfl,hw.1,f1.mono.trans hw.2,hR'.up λv x h=>h⟩
theorem ocallM_ok {call:Nat->List AV->Hp->Option (AV×Hp)} (hs:CallSound ν P call) (r:Rel ν k g) {slot:Nat} {f y:AV} {args:List AV} {h':Hp} (e:(ocallM call slot f args).run g.h=some (y,h')) {fv:Value} {cargs:Array Value}
  (hf:RA ν g fv f) (ha:RL ν g cargs.toList args):CallDone ν P k g h' y fv cargs:=by
 obtain⟨q,hq,e2⟩:=M.lift_bind e;obtain⟨caps,rfl,hcaps⟩:=callee_ok hq hf;obtain⟨U,h2,e3,e4⟩:=Mbind_someZ e2;obtain⟨I1,f1,hRL⟩:=fz1T_list _ k g U _ e3 r (cargs.toList++caps.toList) (ha.append hcaps);obtain⟨⟨rr,hh⟩,h3,e5,e6⟩:=Mbind_someZ e4;obtain⟨hcall,rfl⟩:=Mlift_someZ e5;obtain⟨⟨fn,hfn,hb,hn⟩,hok⟩:=hs _ _ _ _ _ hcall;refine⟨q.1,caps,fn,rfl,hfn,hb,hn,(hok _ _ (cargs++caps) rfl rfl rfl (rel_none f1.rel.small) (by simpa using hRL)).mono ?_⟩;rintro e w' ⟨v,g',rfl,rfl,rfl,r', -,hR⟩;have hup:∀b,g'.I b->I1 b\/g.w.heap.size<=b/\b<g'.w.heap.size:=by
  intro b hb;have hlt:=r'.small b hb;rcases r'.i1 b hb with h | h | h
  ·exact .inl h
  ·exact h.elim
  ·exact .inr ⟨h,hlt⟩
 have hw:=f1.rel.world (w':=g'.w) (I':=g'.I) (λb h=>r'.i0 b h) hup r'.size r'.os r'.tape r'.output λb hb=>r'.old b hb (.inl λh=>h)
 unfold takeR at e6;split at e6
 case h_2=>exact(Mfail_someZ e6).elim
 rename_i i o n ver hrr;simp only at hrr;subst hrr;obtain⟨ob,hgi,e8⟩:=M.lift_bind e6;cases ob with
 |cells _=>exact(Mfail_someZ e8).elim
 |imm _ _ _=>exact(Mfail_someZ e8).elim
 |map _=>exact(Mfail_someZ e8).elim
 |buf v' e' es=>
  obtain⟨hok',e10⟩:=M.ok_bind e8;obtain⟨_,h6,e11,e12⟩:=Mbind_someZ e10;obtain⟨hfr,rfl⟩:=M.fresh_some e11;obtain⟨_,h7,e13,e14⟩:=Mbind_someZ e12;obtain rfl:=Mwrite_someZ e13;obtain⟨rfl,rfl⟩:=Mret_someZ e14;simp only[Bool.and_eq_true,beq_iff_eq]at hok';obtain⟨rfl,rfl⟩:=hok';cases hR with
  |own hone ho=>
   unfold OwnAt at ho;simp only[hgi]at ho;have hsl:=ho.2 (by trivial);have hnew:∀b,g'.φ i=some b->g.w.heap.size<=b:=λb hb=>(r'.own i _ b hgi hb).resolve_left λh=>h
   have hn:=hw.1.new' (s:=slot) (ob:=.buf 0 e' es) (p:=g'.φ i) (w':=g'.w) hfr (Nat.le_refl _) rfl rfl rfl (λ_ _=>rfl)
    (λb hb id o ho hφ=>by have:=(f1.rel.ob id o ho).block hφ f1.rel.small;have:=hnew b hb;simp only[]at *;omega)
    (λb hb=>.inr (Nat.le_trans r.size (hnew b hb))) λhm=>?_
   ·refine⟨v,⟨g'.I,updφ g.φ slot (g'.φ i),g'.w,set _ slot (.buf 0 e' es)⟩,rfl,rfl,rfl,hn.1,(f1.mono.trans hw.2).trans hn.2,.own hone ?_⟩;unfold OwnAt;simp only[get_set_same,updφ_same];exact⟨Nat.le_refl _,λ_=>hsl⟩
   ·rcases r'.ob i _ hgi with⟨h1,h2⟩|⟨b,h1,h2,h3,h4⟩
    ·exact .inl ⟨(updφ_same _ _ _).trans h1,h2⟩
    ·exact .inr ⟨b,(updφ_same _ _ _).trans h1,h2,h3,h4⟩
end
theorem place_some:∀{ids:List Nat} {id i:Nat},place ids id=some i->ids[i]?=some id:=by
 intro ids
 induction ids with
 |nil=>intro id i h;simp[place]at h
 |cons x ids ih=>
  intro id i h;simp only[place]at h;split at h
  ·rename_i hx;cases h;simp[hx]
  ·simp only[Option.map_eq_some_iff]at h;obtain⟨j,hj,rfl⟩:=h;simpa using ih hj
theorem place_none:∀{ids:List Nat} {id:Nat},place ids id=none->∀i:Nat,ids[i]?≠some id:=by
 intro ids
 induction ids with
 |nil=>intro id _ i h;simp at h
 |cons x ids ih=>
  intro id h i hi;simp only[place]at h;split at h
  ·cases h
  ·rename_i hx;cases i with
   |zero=>simp at hi;exact hx hi
   |succ i=>exact ih (by simpa using h) i (by simpa using hi)
theorem nodup_place:∀{ids:List Nat},nodupB ids=true->∀{i id:Nat},ids[i]?=some id->place ids id=some i:=by
 intro ids
 induction ids with
 |nil=>intro _ i id h;simp at h
 |cons x ids ih=>
  intro hn i id h;simp only[nodupB,Bool.and_eq_true,Bool.not_eq_true',List.contains_eq_mem,decide_eq_false_iff_not]at hn;simp only[place];cases i with
  |zero=>simp at h;rw[if_pos h]
  |succ i=>
   have h':ids[i]?=some id:=by simpa using h
   rw[if_neg (λe:x=id=>hn.1 (by rw[e];exact List.mem_of_getElem? h')),ih hn.2 h'];rfl
theorem withPlaces_get {α:Type}:∀(l:List α) (s i:Nat),get (withPlaces l s) i=if s<=i then l[i - s]? else none:=by
 intro l
 induction l with
 |nil=>intro s i;simp[withPlaces,get]
 |cons x l ih=>
  intro s i;simp only[withPlaces,get,ih];by_cases h:s=i
  ·subst h;simp
  ·rw[if_neg h];by_cases h':s<=i
   ·rw[if_pos (by omega),if_pos h',show i - s=(i - (s+1))+1 by omega];simp
   ·rw[if_neg (by omega),if_neg h']
section
variable {ν:Nat->Nat} {P:Program} {k:Cx} {g:Gh}
inductive Sent (ν:Nat->Nat) (g:Gh) (ids:List Nat) (v:Value):AV->Prop
 |own {id i o n ver:Nat} (h1:v.oneCell'=true) (h:OwnAt g v id o n ver) (hi:place ids id=some i):Sent ν g ids v (.own i o n ver)
 |ref {id p ver i j:Nat} (h1:v.oneCell'=true) (h:RefAt g v id ver i j) (hp:place ids id=some p):Sent ν g ids v (.ref p ver i j)
 |shut {x:AV} (h:RC0 ν g.I g.w v x):Sent ν g ids v x
theorem lend_list {ids:List Nat}:∀(U:List AV) (k:Cx) (g:Gh) (ys:List AV) (h':Hp),(M.mapL (lendA ids) U).run g.h=some (ys,h')->Rel ν k g->∀vs:List Value,RL ν g vs U->
  ∃I',Froze ν k g h' I'/\ys.length=vs.length/\∀(j:Nat) (v:Value) (y:AV),vs[j]?=some v->ys[j]?=some y->Sent ν { g with I:=I',h:=h' } ids v y:=by
 intro U
 induction U with
 |nil=>
  intro k g ys h' e r vs hv;obtain⟨rfl,rfl⟩:=MmapL_nilZ e;have:vs=[]:=List.eq_nil_of_length_eq_zero hv.1;subst this;exact⟨g.I,.refl r,rfl,λj v y h=>by simp at h⟩
 |cons a U ih=>
  intro k g ys h' e r vs hv;cases vs with
  |nil=>have:=hv.1;simp at this
  |cons v vs=>
   obtain⟨y,h1,zs,e1,e2,rfl⟩:=MmapL_consZ e;have key:∃I1,Froze ν k g h1 I1/\∀(g2:Gh),Mono ν { g with I:=I1,h:=h1 } g2->(∀v x,RI ν I1 g.w v x->RI ν g2.I g2.w v x)->Sent ν g2 ids v y:=by
    have ha:=hv.tail.1;have plain:∀{a:AV},(fz1 true a).run g.h=some (y,h1)->RA ν g v a->∃I1,Froze ν k g h1 I1/\∀(g2:Gh),Mono ν { g with I:=I1,h:=h1 } g2->(∀v x,RI ν I1 g.w v x->RI ν g2.I g2.w v x)->Sent ν g2 ids v y:=by
     intro a e ha;obtain⟨I1,f1,hR⟩:=fz1T r e ha;exact⟨I1,f1,λg2 _ hRI=>.shut (hR.mono hRI)⟩
    cases a with
    |own id o n ver=>
     obtain⟨i,hi,e4⟩:=M.lift_bind e1;obtain⟨rfl,rfl⟩:=Mret_someZ e4;refine⟨g.I,.refl r,λg2 hm _=>?_⟩;have:=hm _ _ ha;cases this with
     |own h1 h=>exact .own h1 h hi
    |ref id ver i j=>
     obtain⟨p,hi,e4⟩:=M.lift_bind e1;obtain⟨rfl,rfl⟩:=Mret_someZ e4;refine⟨g.I,.refl r,λg2 hm _=>?_⟩;have:=hm _ _ ha;cases this with
     |ref h1 h=>exact .ref h1 h hi
    |undef=>exact plain (a:=.undef) e1 ha
    |iv x=>exact plain (a:=(.iv x)) e1 ha
    |agg cs=>exact plain (a:=(.agg cs)) e1 ha
    |tup vs=>exact plain (a:=(.tup vs)) e1 ha
    |clo f caps=>exact plain (a:=(.clo f caps)) e1 ha
   obtain⟨I1,f1,hS⟩:=key;obtain⟨I2,f2,hl,hR⟩:=ih k _ zs h' e2 f1.rel vs (hv.tail.2.mono f1.mono);refine⟨I2,f1.trans f2,by simp[hl],λj v' y' h1 h2=>?_⟩;cases j with
   |zero=>simp at h1 h2;subst h1 h2;exact hS _ f2.mono λv x h=>h.mono f2.sub λ_ _ _ _ h=>h
   |succ j=>exact hR j v' y' (by simpa using h1) (by simpa using h2)
theorem looks_list:∀(ids:List Nat) (os:List Ob) (h h':Hp),(M.mapL (λid=>(M.look id).bind λo=>(M.ok (lentOk o)).bind λ_=>M.ret o) ids).run h=some (os,h')->
  h'=h/\os.length=ids.length/\∀(i id:Nat),ids[i]?=some id->∃v e es,os[i]?=some (.buf v e es)/\get h id=some (.buf v e es):=by
 intro ids
 induction ids with
 |nil=>
  intro os h h' e;obtain⟨rfl,rfl⟩:=MmapL_nilZ e;exact⟨rfl,rfl,λi id h=>by simp at h⟩
 |cons x ids ih=>
  intro os h h' e;obtain⟨y,h1,zs,e1,e2,rfl⟩:=MmapL_consZ e;obtain⟨o,hg,e4⟩:=M.look_bind e1;obtain⟨hok,e6⟩:=M.ok_bind e4;obtain⟨rfl,rfl⟩:=Mret_someZ e6;obtain⟨rfl,hl,hr⟩:=ih zs _ _ e2;refine⟨rfl,by simp[hl],λi id hi=>?_⟩;cases i with
  |zero=>
   simp at hi;subst hi;cases o with
   |buf v ee es=>exact⟨v,ee,es,rfl,hg⟩
   |cells _=>simp[lentOk]at hok
   |imm _ _ _=>simp[lentOk]at hok
   |map _=>simp[lentOk]at hok
  |succ i=>simpa using hr i id (by simpa using hi)
theorem backAll_get:∀(ids:List Nat) (s:Nat) (hc h h':Hp) (u:Unit),(backAll ids s hc).run h=some (u,h')->nodupB ids=true->
  (∀(i id:Nat),ids[i]?=some id->∃o,get hc (s+i)=some o/\get h' id=some o/\(∀cs,o≠.cells cs)/\∀kvs,o≠.map kvs)/\∀id,place ids id=none->get h' id=get h id:=by
 intro ids
 induction ids with
 |nil=>
  intro s hc h h' u e _;obtain⟨-,rfl⟩:=Mret_someZ e;exact⟨λi id h=>by simp at h,λ_ _=>rfl⟩
 |cons x ids ih=>
  intro s hc h h' u e hn;have hn':=hn;simp only[nodupB,Bool.and_eq_true,Bool.not_eq_true',List.contains_eq_mem,decide_eq_false_iff_not]at hn;obtain⟨o,ho,e2⟩:=M.lift_bind e;obtain⟨hok,e4⟩:=M.ok_bind e2;obtain⟨_,h3,e5,e6⟩:=Mbind_someZ e4;obtain rfl:=Mwrite_someZ e5;obtain⟨q1,q2⟩:=ih (s+1) hc _ h' u e6 hn.2;have hx:place ids x=none:=by
   cases hp:place ids x with
   |none=>rfl
   |some i=>exact absurd (List.mem_of_getElem? (place_some hp)) hn.1
  refine⟨λi id hi=>?_,λid hid=>?_⟩
  ·cases i with
   |zero=>
    simp at hi;subst hi;refine⟨o,ho,?_,⟨λcs hcs=>(by subst hcs;cases hok),λcs hcs=>(by subst hcs;cases hok)⟩⟩;rw[q2 _ hx];exact get_set_same _ _ _
   |succ i=>
    have:=q1 i id (by simpa using hi)
    rwa [show s+1+i=s+(i+1) by omega]at this
  ·simp only[place]at hid;split at hid
   ·cases hid
   ·rename_i hne;rw[q2 id (by simpa using hid)];exact get_set_ne _ _ hne
theorem lcallM_ok {call:Nat->List AV->Hp->Option (AV×Hp)} (hs:CallSound ν P call) (r:Rel ν k g) {f y:AV} {args:List AV} {h':Hp} (e:(lcallM call f args).run g.h=some (y,h')) {fv:Value} {cargs:Array Value}
  (hf:RA ν g fv f) (ha:RL ν g cargs.toList args):CallDone ν P k g h' y fv cargs:=by
 obtain⟨q,hq,e2⟩:=M.lift_bind e;obtain⟨caps,rfl,hcaps⟩:=callee_ok hq hf;simp only[]at e2;generalize hids:dedup ((args++q.2).flatMap idsOf) []=ids at e2;obtain⟨hnd,e4⟩:=M.ok_bind e2;simp only[Bool.and_eq_true,Nat.ble_eq]at hnd;obtain⟨hnd,hlen⟩:=hnd;obtain⟨U,h3,e5,e6⟩:=Mbind_someZ e4;obtain⟨I1,f1,hal,hsent⟩:=lend_list (ids:=ids) _ k g U _ e5 r (cargs.toList++caps.toList) (ha.append hcaps);obtain⟨os,h4,e7,e8⟩:=Mbind_someZ e6;obtain⟨rfl,hol,hos⟩:=looks_list ids os _ _ e7;obtain⟨p,hcall,e10⟩:=M.lift_bind e8;obtain⟨rr,h6,e11,e12⟩:=Mbind_someZ e10;obtain⟨hrr,rfl⟩:=Mlift_someZ e11;obtain⟨_,h7,e13,e14⟩:=Mbind_someZ e12
 obtain⟨rfl,rfl⟩:=Mret_someZ e14;obtain⟨⟨fn,hfn,hb,hn⟩,hok⟩:=hs _ _ _ _ _ hcall;have r1:=f1.rel
 let φ0:Nat->Option Nat:=λi=>(ids[i]?).bind g.φ
 let L:Nat->Prop:=λb=>∃(i id:Nat),ids[i]?=some id/\g.φ id=some b
 let g1:Gh:={ g with I:=I1,h:=h6 }
 let g0:Gh:=⟨I1,φ0,g.w,withPlaces os 0⟩
 have hg0:∀i,get g0.h i=os[i]?:=λi=>by
  show get (withPlaces os 0) i=_
  rw[withPlaces_get,if_pos (Nat.zero_le _),Nat.sub_zero]
 have hob0:∀i o,get g0.h i=some o->∃id,ids[i]?=some id/\get h6 id=some o/\(∃v e es,o = .buf v e es)/\φ0 i=g.φ id:=by
  intro i o ho;rw[hg0]at ho;have hi:i<ids.length:=by have:=lt_of_some ho;omega
  have hid:ids[i]?=some ids[i]:=List.getElem?_eq_getElem hi;obtain⟨v,ee,es,q1,q2⟩:=hos i _ hid;rw[ho]at q1;cases q1;exact⟨_,hid,q2,⟨v,ee,es,rfl⟩,by simp[φ0,hid]⟩
 have hLI:∀b,L b->¬I1 b/\b<g.w.heap.size:=by
  rintro b ⟨i,id,hid,hφ⟩;obtain⟨v,ee,es,q1,q2⟩:=hos i id hid;rcases r1.ob id _ q2 with⟨h1,_⟩|⟨b',h1,h2,h3,_⟩
  ·simp only[hφ]at h1;cases h1
  ·simp only[hφ]at h1;cases h1;exact⟨h2,h3.1⟩
 have r0:Rel ν ⟨g.w,I1,L⟩ g0:=by
  refine⟨λi o ho=>?_,λi i' o o' b ho ho' hφ hφ'=>?_,r1.small,λ_ h=>h,λ_ h=>.inl h,λi o b ho hφ=>?_,Nat.le_refl _,rfl,rfl,rfl,λ_ _ _=>rfl⟩
  ·obtain⟨id,hid,hg,⟨v,ee,es,rfl⟩,hφ⟩:=hob0 i o ho;rcases r1.ob id _ hg with⟨h1,h2⟩|⟨b,h1,h2,h3,h4⟩
   ·exact .inl ⟨hφ.trans h1,h2⟩
   ·exact .inr ⟨b,hφ.trans h1,h2,h3,h4⟩
  ·obtain⟨id,hid,hg, -,hφi⟩:=hob0 i o ho;obtain⟨id',hid',hg', -,hφi'⟩:=hob0 i' o' ho';have:=r1.inj id id' o o' b hg hg' (hφi.symm.trans hφ) (hφi'.symm.trans hφ');subst this;have h1:=nodup_place hnd hid;have h2:=nodup_place hnd hid';rw[h1]at h2;exact Option.some.inj h2
  ·obtain⟨id,hid,hg, -,hφi⟩:=hob0 i o ho;exact .inl ⟨i,id,hid,hφi.symm.trans hφ⟩
 have low:∀{i id:Nat},place ids id=some i->i<1000:=λh=>by have:=lt_of_some (place_some h);omega
 have getp:∀{i id:Nat},place ids id=some i->get g0.h i=get h6 id/\φ0 i=g.φ id:=by
  intro i id h;have hid:=place_some h;obtain⟨v,ee,es,q1,q2⟩:=hos i id hid;exact⟨by rw[hg0,q1,q2],by simp[φ0,hid]⟩
 have own0:∀{i id o n ver:Nat} {v:Value},place ids id=some i->OwnAt g1 v id o n ver->OwnAt g0 v i o n ver:=by
  intro i id o n ver v hp ho;obtain⟨a1,a2⟩:=getp hp;unfold OwnAt at ho ⊢;rw[a1,show g0.φ i=g.φ id from a2];exact ho
 have ref0:∀{i id ver a b:Nat} {v:Value},place ids id=some i->RefAt g1 v id ver a b->RefAt g0 v i ver a b:=by
  intro i id ver a b v hp ho;obtain⟨a1,a2⟩:=getp hp;unfold RefAt at ho ⊢;rw[a1,show g0.φ i=g.φ id from a2];exact ho
 have hRL:RL ν g0 (cargs++caps).toList U:=by
  refine⟨by rw[hal];simp,λj v y h1 h2=>?_⟩;have hS:=hsent j v y (by simpa using h1) h2;cases hS with
  |own h1 h hp=>exact .own h1 (own0 hp h)
  |ref h1 h hp=>exact .ref h1 (ref0 hp h)
  |shut h=>exact h.up λv x h=>h
 refine⟨q.1,caps,fn,rfl,hfn,hb,hn,(hok ⟨g.w,I1,L⟩ g0 (cargs++caps) rfl rfl rfl r0 hRL).mono ?_⟩;rintro e w' ⟨v,g',rfl,rfl,hgh,r',ml,hR⟩;obtain⟨q1,q2⟩:=backAll_get ids 0 p.2 h6 h' _ e13 hnd;simp only[Nat.zero_add]at q1
 let φ2:Nat->Option Nat:=λid=>match place ids id with | some i=>g'.φ i | none=>g.φ id
 let g2:Gh:=⟨g'.I,φ2,g'.w,h'⟩
 have hsome:∀{i id:Nat},place ids id=some i->φ2 id=g'.φ i/\∃o,get g'.h i=some o/\get h' id=some o/\(∀cs,o≠.cells cs)/\∀kvs,o≠.map kvs:=by
  intro i id hp;obtain⟨o,a1,a2,a3⟩:=q1 i id (place_some hp);exact⟨by simp[φ2,hp],o,by rw[hgh];exact a1,a2,a3⟩
 have hnone:∀{id:Nat},place ids id=none->φ2 id=g.φ id/\get h' id=get h6 id:=λhp=>⟨by simp[φ2,hp],q2 _ hp⟩
 have hLnone:∀{id:Nat} {o:Ob} {b:Nat},place ids id=none->get h6 id=some o->g.φ id=some b->¬L b:=by
  rintro id o b hp ho hφ ⟨i,id',hid',hφ'⟩;obtain⟨v,ee,es,q3,q4⟩:=hos i id' hid';have:=r1.inj id id' o _ b ho q4 hφ hφ';subst this;exact place_none hp i hid'
 have hRI:∀v x,RI ν I1 g.w v x->RI ν g'.I g'.w v x:=λv x h=>h.mono (λb hb=>r'.i0 b hb) λb off u hb hc=>by
  rw[cell_of_same (r'.old b (r1.small b hb) (.inr hb))];exact hc
 have hheap:∀b,b<g.w.heap.size->¬L b->g'.w.heap[b]?=g.w.heap[b]?:=λb hb hL=>r'.old b hb (.inl hL)
 have m2:Mono ν g1 g2:=by
  intro v x hx;refine hx.mono1 hRI ?_ ?_
  ·intro v id o n ver hone ho;cases hp:place ids id with
   |some i=>
    have h:=ml.own v i o n ver (low hp) hone (own0 hp ho);obtain⟨a1,ob,a2,a3,_⟩:=hsome hp;unfold OwnAt at h ⊢;rw[a2]at h;rw[show get g2.h id=some ob from a3,show g2.φ id=g'.φ i from a1];exact h
   |none=>
    obtain⟨a1,a2⟩:=hnone hp;obtain⟨ob,hob⟩:=ho.alive;exact ho.other (g':=g2) a2 a1 λb hφ=>hheap b ((r1.ob id _ hob).block hφ r1.small) (hLnone hp hob hφ)
  ·intro v id ver a b hone hr;cases hp:place ids id with
   |some i=>
    have h:=ml.ref v i ver a b (low hp) hone (ref0 hp hr);obtain⟨a1,ob,a2,a3,_⟩:=hsome hp;unfold RefAt at h ⊢;rw[a2]at h;rw[show get g2.h id=some ob from a3,show g2.φ id=g'.φ i from a1];exact h
   |none=>
    obtain⟨a1,a2⟩:=hnone hp;exact hr.other (g':=g2) a2 a1
 have hI2:∀b,b<g.w.heap.size->g'.I b->I1 b\/L b:=by
  intro b hb h;rcases r'.i1 b h with h | h | h
  ·exact .inl h
  ·exact .inr h
  ·simp only[]at h;omega
 have r2:Rel ν k g2:=by
  refine⟨λid o ho=>?_,λid id' o o' b ho ho' hφ hφ'=>?_,r'.small,λb h=>r'.i0 b (r1.i0 b h),λb h=>?_,λid o b ho hφ=>?_,Nat.le_trans r1.size r'.size,r'.os.trans r1.os,r'.tape.trans r1.tape,r'.output.trans r1.output,λb hb hk=>?_⟩
  ·cases hp:place ids id with
   |some i=>
    obtain⟨a1,ob,a2,a3,a4⟩:=hsome hp;have:ob=o:=by rw[show get g2.h id=some ob from a3]at ho;exact Option.some.inj ho
    subst this;have old:=r'.ob i _ a2;cases ob with
    |cells cs=>exact absurd rfl (a4.1 cs)
    |map cs=>exact absurd rfl (a4.2 cs)
    |buf v ee es=>
     rcases old with⟨h1,h2⟩|⟨b,h1,h2,h3,h4⟩
     ·exact .inl ⟨a1.trans h1,h2⟩
     ·exact .inr ⟨b,a1.trans h1,h2,h3,h4⟩
    |imm v ee es=>
     rcases old with⟨h1,h2⟩|⟨b,h1,h2,h3⟩
     ·exact .inl ⟨a1.trans h1,h2⟩
     ·exact .inr ⟨b,a1.trans h1,h2,h3⟩
   |none=>
    obtain⟨a1,a2⟩:=hnone hp;have ho':get h6 id=some o:=a2.symm.trans ho;refine(r1.ob id o ho').other (g':=g2) a1 m2 hRI r'.size (λb hφ=>hheap b ((r1.ob id _ ho').block hφ r1.small) (hLnone hp ho' hφ)) λb hφ=>?_
    have hlt:=(r1.ob id _ ho').block hφ r1.small;exact⟨λh=>(hI2 b hlt h).resolve_right (hLnone hp ho' hφ),λh=>r'.i0 b h⟩
  ·have cross:∀{a c:Nat} {oc:Ob},(∃i,place ids a=some i)->place ids c=none->get h' c=some oc->φ2 a=some b->φ2 c=some b->False:=by
    rintro a c oc ⟨i,hp⟩ hp' hoc h1 h2;obtain⟨a1,ob,a2,a3,_⟩:=hsome hp;obtain⟨b1,b2⟩:=hnone hp';have ho6:get h6 c=some oc:=b2.symm.trans hoc;have hφc:g.φ c=some b:=b1.symm.trans h2;rcases r'.own i ob b a2 (a1.symm.trans h1)with h | h
    ·exact hLnone hp' ho6 hφc h
    ·have:=(r1.ob c _ ho6).block hφc r1.small;simp only[]at h this;omega
   cases hp:place ids id with
   |some i=>
    cases hp':place ids id' with
    |some i'=>
     obtain⟨a1,ob,a2,a3,_⟩:=hsome hp;obtain⟨b1,ob',b2,b3,_⟩:=hsome hp';have:=r'.inj i i' ob ob' b a2 b2 (a1.symm.trans hφ) (b1.symm.trans hφ');subst this;have h1:=place_some hp;rw[place_some hp']at h1;exact(Option.some.inj h1).symm
    |none=>exact(cross ⟨i,hp⟩ hp' ho' hφ hφ').elim
   |none=>
    cases hp':place ids id' with
    |some i'=>exact(cross ⟨i',hp'⟩ hp ho hφ' hφ).elim
    |none=>
     obtain⟨a1,a2⟩:=hnone hp;obtain⟨b1,b2⟩:=hnone hp';exact r1.inj id id' o o' b (a2.symm.trans ho) (b2.symm.trans ho') (a1.symm.trans hφ) (b1.symm.trans hφ')
  ·rcases r'.i1 b h with h | ⟨i,id,hid,hφ⟩|h
   ·exact r1.i1 b h
   ·obtain⟨v,ee,es,q3,q4⟩:=hos i id hid;exact .inr (r1.own id _ b q4 hφ)
   ·exact .inr (.inr (Nat.le_trans r1.size h))
  ·cases hp:place ids id with
   |some i=>
    obtain⟨a1,ob,a2,a3,_⟩:=hsome hp;rcases r'.own i ob b a2 (a1.symm.trans hφ)with⟨i',id',hid',hφ'⟩|h
    ·obtain⟨v,ee,es,q3,q4⟩:=hos i' id' hid';exact r1.own id' _ b q4 hφ'
    ·exact .inr (Nat.le_trans r1.size h)
   |none=>
    obtain⟨a1,a2⟩:=hnone hp;exact r1.own id o b (a2.symm.trans ho) (a1.symm.trans hφ)
  ·have hlt:b<g.w.heap.size:=Nat.lt_of_lt_of_le hb r1.size;refine(hheap b hlt ?_).trans (r1.old b hb hk);rintro⟨i,id,hid,hφ⟩;obtain⟨v,ee,es,q3,q4⟩:=hos i id hid;rcases hk with hk | hk
   ·rcases r1.own id _ b q4 hφ with h | h
    ·exact hk h
    ·omega
   ·exact(hLI b ⟨i,id,hid,hφ⟩).1 (r1.i0 b hk)
 refine⟨v,g2,rfl,rfl,rfl,r2,f1.mono.trans m2,?_⟩;unfold lentR at hrr;split at hrr
 ·rename_i i o n ver hp1;simp only[Option.map_eq_some_iff]at hrr;obtain⟨id,hid,rfl⟩:=hrr;rw[hp1]at hR;cases hR with
  |own hone ho=>
   obtain⟨a1,ob,a2,a3,_⟩:=hsome (nodup_place hnd hid);refine .own hone ?_;unfold OwnAt at ho ⊢;rw[a2]at ho;rw[show get g2.h id=some ob from a3,show g2.φ id=g'.φ i from a1];exact ho
 ·split at hrr
  ·rename_i hfl;cases hrr;exact flat_any hfl hR
  ·cases hrr
end
end Arb
