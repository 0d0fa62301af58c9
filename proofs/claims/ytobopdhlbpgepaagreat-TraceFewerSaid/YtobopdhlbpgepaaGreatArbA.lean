/-
  A part of the proof of the statement that the last text of this claim holds: two abstract machines for the code, proved sound once, and what the program does on them. No condition.
-/
import Derived.Below
import Derived.Eval
import Derived.Orders
import Derived.Sort.Defs
import Derived.Lib.BitFns
import Derived.Laws.Rows
import Derived.Laws.Tables
import Derived.Laws.Cells
import Derived.Laws.IdiomCopy
import Derived.Laws.Small
import Derived.Laws.StructEq
import Derived.Laws.Slices
import Derived.Laws.Append
import Derived.WideKeyRuns
import Derived.Laws.BytesArg
import Derived.WalkLawsBesides
import Derived.WalkSpells
import Derived.Laws.LoneSync
import Derived.Lib.Builder
import Derived.Lib.UnsafeStr
import Derived.Scope
import Derived.WalkKit
import Derived.ProofKit
import Derived.OpenShut
import Derived.Maps.RangeRun
import Derived.IntWalk
import Derived.Sort.AssemblyPlain
import Derived.Shelf.SlSortCmp.WholeK
import Derived.Shelf.Sort.Plain
import Derived.Shelf.SlicesG.Cmp
import Derived.Test.YtobopdhlbpgepaaGreatProg
import Derived.Test.YtobopdhlbpgepaaGreatChecked
import Derived.KernelRfl
import Derived.Sort.Walk0
import Derived.Test.YtobopdhlbpgepaaGreatRows
import Derived.ShutString
import Derived.ChangeOld
import Derived.Carry
set_option linter.all false
namespace Arb
open Go
inductive IV where
 |bool (b:Bool)
 |int (k:IntKind) (n:Int)
 |str (s:ByteArray)
 |nsl (e:Nat)
 |sl (e:Nat) (es:List (List IV))
 |nilp
 |ptr (cs:List IV)
 |fn (f:Nat) (caps:List IV)
 |junk
 deriving Inhabited
inductive AV where
 |undef
 |iv (x:IV)
 |agg (cs:List AV)
 |tup (vs:List AV)
 |own (id o n v:Nat)
 |ref (id v i j:Nat)
 |clo (f:Nat) (caps:List AV)
 deriving Inhabited
abbrev AV.nI (n:Int):AV:=.iv (.int .i64 n)
abbrev AV.bI (b:Bool):AV:=.iv (.bool b)
inductive Ob where
 |cells (cs:List AV)
 |buf (v e:Nat) (es:List (List IV))
 |imm (v e:Nat) (es:List (List IV))
 |map (kvs:List (AV×AV))
 deriving Inhabited
def get {α:Type}:List (Nat×α)->Nat->Option α
 |[],_=>none
 |x::r,n=>if x.1=n then some x.2 else get r n
def set {α:Type}:List (Nat×α)->Nat->α->List (Nat×α)
 |[],n,v=>[(n,v)]
 |x::r,n,v=>if x.1=n then(n,v)::r else x::set r n v
abbrev Hp:=List (Nat×Ob)
abbrev Fr:=List (Nat×AV)
inductive M (α:Type) where
 |ret (a:α)
 |fail
 |get (id:Nat) (k:Option Ob->M α)
 |put (id:Nat) (o:Ob) (k:M α)
namespace M
def bind {α β:Type}:M α->(α->M β)->M β
 |.ret a,f=>f a
 |.fail,_=>.fail
 |.get id k,f=>.get id fun o=>(k o).bind f
 |.put id o k,f=>.put id o (k.bind f)
instance:Monad M where
 pure:=M.ret
 bind:=M.bind
def run {α:Type}:M α->Hp->Option (α×Hp)
 |.ret a,h=>some (a,h)
 |.fail,_=>none
 |.get id k,h=>(k (Arb.get h id)).run h
 |.put id o k,h=>k.run (Arb.set h id o)
def foot {α:Type}:M α->Hp->List Nat×List Nat
 |.ret _,_=>([],[])
 |.fail,_=>([],[])
 |.get id k,h=>let r:=(k (Arb.get h id)).foot h;(id::r.1,r.2)
 |.put id o k,h=>let r:=k.foot (Arb.set h id o);(r.1,r.2++[id])
def ok (b:Bool):M Unit:=if b then .ret () else .fail
def lift {α:Type}:Option α->M α
 |some a=>.ret a
 |none=>.fail
def look (id:Nat):M Ob:=.get id fun | some o=>.ret o | none=>.fail
def fresh (id:Nat):M Unit:=.get id fun | some _=>.fail | none=>.ret ()
def write (id:Nat) (o:Ob):M Unit:=.put id o (.ret ())
def mapL {α β:Type} (f:α->M β):List α->M (List β)
 |[]=>.ret []
 |x::r=>(f x).bind fun y=>(mapL f r).bind fun ys=>.ret (y::ys)
end M
def cellsM:AV->M (List AV)
 |.agg cs=>.ret cs
 |.undef=>.fail
 |.tup _=>.fail
 |x=>.ret [x]
def mk (agg:Bool) (l:List AV):M AV:=
 if agg then .ret (.agg l) else match l with
  |[x]=>.ret x
  |_=>.fail
def fz (w:Bool):Nat->AV->M IV
 |0,_=>.fail
 |n+1,a=>match a with
  |.iv (.nsl e)=>.ret (.sl e [])
  |.iv x=>.ret x
  |.own id o m ver=>(M.look id).bind fun
   |.buf v e es=>(M.ok (v==ver)).bind fun _=>if w then(M.write id (.imm v e es)).bind fun _=>.ret (.sl e ((es.drop o).take m)) else .ret (.sl e ((es.drop o).take m))
   |.imm v e es=>(M.ok (v==ver)).bind fun _=>.ret (.sl e ((es.drop o).take m))
   |.cells _=>.fail
   |.map _=>.fail
  |.ref id ver i j=>(M.look id).bind fun
   |.buf v e es=>(M.ok (v==ver)).bind fun _=>(M.lift es[i]?).bind fun c=>if w then(M.write id (.imm v e es)).bind fun _=>.ret (.ptr (c.drop j)) else .ret (.ptr (c.drop j))
   |.imm v _ es=>(M.ok (v==ver)).bind fun _=>(M.lift es[i]?).bind fun c=>.ret (.ptr (c.drop j))
   |.cells cs=>(M.ok (ver==0&&i==0)).bind fun _=>(M.mapL (fz w n) cs).bind fun xs=>if w then(M.look id).bind fun
    |.cells _=>(M.write id (.imm 0 xs.length [xs])).bind fun _=>.ret (.ptr (xs.drop j))
    |_=>.fail
    else .ret (.ptr (xs.drop j))
   |.map _=>.fail
  |.clo f caps=>(M.mapL (fz w n) caps).bind fun xs=>.ret (.fn f xs)
  |_=>.fail
def fzC (w:Bool) (a:AV):M AV:=(fz w 8 a).bind fun x=>.ret (.iv x)
def fz1 (w:Bool) (a:AV):M AV:=match a with
 |.agg cs=>(M.mapL (fzC w) cs).bind fun l=>.ret (.agg l)
 |a=>fzC w a
def fzA (w:Bool) (a:AV):M AV:=match a with
 |.tup vs=>(M.mapL (fz1 w) vs).bind fun l=>.ret (.tup l)
 |a=>fz1 w a
def flatI:IV->Bool
 |.bool _ | .int _ _ | .str _ | .nilp=>true
 |_=>false
def flat0:AV->Bool
 |.iv x=>flatI x
 |_=>false
def flat1:AV->Bool
 |.agg cs=>cs.all flat0
 |x=>flat0 x
def flat:AV->Bool
 |.tup vs=>vs.all flat1
 |x=>flat1 x
inductive Opd where
 |t (n:Nat)
 |c (v:IV)
 deriving Inhabited
inductive IOp where
 |mov (x:Opd)
 |nil0 (e:Nat)
 |pick (c a b:Opd)
 |alloc (z:List IV)
 |box (x:Opd)
 |build (z:List IV) (ps:List (Nat×Nat×Opd))
 |bsl (e:Nat) (z:List IV) (len:Nat) (ps:List (Nat×Opd))
 |load (agg:Bool) (sz:Nat) (a:Opd)
 |store (sz:Nat) (a x:Opd)
 |fadr (off:Nat) (x:Opd)
 |fld (agg:Bool) (off sz:Nat) (x:Opd)
 |iarr (len e:Nat) (x i:Opd)
 |isl (e:Nat) (x i:Opd)
 |xarr (agg:Bool) (len e:Nat) (x i:Opd)
 |xstr (x i:Opd)
 |bin (op:BinOp) (q:Nat) (x y:Opd)
 |eqc (neg:Bool) (qs:List Nat) (x y:Opd)
 |un (op:UnOp) (x:Opd)
 |cvi (k:IntKind) (x:Opd)
 |cvs (x:Opd)
 |slc (e:Nat) (x:Opd) (lo hi:Option Opd)
 |slcs (x:Opd) (lo hi:Option Opd)
 |slz (e:Nat) (x:Opd)
 |clr (e:Nat) (z:List IV) (x:Opd)
 |len (str:Bool) (x:Opd)
 |app (e:Nat) (x y:Opd)
 |mn (x:Opd) (ys:List Opd)
 |mx (x:Opd) (ys:List Opd)
 |ext (x:Opd) (i:Nat)
 |nchk (x:Opd)
 |mkf (f:Nat) (caps:List Opd)
 |call (mode:Nat) (f:Opd) (args:List Opd)
 |cvb (x:Opd)
 |mmk
 |mget (ok agg:Bool) (qs:List Nat) (z:List IV) (m k:Opd)
 |mput (qs:List Nat) (m k v:Opd)
 |mdel (qs:List Nat) (m k:Opd)
 |mlen (m:Opd)
 deriving Inhabited
structure IOper where
 dst:Option Nat
 op:IOp
 gd:Option (Nat×Bool):=none
 aft:List Nat:=[]
 deriving Inhabited
def oo (d:Nat) (x:IOp):IOper:=⟨some d,x,none,[]⟩
def om (d s:Nat):IOper:=⟨some d,.mov (.t s),none,[]⟩
def ol (d s:Nat):IOper:=⟨some d,.load false 1 (.t s),none,[]⟩
def oa (d o s:Nat):IOper:=⟨some d,.fadr o (.t s),none,[]⟩
def oc (d s:Nat):IOper:=⟨some d,.nchk (.t s),none,[]⟩
def ob (d:Nat) (op:BinOp) (a b:Nat):IOper:=⟨some d,.bin op 0 (.t a) (.t b),none,[]⟩
def on (x:IOp):IOper:=⟨none,x,none,[]⟩
def og (d:Nat) (x:IOp) (s:Nat) (b:Bool):IOper:=⟨some d,x,some (s,b),[]⟩
def od (d:Nat) (x:IOp) (l:List Nat):IOper:=⟨some d,x,none,l⟩
def oe (d:Nat) (x:IOp) (s:Nat) (b:Bool) (l:List Nat):IOper:=⟨some d,x,some (s,b),l⟩
def ci (n:Int):Opd:=.c (.int .i64 n)
def cb (b:Bool):Opd:=.c (.bool b)
inductive IC where
 |skip
 |rgn (draw:Bool) (ops:List IOper) (keep:List Nat)
 |seq (a b:IC)
 |cond (c:Opd) (a b:IC)
 |block (id:Nat) (b:IC)
 |loop (keep:List Nat) (b:IC)
 |exit (id:Nat)
 |ret
 deriving Inhabited
def rg (o:List IOper) (k:List Nat):IC:=.rgn false o k
def sr (o:List IOper) (k:List Nat) (c:IC):IC:=.seq (.rgn false o k) c
inductive IRes where
 |t (n:Nat)
 |cell (n:Nat) (agg:Bool) (sz:Nat)
 |keep (n:Nat)
 |kcell (n:Nat) (agg:Bool) (sz:Nat)
 deriving Inhabited
structure IFn where
 np:Nat
 res:List IRes
 body:IC
 cl:Option (Nat×List IV)
 deriving Inhabited
structure St where
 fr:Fr
 hp:Hp
 nx:Nat
def ev (fr:Fr):Opd->AV
 |.t n=>(get fr n).getD .undef
 |.c v=>.iv v
def nilc:Nat->List AV->M (List AV)
 |_,[]=>.ret []
 |s,.iv (.nsl e)::r=>(M.fresh s).bind fun _=>(M.write s (.buf 0 e [])).bind fun _=>(nilc (s+1) r).bind fun rs=>.ret (.own s 0 0 0::rs)
 |s,x::r=>(nilc (s+1) r).bind fun rs=>.ret (x::rs)
def splice {α:Type} (cs:List α) (j:Nat) (l:List α):List α:=cs.take j++l++cs.drop (j+l.length)
def obRead (o:Ob) (ver i j sz:Nat):Option (List AV):=
 match o with
 |.cells cs=>if ver=0/\i=0 then some ((cs.drop j).take sz) else none
 |.buf v _ es | .imm v _ es=>if v=ver then(es[i]?).map fun c=>((c.drop j).take sz).map .iv else none
 |.map _=>none
def load (agg:Bool) (sz:Nat):AV->M AV
 |.ref id ver i j=>(M.look id).bind fun o=>(M.lift (obRead o ver i j sz)).bind fun l=>(M.ok (l.length==sz)).bind fun _=>mk agg l
 |.iv (.ptr cs)=>(M.ok ((cs.take sz).length==sz)).bind fun _=>mk agg ((cs.take sz).map .iv)
 |_=>.fail
def store (slot sz:Nat) (a x:AV):M AV:=
 (cellsM x).bind fun xs=>(M.ok (xs.length==sz)).bind fun _=>
 match a with
 |.ref id ver i j=>(M.look id).bind fun
  |.cells cs=>(M.ok (Nat.ble (j+sz) cs.length)).bind fun _=>(nilc slot xs).bind fun l=>(M.write id (.cells (splice cs j l))).bind fun _=>.ret (.tup [])
  |.buf _ _ _=>(M.mapL (fz true 8) xs).bind fun l=>(M.look id).bind fun
   |.buf v e es=>(M.ok (v==ver&&Nat.ble (j+sz) e)).bind fun _=>(M.lift es[i]?).bind fun c=>(M.write id (.buf v e (es.set i (splice c j l)))).bind fun _=>.ret (.tup [])
   |_=>.fail
  |_=>.fail
 |_=>.fail
def valid (o:Ob) (ver i:Nat):Bool:=
 match o with
 |.cells _=>ver==0&&i==0
 |.buf v _ _ | .imm v _ _=>v==ver
 |.map _=>false
def fadr (off:Nat):AV->M AV
 |.ref id ver i j=>(M.look id).bind fun o=>(M.ok (valid o ver i)).bind fun _=>.ret (.ref id ver i (j+off))
 |.iv (.ptr cs)=>(M.ok (Nat.ble off cs.length)).bind fun _=>.ret (.iv (.ptr (cs.drop off)))
 |_=>.fail
def fld (agg:Bool) (off sz:Nat):AV->M AV
 |.agg cs=>(M.ok (((cs.drop off).take sz).length==sz)).bind fun _=>mk agg ((cs.drop off).take sz)
 |_=>.fail
def idx:AV->M Int
 |.iv (.int _ n)=>.ret n
 |_=>.fail
def iarr (len e:Nat) (x i:AV):M AV:=
 (idx i).bind fun n=>(M.ok (decide (0<=n/\n<len))).bind fun _=>
 match x with
 |.ref id ver i j=>(M.look id).bind fun o=>(M.ok (valid o ver i)).bind fun _=>.ret (.ref id ver i (j+n.toNat*e))
 |.iv (.ptr cs)=>(M.ok (Nat.ble (n.toNat*e) cs.length)).bind fun _=>.ret (.iv (.ptr (cs.drop (n.toNat*e))))
 |_=>.fail
def isl (e:Nat) (x i:AV):M AV:=
 (idx i).bind fun n=>(M.ok (decide (0<=n))).bind fun _=>
 match x with
 |.own id o m ver=>(M.ok (decide (n<m))).bind fun _=>(M.look id).bind fun
  |.buf v e' _ | .imm v e' _=>(M.ok (v==ver&&e'==e)).bind fun _=>.ret (.ref id ver (o+n.toNat) 0)
  |_=>.fail
 |.iv (.sl e' es)=>(M.ok (e'==e)).bind fun _=>(M.lift es[n.toNat]?).bind fun c=>.ret (.iv (.ptr c))
 |_=>.fail
def xarr (agg:Bool) (len e:Nat) (x i:AV):M AV:=
 (idx i).bind fun n=>(M.ok (decide (0<=n/\n<len))).bind fun _=>fld agg (n.toNat*e) e x
def xstr:AV->AV->M AV
 |.iv (.str s),.iv (.int _ n)=>(M.ok (decide (0<=n))).bind fun _=>match s[n.toNat]? with
  |some b=>.ret (.iv (.int .u8 b.toNat))
  |none=>.fail
 |_,_=>.fail
def intBin (op:BinOp) (k k':IntKind) (a b:Int):Option IV:=
 match op with
 |.shl=>if b<0 then none else some (.int k (k.wrap (a*2 ^ min b.toNat k.bits)))
 |.shr=>if b<0 then none else some (.int k (a.fdiv (2 ^ min b.toNat k.bits)))
 |op=>if k=k' then match op with
   |.add=>some (.int k (k.wrap (a+b)))
   |.sub=>some (.int k (k.wrap (a - b)))
   |.mul=>some (.int k (k.wrap (a*b)))
   |.quo=>if b=0 then none else some (.int k (k.wrap (a.tdiv b)))
   |.rem=>if b=0 then none else some (.int k (a.tmod b))
   |.eql=>some (.bool (a==b))
   |.neq=>some (.bool (a != b))
   |.lss=>some (.bool (decide (a<b)))
   |.leq=>some (.bool (decide (a<=b)))
   |.gtr=>some (.bool (decide (a > b)))
   |.geq=>some (.bool (decide (a ≥ b)))
   |op=>some (.int k (bits op k a b))
  else none
def sless (a b:ByteArray):Bool:=Op.bytesLess a.toList b.toList
def strBin (op:BinOp) (a b:ByteArray):Option IV:=
 match op with
 |.add=>if a.size+b.size<=4611686018427387904 then some (.str (a++b)) else none
 |.eql=>some (.bool (a==b))
 |.neq=>some (.bool (!(a==b)))
 |.lss=>some (.bool (sless a b))
 |.leq=>some (.bool (sless a b||a==b))
 |.gtr=>some (.bool (!(sless a b||a==b)))
 |.geq=>some (.bool (!sless a b))
 |_=>none
def bin (op:BinOp) (q:Nat) (x y:AV):Option IV:=
 match q,x,y with
 |0,.iv (.int k a),.iv (.int k' b)=>intBin op k k' a b
 |0,.iv (.str a),.iv (.str b)=>strBin op a b
 |1,.iv (.bool a),.iv (.bool b)=>match op with
  |.eql=>some (.bool (a==b))
  |.neq=>some (.bool (!(a==b)))
  |_=>none
 |2,.iv .nilp,.iv .nilp=>match op with
  |.eql=>some (.bool true)
  |.neq=>some (.bool false)
  |_=>none
 |2,.iv (.ptr _),.iv .nilp | 2,.iv .nilp,.iv (.ptr _)=>match op with
  |.eql=>some (.bool false)
  |.neq=>some (.bool true)
  |_=>none
 |_,_,_=>none
def eq0 (q:Nat) (x y:AV):Option Bool:=
 match q,x,y with
 |0,.iv (.int k a),.iv (.int k' b)=>if k=k' then some (a==b) else none
 |1,.iv (.bool a),.iv (.bool b)=>some (a==b)
 |2,.iv (.str a),.iv (.str b)=>some (a==b)
 |_,_,_=>none
def eqs:List Nat->List AV->List AV->Option Bool
 |[],[],[]=>some true
 |q::qs,x::xs,y::ys=>(eq0 q x y).bind fun b=>(eqs qs xs ys).bind fun c=>some (b&&c)
 |_,_,_=>none
def un (op:UnOp):AV->Option IV
 |.iv (.int k a)=>match op with
  |.neg=>some (.int k (k.wrap (0 - a)))
  |.xor=>some (.int k (bits .xor k (if k.signed then -1 else k.max) a))
  |_=>none
 |.iv (.bool b)=>match op with
  |.not=>some (.bool !b)
  |_=>none
 |_=>none
def bound (y:Nat):Option AV->M (Option Nat)
 |none=>.ret none
 |some (.iv (.int _ n))=>(M.ok (decide (0<=n/\n<=y))).bind fun _=>.ret (some n.toNat)
 |some _=>.fail
def slc (e:Nat) (x:AV) (lo hi:Option AV):M AV:=
 match x with
 |.own id o m ver=>(bound m hi).bind fun h=>(bound (h.getD m) lo).bind fun l=>(M.look id).bind fun
  |.buf v e' _ | .imm v e' _=>(M.ok (v==ver&&e'==e)).bind fun _=>.ret (.own id (o+l.getD 0) (h.getD m - l.getD 0) ver)
  |_=>.fail
 |.iv (.sl e' es)=>(M.ok (e'==e)).bind fun _=>(bound es.length hi).bind fun h=>(bound (h.getD es.length) lo).bind fun l=>.ret (.iv (.sl e ((es.take (h.getD es.length)).drop (l.getD 0))))
 |_=>.fail
def slcs (x:AV) (lo hi:Option AV):M AV:=
 match x with
 |.iv (.str s)=>(bound s.size hi).bind fun h=>(bound (h.getD s.size) lo).bind fun l=>.ret (.iv (.str (s.extract (l.getD 0) (h.getD s.size))))
 |_=>.fail
def slz (e:Nat):AV->M AV
 |.own id _ _ ver=>(M.look id).bind fun o=>(M.ok (valid o ver 0)).bind fun _=>(match o with | .cells _=>.fail | .map _=>.fail | _=>.ret (.iv (.nsl e)))
 |.iv (.sl _ _)=>.ret (.iv (.nsl e))
 |.iv (.nsl _)=>.ret (.iv (.nsl e))
 |_=>.fail
def clr (e:Nat) (z:List IV):AV->M AV
 |.own id o n ver=>(M.look id).bind fun
  |.buf v e' es=>(M.ok (v==ver&&e'==e&&z.length==e)).bind fun _=>(M.write id (.buf v e (es.take o++List.replicate n z++es.drop (o+n)))).bind fun _=>.ret (.tup [])
  |_=>.fail
 |_=>.fail
def len (str:Bool) (x:AV):M AV:=
 match str,x with
 |false,.own id _ n ver=>(M.look id).bind fun
  |.buf v _ _ | .imm v _ _=>(M.ok (v==ver)).bind fun _=>.ret (.iv (.int .i64 n))
  |_=>.fail
 |false,.iv (.sl _ es)=>.ret (.iv (.int .i64 es.length))
 |false,.iv (.nsl _)=>.ret (.iv (.int .i64 0))
 |true,.iv (.str s)=>.ret (.iv (.int .i64 s.size))
 |_,_=>.fail
def elems (e:Nat):AV->M (List (List IV))
 |.own id o n ver=>(M.look id).bind fun
  |.buf v e' es | .imm v e' es=>(M.ok (v==ver&&e'==e)).bind fun _=>.ret ((es.drop o).take n)
  |_=>.fail
 |.iv (.sl e' es)=>(M.ok (e'==e)).bind fun _=>.ret es
 |.iv (.nsl _)=>.ret []
 |_=>.fail
def roomy (n:Nat):Bool:=Nat.ble n 1073741824
def app (e slot:Nat) (x y:AV):M AV:=
 (elems e y).bind fun ys=>
 match x with
 |.iv (.nsl _)=>(M.ok (roomy ys.length)).bind fun _=>(M.fresh slot).bind fun _=>(M.write slot (.buf 0 e ys)).bind fun _=>.ret (.own slot 0 ys.length 0)
 |.own id o n ver=>(M.look id).bind fun
  |.buf v e' es=>(M.ok (v==ver&&e'==e&&o==0&&roomy (n+ys.length))).bind fun _=>(M.write id (.buf (v+1) e (es.take n++ys))).bind fun _=>.ret (.own id 0 (n+ys.length) (v+1))
  |_=>.fail
 |_=>.fail
def mnI:Int->List AV->IntKind->Option Int
 |a,[],_=>some a
 |a,.iv (.int k b)::r,k'=>if k=k' then mnI (if b<a then b else a) r k' else none
 |_,_,_=>none
def mxI:Int->List AV->IntKind->Option Int
 |a,[],_=>some a
 |a,.iv (.int k b)::r,k'=>if k=k' then mxI (if b > a then b else a) r k' else none
 |_,_,_=>none
def putAll {α:Type}:List α->List (Nat×List α)->List α
 |z,[]=>z
 |z,(o,l)::r=>putAll (splice z o l) r
def setAll {α:Type}:List α->List (Nat×α)->List α
 |z,[]=>z
 |z,(o,l)::r=>setAll (z.set o l) r
def idsOf:AV->List Nat
 |.own id _ _ _ | .ref id _ _ _=>[id]
 |_=>[]
def place:List Nat->Nat->Option Nat
 |[],_=>none
 |x::r,n=>if x=n then some 0 else(place r n).map (·+ 1)
def dedup:List Nat->List Nat->List Nat
 |[],acc=>acc.reverse
 |x::r,acc=>if acc.contains x then dedup r acc else dedup r (x::acc)
def lendA (ids:List Nat):AV->M AV
 |.own id o n v=>(M.lift (place ids id)).bind fun i=>.ret (.own i o n v)
 |.ref id v i j=>(M.lift (place ids id)).bind fun p=>.ret (.ref p v i j)
 |a=>fz1 true a
def lentOk:Ob->Bool
 |.buf _ _ _=>true
 |_=>false
def callee:AV->Option (Nat×List AV)
 |.iv (.fn f caps)=>some (f,caps.map .iv)
 |.clo f caps=>some (f,caps)
 |_=>none
def shut (p:AV×Hp):Option AV:=((fzA true p.1).run p.2).map (·.1)
def callM (call:Nat->List AV->Hp->Option (AV×Hp)) (f:AV) (args:List AV):M AV:=
 (M.lift (callee f)).bind fun q=>
 (M.mapL (fz1 false) (args++q.2)).bind fun U=>(M.lift ((call q.1 U []).bind shut)).bind fun r=>
 (M.ok (flat r)).bind fun _=>.ret r
def fcallM (call:Nat->List AV->Hp->Option (AV×Hp)) (f:AV) (args:List AV):M AV:=
 (M.lift (callee f)).bind fun q=>
 (M.mapL (fz1 true) (args++q.2)).bind fun U=>M.lift ((call q.1 U []).bind shut)
def backAll:List Nat->Nat->Hp->M Unit
 |[],_,_=>.ret ()
 |id::r,i,h=>(M.lift (get h i)).bind fun o=>(M.ok (match o with | .cells _=>false | .map _=>false | _=>true)).bind fun _=>(M.write id o).bind fun _=>backAll r (i+1) h
def lentR (ids:List Nat) (p:AV×Hp):Option AV:=
 match p.1 with
 |.own i o n v=>(ids[i]?).map fun id=>.own id o n v
 |r=>if flat r then some r else none
def nodupB:List Nat->Bool
 |[]=>true
 |x::r=>!r.contains x&&nodupB r
def withPlaces {α:Type}:List α->Nat->List (Nat×α)
 |[],_=>[]
 |x::r,i=>(i,x)::withPlaces r (i+1)
def lcallM (call:Nat->List AV->Hp->Option (AV×Hp)) (f:AV) (args:List AV):M AV:=
 (M.lift (callee f)).bind fun q=>
 let ids:=dedup ((args++q.2).flatMap idsOf) []
 (M.ok (nodupB ids&&Nat.ble ids.length 1000)).bind fun _=>
 (M.mapL (lendA ids) (args++q.2)).bind fun U=>
 (M.mapL (fun id=>(M.look id).bind fun o=>(M.ok (lentOk o)).bind fun _=>.ret o) ids).bind fun os=>
 (M.lift (call q.1 U (withPlaces os 0))).bind fun p=>
 (M.lift (lentR ids p)).bind fun r=>(backAll ids 0 p.2).bind fun _=>.ret r
def takeR (slot:Nat) (p:AV×Hp):M AV:=
 match p.1 with
 |.own i o n v=>(M.lift (get p.2 i)).bind fun
  |.buf v' e es=>(M.ok (v'==v&&o==0)).bind fun _=>(M.fresh slot).bind fun _=>(M.write slot (.buf 0 e es)).bind fun _=>.ret (.own slot 0 n 0)
  |_=>.fail
 |_=>.fail
def ocallM (call:Nat->List AV->Hp->Option (AV×Hp)) (slot:Nat) (f:AV) (args:List AV):M AV:=
 (M.lift (callee f)).bind fun q=>
 (M.mapL (fz1 true) (args++q.2)).bind fun U=>(M.lift (call q.1 U [])).bind fun p=>takeR slot p
def keyOk (qs:List Nat):AV->Bool
 |.agg xs=>xs.length==qs.length&&qs.length != 1
 |.iv _=>qs.length==1
 |_=>false
def eqk (qs:List Nat):AV->AV->Option Bool
 |.agg xs,.agg ys=>if qs.length=1 then none else eqs qs xs ys
 |.iv x,.iv y=>if qs.length=1 then eqs qs [.iv x] [.iv y] else none
 |_,_=>none
def mfind (qs:List Nat) (k:AV):List (AV×AV)->Nat->Option (Option (Nat×AV))
 |[],_=>some none
 |p::r,i=>match eqk qs k p.1 with
  |some true=>some (some (i,p.2))
  |some false=>mfind qs k r (i+1)
  |none=>none
def lookMap:AV->M (Nat×List (AV×AV))
 |.ref id 0 0 0=>(M.look id).bind fun
  |.map kvs=>.ret (id,kvs)
  |_=>.fail
 |_=>.fail
def mget (ok agg:Bool) (qs:List Nat) (z:List IV) (m k:AV):M AV:=
 (M.ok (keyOk qs k)).bind fun _=>(lookMap m).bind fun x=>(M.lift (mfind qs k x.2 0)).bind fun
  |some p=>.ret (if ok then .tup [p.2,.iv (.bool true)] else p.2)
  |none=>(mk agg (z.map .iv)).bind fun v=>.ret (if ok then .tup [v,.iv (.bool false)] else v)
def mput (qs:List Nat) (m k v:AV):M AV:=
 (M.ok (keyOk qs k)).bind fun _=>(lookMap m).bind fun x=>(M.lift (mfind qs k x.2 0)).bind fun
  |some p=>(M.write x.1 (.map (x.2.set p.1 (k,v)))).bind fun _=>.ret (.tup [])
  |none=>(M.write x.1 (.map (x.2++[(k,v)]))).bind fun _=>.ret (.tup [])
def mdel (qs:List Nat) (m k:AV):M AV:=
 (M.ok (keyOk qs k)).bind fun _=>(lookMap m).bind fun x=>(M.lift (mfind qs k x.2 0)).bind fun
  |some p=>(M.write x.1 (.map (x.2.eraseIdx p.1))).bind fun _=>.ret (.tup [])
  |none=>(M.write x.1 (.map x.2)).bind fun _=>.ret (.tup [])
def bytesOf:List (List IV)->Option (List Int)
 |[]=>some []
 |[.int .u8 n]::r=>(bytesOf r).map (n::·)
 |_=>none
def strB (xs:List Int):ByteArray:=⟨(xs.map fun n=>UInt8.ofNat n.toNat).toArray⟩
def osem (call:Nat->List AV->Hp->Option (AV×Hp)) (slot:Nat) (ρ:Opd->AV):IOp->M AV
 |.mov x=>.ret (ρ x)
 |.nil0 e=>(M.fresh slot).bind fun _=>(M.write slot (.buf 0 e [])).bind fun _=>.ret (.own slot 0 0 0)
 |.pick c a b=>match ρ c with
  |.iv (.bool t)=>.ret (if t then ρ a else ρ b)
  |_=>.fail
 |.alloc z=>(M.fresh slot).bind fun _=>(nilc (slot+1) (z.map .iv)).bind fun l=>(M.write slot (.cells l)).bind fun _=>.ret (.ref slot 0 0 0)
 |.box x=>(cellsM (ρ x)).bind fun xs=>(M.fresh slot).bind fun _=>(nilc (slot+1) xs).bind fun l=>(M.write slot (.cells l)).bind fun _=>.ret (.ref slot 0 0 0)
 |.build z ps=>(M.mapL (fun p=>(cellsM (ρ p.2.2)).bind fun l=>(M.ok (l.length==p.2.1&&Nat.ble (p.1+p.2.1) z.length)).bind fun _=>.ret (p.1,l)) ps).bind fun l=>.ret (.agg (putAll (z.map .iv) l))
 |.bsl e z n ps=>(M.ok (z.length==e)).bind fun _=>
   (M.mapL (fun p=>(cellsM (ρ p.2)).bind fun xs=>(M.ok (xs.length==e&&Nat.blt p.1 n)).bind fun _=>(M.mapL (fz true 8) xs).bind fun l=>.ret (p.1,l)) ps).bind fun l=>
   (M.fresh slot).bind fun _=>(M.write slot (.buf 0 e (setAll (List.replicate n z) l))).bind fun _=>.ret (.own slot 0 n 0)
 |.load agg sz a=>load agg sz (ρ a)
 |.store sz a x=>store slot sz (ρ a) (ρ x)
 |.fadr off x=>fadr off (ρ x)
 |.fld agg off sz x=>fld agg off sz (ρ x)
 |.iarr len e x i=>iarr len e (ρ x) (ρ i)
 |.isl e x i=>isl e (ρ x) (ρ i)
 |.xarr agg len e x i=>xarr agg len e (ρ x) (ρ i)
 |.xstr x i=>xstr (ρ x) (ρ i)
 |.bin op q x y=>(M.lift (bin op q (ρ x) (ρ y))).bind fun v=>.ret (.iv v)
 |.eqc neg qs x y=>match ρ x,ρ y with
  |.agg xs,.agg ys=>(M.lift (eqs qs xs ys)).bind fun b=>.ret (.iv (.bool (if neg then !b else b)))
  |_,_=>.fail
 |.un op x=>(M.lift (un op (ρ x))).bind fun v=>.ret (.iv v)
 |.cvi k x=>(idx (ρ x)).bind fun n=>.ret (.iv (.int k (k.wrap n)))
 |.cvs x=>match ρ x with
  |.iv (.str s)=>.ret (.iv (.str s))
  |_=>.fail
 |.slc e x lo hi=>slc e (ρ x) (lo.map ρ) (hi.map ρ)
 |.slcs x lo hi=>slcs (ρ x) (lo.map ρ) (hi.map ρ)
 |.slz e x=>slz e (ρ x)
 |.clr e z x=>clr e z (ρ x)
 |.len str x=>len str (ρ x)
 |.app e x y=>app e slot (ρ x) (ρ y)
 |.mn x ys=>match ρ x with
  |.iv (.int k a)=>(M.lift (mnI a (ys.map ρ) k)).bind fun n=>.ret (.iv (.int k n))
  |_=>.fail
 |.mx x ys=>match ρ x with
  |.iv (.int k a)=>(M.lift (mxI a (ys.map ρ) k)).bind fun n=>.ret (.iv (.int k n))
  |_=>.fail
 |.ext x i=>match ρ x with
  |.tup vs=>M.lift vs[i]?
  |_=>.fail
 |.nchk x=>match ρ x with
  |.ref id ver i j=>(M.look id).bind fun o=>(M.ok (valid o ver i)).bind fun _=>.ret (.ref id ver i j)
  |.iv (.ptr cs)=>.ret (.iv (.ptr cs))
  |.iv (.fn f cs)=>.ret (.iv (.fn f cs))
  |.clo f cs=>.ret (.clo f cs)
  |_=>.fail
 |.mkf f caps=>.ret (.clo f (caps.map ρ))
 |.call mode f args=>match mode with
  |0=>callM call (ρ f) (args.map ρ)
  |1=>lcallM call (ρ f) (args.map ρ)
  |2=>ocallM call slot (ρ f) (args.map ρ)
  |4=>.fail
  |_=>fcallM call (ρ f) (args.map ρ)
 |.cvb x=>(elems 1 (ρ x)).bind fun ys=>(M.lift (bytesOf ys)).bind fun b=>.ret (.iv (.str (strB b)))
 |.mmk=>(M.fresh slot).bind fun _=>(M.write slot (.map [])).bind fun _=>.ret (.ref slot 0 0 0)
 |.mget ok agg qs z m k=>mget ok agg qs z (ρ m) (ρ k)
 |.mput qs m k v=>mput qs (ρ m) (ρ k) (ρ v)
 |.mdel qs m k=>mdel qs (ρ m) (ρ k)
 |.mlen m=>(lookMap (ρ m)).bind fun x=>.ret (.iv (.int .i64 x.2.length))
def wants (fr:Fr):Option (Nat×Bool)->Option Bool
 |none=>some true
 |some (t,b)=>match get fr t with
  |some (.iv (.bool c))=>some (c==b)
  |some (.tup [])=>some false
  |_=>none
def putD (fr:Fr) (d:Option Nat) (v:AV):Fr:=match d with
 |some d=>set fr d v
 |none=>fr
def step (call:Nat->List AV->Hp->Option (AV×Hp)) (slot:Nat) (o:IOper) (s:St):Option St:=
 match wants s.fr o.gd with
 |some true=>match(osem call slot (ev s.fr) o.op).run s.hp with
  |some (v,h)=>some { s with fr:=putD s.fr o.dst v,hp:=h }
  |none=>none
 |some false=>some { s with fr:=putD s.fr o.dst (.tup []) }
 |none=>none
def footOf (call:Nat->List AV->Hp->Option (AV×Hp)) (slot:Nat) (o:IOper) (s:St):List Nat×List Nat:=
 match wants s.fr o.gd with
 |some true=>(osem call slot (ev s.fr) o.op).foot s.hp
 |_=>([],[])
def evalOps (call:Nat->List AV->Hp->Option (AV×Hp)):List IOper->Nat->St->Option St
 |[],_,s=>some s
 |o::r,slot,s=>match step call slot o s with
  |some s'=>evalOps call r (slot+64) s'
  |none=>none
def evalFeet (call:Nat->List AV->Hp->Option (AV×Hp)):List IOper->Nat->St->List (List Nat×List Nat)
 |[],_,_=>[]
 |o::r,slot,s=>footOf call slot o s::match step call slot o s with
  |some s'=>evalFeet call r (slot+64) s'
  |none=>[]
def meets (a b:List Nat):Bool:=a.any b.contains
def clash (x y:List Nat×List Nat):Bool:=meets x.2 (y.1++y.2)||meets y.2 (x.1++x.2)
def apart1 (x:List Nat×List Nat) (i:Nat):List (List Nat×List Nat)->List (List Nat)->Bool
 |y::ys,c::cs=>(!clash x y||c.contains i)&&apart1 x i ys cs
 |_,_=>true
def apartAll:List (List Nat×List Nat)->Nat->List (List Nat)->Bool
 |x::xs,i,_::cs=>apart1 x i xs cs&&apartAll xs (i+1) cs
 |_,_,_=>true
def orderOk (ops:List IOper) (feet:List (List Nat×List Nat)):Bool:=feet.all (·.2.isEmpty)||apartAll feet 0 (ops.map (·.aft))
def keepFr:List Nat->Fr->Fr
 |[],_=>[]
 |t::r,fr=>match get fr t with
  |some x=>(t,x)::keepFr r fr
  |none=>keepFr r fr
def evalRgn (call:Nat->List AV->Hp->Option (AV×Hp)) (draw:Bool) (ops:List IOper) (keep:List Nat) (s:St):Option St:=
 match evalOps call ops s.nx s with
 |some s'=>if !draw||orderOk ops (evalFeet call ops s.nx s) then some { fr:=keepFr keep s'.fr,hp:=s'.hp,nx:=s.nx+64*ops.length } else none
 |none=>none
inductive Ex where
 |norm
 |exit (id:Nat)
 |ret
def nrm (n0:Nat) (h:Hp):Nat->AV->AV
 |0,_=>.undef
 |d+1,a=>match a with
  |.iv x=>.iv x
  |.undef=>.undef
  |.agg cs=>.agg (cs.map (nrm n0 h d))
  |.tup vs=>.tup (vs.map (nrm n0 h d))
  |.own id o n ver=>if id<1000 then .own id o n ver else if id<n0 then(match get h id with
   |some (.buf v _ _) | some (.imm v _ _)=>if v=ver then .own id o n 0 else .undef
   |_=>.undef) else .undef
  |.ref id ver i j=>if id<1000 then .ref id ver i j else if id<n0 then(match get h id with
   |some (.buf v _ _) | some (.imm v _ _)=>if v=ver then .ref id 0 i j else .undef
   |some (.cells _) | some (.map _)=>.ref id ver i j
   |none=>.undef) else .undef
  |.clo f caps=>.clo f (caps.map (nrm n0 h d))
def nrmO (n0:Nat) (h:Hp) (id:Nat):Ob->Ob
 |.cells cs=>.cells (cs.map (nrm n0 h 8))
 |.buf v e es=>.buf (if id<1000 then v else 0) e es
 |.imm v e es=>.imm (if id<1000 then v else 0) e es
 |.map kvs=>.map (kvs.map fun p=>(nrm n0 h 8 p.1,nrm n0 h 8 p.2))
def again (keep:List Nat) (n0:Nat) (s:St):St:=
 { fr:=(keepFr keep s.fr).map fun p=>(p.1,nrm n0 s.hp 8 p.2),hp:=(s.hp.filter fun p=>decide (p.1<1000)||decide (p.1<n0)).map fun p=>(p.1,nrmO n0 s.hp p.1 p.2),nx:=n0 }
def iter (f:St->Option (Ex×St)) (keep:List Nat) (n0:Nat):Nat->St->Option (Ex×St)
 |0,_=>none
 |m+1,s=>match f s with
  |some (.norm,s')=>iter f keep n0 m (again keep n0 s')
  |r=>r
def evalC (call:Nat->List AV->Hp->Option (AV×Hp)) (n:Nat):IC->St->Option (Ex×St)
 |.skip,s=>some (.norm,s)
 |.rgn draw ops keep,s=>(evalRgn call draw ops keep s).map fun s'=>(.norm,s')
 |.seq a b,s=>match evalC call n a s with
  |some (.norm,s')=>evalC call n b s'
  |r=>r
 |.cond c a b,s=>match ev s.fr c with
  |.iv (.bool t)=>if t then evalC call n a s else evalC call n b s
  |_=>none
 |.block id b,s=>match evalC call n b s with
  |some (.exit i,s')=>if i=id then some (.norm,s') else some (.exit i,s')
  |r=>r
 |.loop keep b,s=>iter (evalC call n b) keep s.nx n { s with fr:=keepFr keep s.fr }
 |.exit id,s=>some (.exit id,s)
 |.ret,s=>some (.ret,s)
def outA:AV->M AV
 |.own id o n v=>(M.look id).bind fun
  |.buf v' _ _=>(M.ok (v'==v)).bind fun _=>.ret (.own id o n v)
  |.imm v' e es=>(M.ok (v'==v)).bind fun _=>.ret (.iv (.sl e ((es.drop o).take n)))
  |.cells _=>.fail
  |.map _=>.fail
 |a=>fz1 true a
def resM (fr:Fr):IRes->M AV
 |.t n=>outA (ev fr (.t n))
 |.cell n agg sz=>(load agg sz (ev fr (.t n))).bind outA
 |.keep n=>.ret (ev fr (.t n))
 |.kcell n agg sz=>load agg sz (ev fr (.t n))
def resAll (fr:Fr):List IRes->M AV
 |[r]=>resM fr r
 |rs=>(M.mapL (resM fr) rs).bind fun l=>.ret (.tup l)
def params:List AV->Nat->Fr
 |[],_=>[]
 |a::r,i=>(i,a)::params r (i+1)
def cloneM (e:Nat):List AV->M AV
 |[.iv (.sl e' es)]=>(M.ok (e'==e&&roomy es.length)).bind fun _=>(M.fresh 1000).bind fun _=>(M.write 1000 (.buf 0 e [])).bind fun _=>(M.write 1000 (.buf 1 e es)).bind fun _=>.ret (.own 1000 0 es.length 1)
 |_=>.fail
def rowR:List IV->Option (Int×Int)
 |[.int .i64 a,.int .i64 b]=>some (a,b)
 |_=>none
def rowT:List IV->Option ByteArray
 |[.str s]=>some s
 |_=>none
def allSome {α β:Type} (f:α->Option β):List α->Option (List β)
 |[]=>some []
 |x::l=>match f x,allSome f l with
  |some y,some r=>some (y::r)
  |_,_=>none
def unR (p:Int×Int):List IV:=[.int .i64 p.1,.int .i64 p.2]
def unT (s:ByteArray):List IV:=[.str s]
def ltLo (x y:Int×Int):Bool:=decide (x.1<y.1)
def sortR (l:List (Int×Int)):List (Int×Int):=(Sort.pdq ltLo l.toArray 0 l.length (Lib.bitLen l.length) true true).toList
def sortT (l:List ByteArray):List ByteArray:=((l.map (·.data.toList)).mergeSort fun x y=>decide (x<=y)).map fun b=>⟨b.toArray⟩
def many (n m:Nat):Bool:=n==m&&Nat.blt 12 n&&roomy n
def sortM (q:Nat) (args:List AV) (hp:Hp):Option (AV×Hp):=
 match args with
 |[.own id 0 n ver]=>match get hp id with
  |some (.buf v e es)=>if q==1000000&&v==ver&&e==1&&many n es.length then match allSome rowT es with
   |some l=>some (.tup [],set hp id (.buf v 1 ((sortT l).map unT)))
   |none=>none
   else none
  |_=>none
 |[.own id 0 n ver,.iv (.fn c [])]=>match get hp id with
  |some (.buf v e es)=>if q==2000000+c&&v==ver&&e==2&&many n es.length then match allSome rowR es with
   |some l=>some (.tup [],set hp id (.buf v 2 ((sortR l).map unR)))
   |none=>none
   else none
  |_=>none
 |_=>none
def evalF (prog:Nat->Option IFn):Nat->Nat->List AV->Hp->Option (AV×Hp)
 |0,_,_,_=>none
 |k+1,g,args,hp=>match prog g with
  |none=>none
  |some fn=>match fn.cl with
   |some p=>if Nat.blt p.1 1000000 then(cloneM p.1 args).run hp else match sortM p.1 args hp with
    |some r=>some r
    |none=>if args.length=fn.np then
     match evalC (evalF prog k) k fn.body ⟨params args 0,hp,1000⟩with
     |some (.norm,s) | some (.ret,s)=>(resAll s.fr fn.res).run s.hp
     |_=>none
    else none
   |none=>if args.length=fn.np then
    match evalC (evalF prog k) k fn.body ⟨params args 0,hp,1000⟩with
    |some (.norm,s) | some (.ret,s)=>(resAll s.fr fn.res).run s.hp
    |_=>none
   else none
end Arb
namespace Arb
open Go Go.RowKit
theorem get_set {α:Type} (h:List (Nat×α)) (n m:Nat) (x:α):get (set h n x) m=if n=m then some x else get h m:=by
 induction h with
 |nil=>simp[set,get]
 |cons y r ih=>
  simp only[set];by_cases hy:y.1=n
  ·rw[if_pos hy];simp only[get];by_cases hm:n=m
   ·simp[hm]
   ·rw[if_neg hm,if_neg hm,if_neg (by omega)]
  ·rw[if_neg hy];simp only[get,ih];by_cases hm:y.1=m
   ·rw[if_pos hm,if_pos hm,if_neg (by omega)]
   ·rw[if_neg hm,if_neg hm]
theorem get_set_same {α:Type} (h:List (Nat×α)) (n:Nat) (x:α):get (set h n x) n=some x:=by simp[get_set]
theorem get_set_ne {α:Type} (h:List (Nat×α)) {n m:Nat} (x:α) (hne:n≠m):get (set h n x) m=get h m:=by simp[get_set,hne]
inductive RI (ν:Nat->Nat) (I:Nat->Prop) (w:World):Value->IV->Prop
 |bool (b:Bool):RI ν I w (.bool b) (.bool b)
 |int (k:IntKind) (n:Int):RI ν I w (.int k n) (.int k n)
 |str (s:ByteArray):RI ν I w (.string s) (.str s)
 |nsl (a:Option Addr) (e:Nat):RI ν I w (.slice a 0 0) (.nsl e)
 |sl0 (a:Option Addr) (cap e:Nat):RI ν I w (.slice a 0 cap) (.sl e [])
 |sl (b off n cap e:Nat) (es:List (List IV)) (f:Nat->Nat->Value) (hI:I b) (hn:n=es.length) (hcap:n<=cap) (hl:∀c ∈ es,c.length=e)
   (hc:∀(i j:Nat) (c:List IV) (x:IV),es[i]?=some c->c[j]?=some x->w.cell? ⟨b,off+i*e+j,none⟩=some (f i j))
   (hr:∀(i j:Nat) (c:List IV) (x:IV),es[i]?=some c->c[j]?=some x->RI ν I w (f i j) x):RI ν I w (.slice (some ⟨b,off,none⟩) n cap) (.sl e es)
 |nilp:RI ν I w (.pointer none) .nilp
 |ptr (b off:Nat) (cs:List IV) (f:Nat->Value) (hI:I b) (hc:∀(j:Nat) (x:IV),cs[j]?=some x->w.cell? ⟨b,off+j,none⟩=some (f j))
   (hr:∀(j:Nat) (x:IV),cs[j]?=some x->RI ν I w (f j) x):RI ν I w (.pointer (some ⟨b,off,none⟩)) (.ptr cs)
 |fn (f:Nat) (caps:Array Value) (cs:List IV) (hn:caps.size=cs.length) (hr:∀(j:Nat) (v:Value) (x:IV),caps[j]?=some v->cs[j]?=some x->RI ν I w v x) :
   RI ν I w (.func (.func (ν f)) #[] caps) (.fn f cs)
 |junk (v:Value) (h:v.oneCell'=true):RI ν I w v .junk
theorem RI.mono {ν:Nat->Nat} {I I':Nat->Prop} {w w':World} (hI:∀b,I b->I' b) (hw:∀b off v,I b->w.cell? ⟨b,off,none⟩=some v->w'.cell? ⟨b,off,none⟩=some v)
  {v:Value} {x:IV} (h:RI ν I w v x):RI ν I' w' v x:=by
 induction h with
 |bool b=>exact .bool b
 |int k n=>exact .int k n
 |str s=>exact .str s
 |nsl a e=>exact .nsl a e
 |sl0 a cap e=>exact .sl0 a cap e
 |sl b off n cap e es f hb hn hcap hl hc hr ih=>exact .sl b off n cap e es f (hI b hb) hn hcap hl (fun i j c x h1 h2=>hw _ _ _ hb (hc i j c x h1 h2)) ih
 |nilp=>exact .nilp
 |ptr b off cs f hb hc hr ih=>exact .ptr b off cs f (hI b hb) (fun j x h1=>hw _ _ _ hb (hc j x h1)) ih
 |fn f caps cs hn hr ih=>exact .fn f caps cs hn ih
 |junk v h=>exact .junk v h
theorem RI.one {ν:Nat->Nat} {I:Nat->Prop} {w:World} {v:Value} {x:IV} (h:RI ν I w v x):v.oneCell'=true:=by cases h<;>first | rfl | assumption
structure Gh where
 I:Nat->Prop
 φ:Nat->Option Nat
 w:World
 h:Hp
def SlAt (w:World) (p:Option Nat) (e:Nat) (es:List (List IV)) (o n:Nat) (v:Value):Prop:=
 match p with
 |none=>(∃a,v = .slice a 0 0)/\n=0
 |some b=>∃x cap,v = .slice (some ⟨b,x,none⟩) n cap/\o+n<=es.length/\n<=cap/\(x=o*e\/n=0/\o≠0)/\(x=o*e->∀c,c<(o+cap)*e->(w.cell? ⟨b,c,none⟩).isSome=true)
def OwnAt (g:Gh) (v:Value) (id o n ver:Nat):Prop:=
 match get g.h id with
 |some (.buf v' e es) | some (.imm v' e es)=>ver<=v'/\(v'=ver->SlAt g.w (g.φ id) e es o n v)
 |_=>False
def RefAt (g:Gh) (v:Value) (id ver i j:Nat):Prop:=
 match get g.h id with
 |some (.cells _)=>ver=0/\i=0/\∃b,g.φ id=some b/\v = .pointer (some ⟨b,j,none⟩)
 |some (.buf v' e _) | some (.imm v' e _)=>ver<=v'/\(v'=ver->∃b,g.φ id=some b/\v = .pointer (some ⟨b,i*e+j,none⟩))
 |some (.map _)=>ver=0/\i=0/\j=0/\∃b,g.φ id=some b/\v = .map (some b)
 |none=>False
inductive RA (ν:Nat->Nat) (g:Gh):Value->AV->Prop
 |undef (v:Value):RA ν g v .undef
 |iv {v:Value} {x:IV} (h:RI ν g.I g.w v x):RA ν g v (.iv x)
 |agg {vs:Array Value} {cs:List AV} (hn:vs.size=cs.length) (h1:∀(j:Nat) (v:Value),vs[j]?=some v->v.oneCell'=true)
   (hr:∀(j:Nat) (v:Value) (c:AV),vs[j]?=some v->cs[j]?=some c->RA ν g v c):RA ν g (.agg vs) (.agg cs)
 |tup {vs:Array Value} {cs:List AV} (hn:vs.size=cs.length) (hr:∀(j:Nat) (v:Value) (c:AV),vs[j]?=some v->cs[j]?=some c->RA ν g v c):RA ν g (.tuple vs) (.tup cs)
 |own {v:Value} {id o n ver:Nat} (h1:v.oneCell'=true) (h:OwnAt g v id o n ver):RA ν g v (.own id o n ver)
 |ref {v:Value} {id ver i j:Nat} (h1:v.oneCell'=true) (h:RefAt g v id ver i j):RA ν g v (.ref id ver i j)
 |clo {f:Nat} {caps:Array Value} {cs:List AV} (hn:caps.size=cs.length) (hr:∀(j:Nat) (v:Value) (c:AV),caps[j]?=some v->cs[j]?=some c->RA ν g v c) :
   RA ν g (.func (.func (ν f)) #[] caps) (.clo f cs)
theorem RA.mono {ν:Nat->Nat} {g g':Gh} (hI:∀v x,RI ν g.I g.w v x->RI ν g'.I g'.w v x) (ho:∀v id o n ver,OwnAt g v id o n ver->OwnAt g' v id o n ver)
  (hr:∀v id ver i j,RefAt g v id ver i j->RefAt g' v id ver i j) {v:Value} {x:AV} (h:RA ν g v x):RA ν g' v x:=by
 induction h with
 |undef v=>exact .undef v
 |iv h=>exact .iv (hI _ _ h)
 |agg hn h1 _ ih=>exact .agg hn h1 ih
 |tup hn _ ih=>exact .tup hn ih
 |own h1 h=>exact .own h1 (ho _ _ _ _ _ h)
 |ref h1 h=>exact .ref h1 (hr _ _ _ _ _ h)
 |clo hn _ ih=>exact .clo hn ih
def Row (ν:Nat->Nat) (I:Nat->Prop) (w:World) (b e:Nat) (es:List (List IV)):Prop:=
 (∀c ∈ es,c.length=e)/\∀(i j:Nat) (c:List IV) (x:IV),es[i]?=some c->c[j]?=some x->∃v,w.cell? ⟨b,i*e+j,none⟩=some v/\RI ν I w v x
def Soft (w:World) (b:Nat):Prop:=b<w.heap.size/\∀o,w.frozen? ⟨b,o,none⟩=false
def ObAt (ν:Nat->Nat) (g:Gh) (id:Nat):Ob->Prop
 |.cells cs=>∃b,g.φ id=some b/\¬g.I b/\Soft g.w b/\∀(j:Nat) (c:AV),cs[j]?=some c->∃v,g.w.cell? ⟨b,j,none⟩=some v/\v.oneCell'=true/\RA ν g v c
 |.buf _ e es=>(g.φ id=none/\es=[])\/∃b,g.φ id=some b/\¬g.I b/\Soft g.w b/\Row ν g.I g.w b e es
 |.imm _ e es=>(g.φ id=none/\es=[])\/∃b,g.φ id=some b/\g.I b/\Row ν g.I g.w b e es
 |.map kvs=>∃b es clock,g.φ id=some b/\¬g.I b/\b<g.w.heap.size/\g.w.heap[b]?=some (.map es clock)/\es.size=kvs.length/\
   ∀(j:Nat) (e:MapEntry) (p:AV×AV),es[j]?=some e->kvs[j]?=some p->RA ν g e.key p.1/\RA ν g e.val p.2
structure Cx where
 w:World
 I:Nat->Prop
 L:Nat->Prop
structure Rel (ν:Nat->Nat) (k:Cx) (g:Gh):Prop where
 ob:∀id o,get g.h id=some o->ObAt ν g id o
 inj:∀id id' o o' b,get g.h id=some o->get g.h id'=some o'->g.φ id=some b->g.φ id'=some b->id=id'
 small:∀b,g.I b->b<g.w.heap.size
 i0:∀b,k.I b->g.I b
 i1:∀b,g.I b->k.I b\/k.L b\/k.w.heap.size<=b
 own:∀id o b,get g.h id=some o->g.φ id=some b->k.L b\/k.w.heap.size<=b
 size:k.w.heap.size<=g.w.heap.size
 os:g.w.os=k.w.os
 tape:g.w.tape=k.w.tape
 output:g.w.output=k.w.output
 old:∀b,b<k.w.heap.size->(¬k.L b\/k.I b)->g.w.heap[b]?=k.w.heap[b]?
def Mono (ν:Nat->Nat) (g g':Gh):Prop:=∀v x,RA ν g v x->RA ν g' v x
theorem Mono.refl (ν:Nat->Nat) (g:Gh):Mono ν g g:=fun _ _ h=>h
theorem Mono.trans {ν:Nat->Nat} {a b c:Gh} (h:Mono ν a b) (k:Mono ν b c):Mono ν a c:=fun v x hx=>k v x (h v x hx)
theorem ObAt.block {ν:Nat->Nat} {g:Gh} {id:Nat} {o:Ob} (h:ObAt ν g id o) {b:Nat} (hb:g.φ id=some b) (hs:∀b,g.I b->b<g.w.heap.size):b<g.w.heap.size:=by
 cases o with
 |cells cs=>obtain⟨b',h1,_,h3,_⟩:=h;rw[hb]at h1;cases h1;exact h3.1
 |buf v e es=>
  rcases h with⟨h1,_⟩|⟨b',h1,_,h3,_⟩
  ·rw[hb]at h1;cases h1
  ·rw[hb]at h1;cases h1;exact h3.1
 |imm v e es=>
  rcases h with⟨h1,_⟩|⟨b',h1,h2,_⟩
  ·rw[hb]at h1;cases h1
  ·rw[hb]at h1;cases h1;exact hs _ h2
 |map kvs=>obtain⟨b',_,_,h1,_,h3,_⟩:=h;rw[hb]at h1;cases h1;exact h3
theorem Row.mono {ν:Nat->Nat} {I I':Nat->Prop} {w w':World} {b e:Nat} {es:List (List IV)} (h:Row ν I w b e es) (hR:∀v x,RI ν I w v x->RI ν I' w' v x)
  (hb:∀off v,w.cell? ⟨b,off,none⟩=some v->w'.cell? ⟨b,off,none⟩=some v):Row ν I' w' b e es:=
 ⟨h.1,fun i j c x h1 h2=>let⟨v,hc,hr⟩:=h.2 i j c x h1 h2;⟨v,hb _ _ hc,hR _ _ hr⟩⟩
theorem cell_of_same {w w':World} {b:Nat} (h:w'.heap[b]?=w.heap[b]?) (off:Nat):w'.cell? ⟨b,off,none⟩=w.cell? ⟨b,off,none⟩:=by simp[World.cell?,h]
theorem frozen_of_same {w w':World} {b:Nat} (h:w'.heap[b]?=w.heap[b]?) (off:Nat):w'.frozen? ⟨b,off,none⟩=w.frozen? ⟨b,off,none⟩:=by simp[World.frozen?,h]
theorem Rel.world {ν:Nat->Nat} {k:Cx} {g:Gh} (r:Rel ν k g) {w':World} {I':Nat->Prop} (hI:∀b,g.I b->I' b) (hI':∀b,I' b->g.I b\/g.w.heap.size<=b/\b<w'.heap.size)
  (hs:g.w.heap.size<=w'.heap.size) (h1:w'.os=g.w.os) (h2:w'.tape=g.w.tape) (h3:w'.output=g.w.output) (hb:∀b,b<g.w.heap.size->w'.heap[b]?=g.w.heap[b]?) :
  Rel ν k { g with I:=I',w:=w' }/\Mono ν g { g with I:=I',w:=w' }:=by
 have hRI:∀v x,RI ν g.I g.w v x->RI ν I' w' v x:=fun v x h=>h.mono hI fun b off v hi hc=>by rw[cell_of_same (hb b (r.small b hi))];exact hc
 have hblk:∀id o b,get g.h id=some o->g.φ id=some b->b<g.w.heap.size:=fun id o b ho hφ=>(r.ob id o ho).block hφ r.small
 have hm:Mono ν g { g with I:=I',w:=w' }:=by
  intro v x hx;refine hx.mono hRI ?_ ?_
  ·intro v id o n ver ho;unfold OwnAt at ho ⊢;have key:∀ob e es,get g.h id=some ob->SlAt g.w (g.φ id) e es o n v->SlAt w' (g.φ id) e es o n v:=by
    intro ob e es hob hsl;cases hp:g.φ id with
    |none=>rw[hp]at hsl;exact hsl
    |some b=>
     rw[hp]at hsl;obtain⟨x,cap,e1,e2,e3,e4,e5⟩:=hsl;exact⟨x,cap,e1,e2,e3,e4,fun hx c hc=>by rw[cell_of_same (hb b (hblk id _ b hob hp))];exact e5 hx c hc⟩
   cases hg:get g.h id with
   |none=>rw[hg]at ho;exact ho.elim
   |some ob=>
    rw[hg]at ho;simp only[];cases ob with
    |cells cs=>exact ho.elim
    |buf v' e es=>exact⟨ho.1,fun hv=>key _ e es hg (ho.2 hv)⟩
    |imm v' e es=>exact⟨ho.1,fun hv=>key _ e es hg (ho.2 hv)⟩
    |map kvs=>exact ho.elim
  ·intro v id ver i j hr;exact hr
 refine⟨⟨?_,r.inj,?_,fun b h=>hI b (r.i0 b h),?_,r.own,Nat.le_trans r.size hs,h1.trans r.os,h2.trans r.tape,h3.trans r.output,fun b h hl=>(hb b (Nat.lt_of_lt_of_le h r.size)).trans (r.old b h hl)⟩,hm⟩
 ·intro id o ho;have hblk':=hblk id o;have old:=r.ob id o ho;cases o with
  |cells cs=>
   obtain⟨b,e1,e2,e3,e4⟩:=old;refine⟨b,e1,fun hi=>?_,⟨Nat.lt_of_lt_of_le e3.1 hs,fun o=>by rw[frozen_of_same (hb b e3.1)];exact e3.2 o⟩,fun j c hc=>?_⟩
   ·rcases hI' b hi with h | h
    ·exact e2 h
    ·have:=e3.1;omega
   ·obtain⟨v,c1,c2,c3⟩:=e4 j c hc;exact⟨v,by rw[cell_of_same (hb b e3.1)];exact c1,c2,hm _ _ c3⟩
  |buf v e es=>
   rcases old with h | ⟨b,e1,e2,e3,e4⟩
   ·exact .inl h
   ·refine .inr ⟨b,e1,fun hi=>?_,⟨Nat.lt_of_lt_of_le e3.1 hs,fun o=>by rw[frozen_of_same (hb b e3.1)];exact e3.2 o⟩,e4.mono hRI fun off v hc=>by rw[cell_of_same (hb b e3.1)];exact hc⟩;rcases hI' b hi with h | h
    ·exact e2 h
    ·have:=e3.1;omega
  |imm v e es=>
   rcases old with h | ⟨b,e1,e2,e4⟩
   ·exact .inl h
   ·exact .inr ⟨b,e1,hI b e2,e4.mono hRI fun off v hc=>by rw[cell_of_same (hb b (r.small b e2))];exact hc⟩
  |map kvs=>
   obtain⟨b,es,clock,e1,e2,e3,e4,e5,e6⟩:=old;refine⟨b,es,clock,e1,fun hi=>?_,Nat.lt_of_lt_of_le e3 hs,(hb b e3).trans e4,e5,fun j e p h1 h2=>?_⟩
   ·rcases hI' b hi with h | h
    ·exact e2 h
    ·omega
   ·obtain⟨c1,c2⟩:=e6 j e p h1 h2;exact⟨hm _ _ c1,hm _ _ c2⟩
 ·intro b hi;rcases hI' b hi with h | h
  ·exact Nat.lt_of_lt_of_le (r.small b h) hs
  ·exact h.2
 ·intro b hi;rcases hI' b hi with h | h
  ·exact r.i1 b h
  ·exact .inr (.inr (Nat.le_trans r.size h.1))
def updφ (φ:Nat->Option Nat) (s:Nat) (p:Option Nat):Nat->Option Nat:=fun i=>if i=s then p else φ i
theorem updφ_same (φ:Nat->Option Nat) (s:Nat) (p:Option Nat):updφ φ s p s=p:=by simp[updφ]
theorem updφ_ne (φ:Nat->Option Nat) {s i:Nat} (p:Option Nat) (h:i≠s):updφ φ s p i=φ i:=by simp[updφ,h]
theorem SlAt.same {w w':World} {p:Option Nat} {e:Nat} {es:List (List IV)} {o n:Nat} {v:Value} (h:SlAt w p e es o n v)
  (hw:∀b,p=some b->w'.heap[b]?=w.heap[b]?):SlAt w' p e es o n v:=by
 cases p with
 |none=>exact h
 |some b=>
  obtain⟨x,cap,e1,e2,e3,e4,e5⟩:=h;exact⟨x,cap,e1,e2,e3,e4,fun hx c hc=>by rw[cell_of_same (hw b rfl)];exact e5 hx c hc⟩
theorem OwnAt.alive {g:Gh} {v:Value} {id o n ver:Nat} (h:OwnAt g v id o n ver):∃ob,get g.h id=some ob:=by
 unfold OwnAt at h;cases hg:get g.h id with
 |none=>rw[hg]at h;exact h.elim
 |some ob=>exact⟨ob,rfl⟩
theorem RefAt.alive {g:Gh} {v:Value} {id ver i j:Nat} (h:RefAt g v id ver i j):∃ob,get g.h id=some ob:=by
 unfold RefAt at h;cases hg:get g.h id with
 |none=>rw[hg]at h;exact h.elim
 |some ob=>exact⟨ob,rfl⟩
theorem OwnAt.other {g g':Gh} {v:Value} {id o n ver:Nat} (h:OwnAt g v id o n ver) (hh:get g'.h id=get g.h id) (hφ:g'.φ id=g.φ id)
  (hw:∀b,g.φ id=some b->g'.w.heap[b]?=g.w.heap[b]?):OwnAt g' v id o n ver:=by
 unfold OwnAt at h ⊢;rw[hh,hφ];cases hg:get g.h id with
 |none=>rw[hg]at h;exact h.elim
 |some ob=>
  rw[hg]at h;cases ob with
  |cells cs=>exact h.elim
  |buf v' e es=>exact⟨h.1,fun hv=>(h.2 hv).same hw⟩
  |imm v' e es=>exact⟨h.1,fun hv=>(h.2 hv).same hw⟩
  |map kvs=>exact h.elim
theorem RefAt.other {g g':Gh} {v:Value} {id ver i j:Nat} (h:RefAt g v id ver i j) (hh:get g'.h id=get g.h id) (hφ:g'.φ id=g.φ id):RefAt g' v id ver i j:=by
 unfold RefAt at h ⊢;rw[hh,hφ];exact h
theorem ObAt.other {ν:Nat->Nat} {g g':Gh} {id:Nat} {o:Ob} (h:ObAt ν g id o) (hφ:g'.φ id=g.φ id) (hm:Mono ν g g') (hRI:∀v x,RI ν g.I g.w v x->RI ν g'.I g'.w v x)
  (hsz:g.w.heap.size<=g'.w.heap.size) (hw:∀b,g.φ id=some b->g'.w.heap[b]?=g.w.heap[b]?) (hI:∀b,g.φ id=some b->(g'.I b↔g.I b)):ObAt ν g' id o:=by
 cases o with
 |cells cs=>
  obtain⟨b,e1,e2,e3,e4⟩:=h;refine⟨b,hφ.trans e1,fun hi=>e2 ((hI b e1).1 hi),⟨Nat.lt_of_lt_of_le e3.1 hsz,fun o=>by rw[frozen_of_same (hw b e1)];exact e3.2 o⟩,fun j c hc=>?_⟩;obtain⟨v,c1,c2,c3⟩:=e4 j c hc;exact⟨v,by rw[cell_of_same (hw b e1)];exact c1,c2,hm _ _ c3⟩
 |buf v e es=>
  rcases h with⟨h1,h2⟩|⟨b,e1,e2,e3,e4⟩
  ·exact .inl ⟨hφ.trans h1,h2⟩
  ·exact .inr ⟨b,hφ.trans e1,fun hi=>e2 ((hI b e1).1 hi),⟨Nat.lt_of_lt_of_le e3.1 hsz,fun o=>by rw[frozen_of_same (hw b e1)];exact e3.2 o⟩,e4.mono hRI fun off v hc=>by rw[cell_of_same (hw b e1)];exact hc⟩
 |imm v e es=>
  rcases h with⟨h1,h2⟩|⟨b,e1,e2,e4⟩
  ·exact .inl ⟨hφ.trans h1,h2⟩
  ·exact .inr ⟨b,hφ.trans e1,(hI b e1).2 e2,e4.mono hRI fun off v hc=>by rw[cell_of_same (hw b e1)];exact hc⟩
 |map kvs=>
  obtain⟨b,es,clock,e1,e2,e3,e4,e5,e6⟩:=h;refine⟨b,es,clock,hφ.trans e1,fun hi=>e2 ((hI b e1).1 hi),Nat.lt_of_lt_of_le e3 hsz,(hw b e1).trans e4,e5,fun j e p h1 h2=>?_⟩;obtain⟨c1,c2⟩:=e6 j e p h1 h2;exact⟨hm _ _ c1,hm _ _ c2⟩
theorem Rel.new' {ν:Nat->Nat} {k:Cx} {g:Gh} (r:Rel ν k g) {s:Nat} {ob:Ob} {p:Option Nat} {w':World} (hs:get g.h s=none)
  (hsz:g.w.heap.size<=w'.heap.size) (h1:w'.os=g.w.os) (h2:w'.tape=g.w.tape) (h3:w'.output=g.w.output) (hb:∀b,b<g.w.heap.size->w'.heap[b]?=g.w.heap[b]?)
  (hp:∀b,p=some b->∀id o,get g.h id=some o->g.φ id≠some b) (hp2:∀b,p=some b->k.L b\/k.w.heap.size<=b)
  (hob:Mono ν g { g with φ:=updφ g.φ s p,w:=w',h:=set g.h s ob }->ObAt ν { g with φ:=updφ g.φ s p,w:=w',h:=set g.h s ob } s ob) :
  Rel ν k { g with φ:=updφ g.φ s p,w:=w',h:=set g.h s ob }/\Mono ν g { g with φ:=updφ g.φ s p,w:=w',h:=set g.h s ob }:=by
 have hRI:∀v x,RI ν g.I g.w v x->RI ν g.I w' v x:=fun v x h=>h.mono (fun _ h=>h) fun b off v hi hc=>by rw[cell_of_same (hb b (r.small b hi))];exact hc
 have hblk:∀id o b,get g.h id=some o->g.φ id=some b->b<g.w.heap.size:=fun id o b ho hφ=>(r.ob id o ho).block hφ r.small
 have hm:Mono ν g { g with φ:=updφ g.φ s p,w:=w',h:=set g.h s ob }:=by
  intro v x hx;refine hx.mono hRI ?_ ?_
  ·intro v id o n ver ho;obtain⟨ob',hob'⟩:=ho.alive;have hne:s≠id:=fun e=>by rw[<-e,hs]at hob';cases hob'
   exact ho.other (get_set_ne _ _ hne) (updφ_ne _ _ (Ne.symm hne)) fun b hφ=>hb b (hblk id _ b hob' hφ)
  ·intro v id ver i j hr;obtain⟨ob',hob'⟩:=hr.alive;have hne:s≠id:=fun e=>by rw[<-e,hs]at hob';cases hob'
   exact hr.other (get_set_ne _ _ hne) (updφ_ne _ _ (Ne.symm hne))
 refine⟨⟨?_,?_,fun b hi=>Nat.lt_of_lt_of_le (r.small b hi) hsz,r.i0,r.i1,?_,Nat.le_trans r.size hsz,h1.trans r.os,h2.trans r.tape,h3.trans r.output,fun b h hl=>(hb b (Nat.lt_of_lt_of_le h r.size)).trans (r.old b h hl)⟩,hm⟩
 ·intro id o ho;by_cases he:s=id
  ·subst he;have:ob=o:=by simpa[get_set_same]using ho
   subst this;exact hob hm
  ·have ho':get g.h id=some o:=by rwa [show get (set g.h s ob) id=get g.h id from get_set_ne _ _ he]at ho
   exact(r.ob id o ho').other (updφ_ne _ _ (Ne.symm he)) hm hRI hsz (fun b hφ=>hb b (hblk id _ b ho' hφ)) fun _ _=>Iff.rfl
 ·intro id id' o o' b ho ho' hφ hφ';simp only[get_set]at ho ho';simp only[updφ]at hφ hφ';by_cases he:id=s
  ·by_cases he':id'=s
   ·rw[he,he']
   ·rw[if_pos he]at hφ;rw[if_neg he']at hφ';rw[if_neg (Ne.symm he')]at ho';exact absurd hφ' (hp b hφ id' _ ho')
  ·rw[if_neg he]at hφ;rw[if_neg (Ne.symm he)]at ho;by_cases he':id'=s
   ·rw[if_pos he']at hφ';exact absurd hφ (hp b hφ' id _ ho)
   ·rw[if_neg he']at hφ';rw[if_neg (Ne.symm he')]at ho';exact r.inj id id' o o' b ho ho' hφ hφ'
 ·intro id o b ho hφ;simp only[get_set]at ho;simp only[updφ]at hφ;by_cases he:id=s
  ·rw[if_pos he]at hφ;exact hp2 b hφ
  ·rw[if_neg he]at hφ;rw[if_neg (Ne.symm he)]at ho;exact r.own id o b ho hφ
theorem Rel.new {ν:Nat->Nat} {k:Cx} {g:Gh} (r:Rel ν k g) {s:Nat} {ob:Ob} {p:Option Nat} {w':World} (hs:get g.h s=none)
  (hsz:g.w.heap.size<=w'.heap.size) (h1:w'.os=g.w.os) (h2:w'.tape=g.w.tape) (h3:w'.output=g.w.output) (hb:∀b,b<g.w.heap.size->w'.heap[b]?=g.w.heap[b]?)
  (hp:∀b,p=some b->g.w.heap.size<=b)
  (hob:Mono ν g { g with φ:=updφ g.φ s p,w:=w',h:=set g.h s ob }->ObAt ν { g with φ:=updφ g.φ s p,w:=w',h:=set g.h s ob } s ob) :
  Rel ν k { g with φ:=updφ g.φ s p,w:=w',h:=set g.h s ob }/\Mono ν g { g with φ:=updφ g.φ s p,w:=w',h:=set g.h s ob }:=
 r.new' hs hsz h1 h2 h3 hb (fun b hb' id o ho hφ=>by have:=(r.ob id o ho).block hφ r.small;have:=hp b hb';omega) (fun b hb'=>.inr (Nat.le_trans r.size (hp b hb'))) hob
theorem Rel.turn {ν:Nat->Nat} {k:Cx} {g:Gh} (r:Rel ν k g) {s:Nat} {ob0 ob:Ob} {p:Option Nat} {w':World} {I':Nat->Prop} (hs:get g.h s=some ob0)
  (hnI:∀b,g.φ s=some b->¬g.I b)
  (hsz:g.w.heap.size<=w'.heap.size) (h1:w'.os=g.w.os) (h2:w'.tape=g.w.tape) (h3:w'.output=g.w.output) (hb:∀b,b<g.w.heap.size->g.φ s≠some b->w'.heap[b]?=g.w.heap[b]?)
  (hI:∀b,g.I b->I' b) (hI':∀b,I' b->g.I b\/g.φ s=some b)
  (hp:p=g.φ s\/∃b,p=some b/\g.w.heap.size<=b)
  (hO:∀v o n ver,OwnAt g v s o n ver->OwnAt ⟨I',updφ g.φ s p,w',set g.h s ob⟩ v s o n ver)
  (hR:∀v ver i j,RefAt g v s ver i j->RefAt ⟨I',updφ g.φ s p,w',set g.h s ob⟩ v s ver i j)
  (hob:(∀v x,RI ν g.I g.w v x->RI ν I' w' v x)->Mono ν g ⟨I',updφ g.φ s p,w',set g.h s ob⟩->ObAt ν ⟨I',updφ g.φ s p,w',set g.h s ob⟩ s ob) :
  Rel ν k ⟨I',updφ g.φ s p,w',set g.h s ob⟩/\Mono ν g ⟨I',updφ g.φ s p,w',set g.h s ob⟩:=by
 have hRI:∀v x,RI ν g.I g.w v x->RI ν I' w' v x:=fun v x h=>h.mono hI fun b off v hi hc=>by
  rw[cell_of_same (hb b (r.small b hi) fun e=>hnI b e hi)];exact hc
 have hblk:∀id o b,get g.h id=some o->g.φ id=some b->b<g.w.heap.size:=fun id o b ho hφ=>(r.ob id o ho).block hφ r.small
 have hapart:∀id o b,s≠id->get g.h id=some o->g.φ id=some b->g.φ s≠some b:=fun id o b hne ho hφ e=>hne (r.inj s id ob0 o b hs ho e hφ)
 have hm:Mono ν g ⟨I',updφ g.φ s p,w',set g.h s ob⟩:=by
  intro v x hx;refine hx.mono hRI ?_ ?_
  ·intro v id o n ver ho;by_cases he:s=id
   ·subst he;exact hO _ _ _ _ ho
   ·obtain⟨ob',hob'⟩:=ho.alive;exact ho.other (get_set_ne _ _ he) (updφ_ne _ _ (Ne.symm he)) fun b hφ=>hb b (hblk id _ b hob' hφ) (hapart id _ b he hob' hφ)
  ·intro v id ver i j hr;by_cases he:s=id
   ·subst he;exact hR _ _ _ _ hr
   ·exact hr.other (get_set_ne _ _ he) (updφ_ne _ _ (Ne.symm he))
 refine⟨⟨?_,?_,?_,fun b h=>hI b (r.i0 b h),?_,?_,Nat.le_trans r.size hsz,h1.trans r.os,h2.trans r.tape,h3.trans r.output,?_⟩,hm⟩
 ·intro id o ho;by_cases he:s=id
  ·subst he;have:ob=o:=by simpa[get_set_same]using ho
   subst this;exact hob hRI hm
  ·have ho':get g.h id=some o:=by rwa [show get (set g.h s ob) id=get g.h id from get_set_ne _ _ he]at ho
   exact(r.ob id o ho').other (updφ_ne _ _ (Ne.symm he)) hm hRI hsz (fun b hφ=>hb b (hblk id _ b ho' hφ) (hapart id _ b he ho' hφ))
    fun b hφ=>⟨fun hi=>(hI' b hi).resolve_right (hapart id _ b he ho' hφ),hI b⟩
 ·intro id id' o o' b ho ho' hφ hφ';simp only[get_set]at ho ho';simp only[updφ]at hφ hφ';by_cases he:id=s
  ·by_cases he':id'=s
   ·rw[he,he']
   ·rw[if_pos he]at hφ;rw[if_neg he']at hφ';rw[if_neg (Ne.symm he')]at ho';have hlt:=hblk id' _ b ho' hφ';rcases hp with hp | ⟨b',hp,hge⟩
    ·exact absurd (hp▸hφ) (hapart id' _ b (Ne.symm he') ho' hφ')
    ·rw[hp]at hφ;cases hφ;omega
  ·rw[if_neg he]at hφ;rw[if_neg (Ne.symm he)]at ho;by_cases he':id'=s
   ·rw[if_pos he']at hφ';have hlt:=hblk id _ b ho hφ;rcases hp with hp | ⟨b',hp,hge⟩
    ·exact absurd (hp▸hφ') (hapart id _ b (Ne.symm he) ho hφ)
    ·rw[hp]at hφ';cases hφ';omega
   ·rw[if_neg he']at hφ';rw[if_neg (Ne.symm he')]at ho';exact r.inj id id' o o' b ho ho' hφ hφ'
 ·intro b hi;rcases hI' b hi with h | h
  ·exact Nat.lt_of_lt_of_le (r.small b h) hsz
  ·exact Nat.lt_of_lt_of_le (hblk s _ b hs h) hsz
 ·intro b hi;rcases hI' b hi with h | h
  ·exact r.i1 b h
  ·exact .inr (r.own s _ b hs h)
 ·intro id o b ho hφ;simp only[get_set]at ho;simp only[updφ]at hφ;by_cases he:id=s
  ·rw[if_pos he]at hφ;rcases hp with hp | ⟨b',hp,hge⟩
   ·exact r.own s _ b hs (hp▸hφ)
   ·rw[hp]at hφ;cases hφ;exact .inr (Nat.le_trans r.size hge)
  ·rw[if_neg he]at hφ;rw[if_neg (Ne.symm he)]at ho;exact r.own id o b ho hφ
 ·intro b h hl;have hlt:=Nat.lt_of_lt_of_le h r.size;refine(hb b hlt fun e=>?_).trans (r.old b h hl);rcases hl with hl | hl
  ·rcases r.own s _ b hs e with h' | h'
   ·exact hl h'
   ·omega
  ·exact hnI b e (r.i0 b hl)
theorem M.run_bind {α β:Type} (m:M α) (f:α->M β) (h:Hp):(m.bind f).run h=match m.run h with
  |some (a,h')=>(f a).run h'
  |none=>none:=by
 induction m generalizing h with
 |ret a=>rfl
 |fail=>rfl
 |get id k ih=>simp only[M.bind,M.run];exact ih _ _
 |put id o k ih=>simp only[M.bind,M.run];exact ih _
theorem M.bind_some {α β:Type} {m:M α} {f:α->M β} {h h'':Hp} {b:β} (e:(m.bind f).run h=some (b,h'')) :
  ∃a h',m.run h=some (a,h')/\(f a).run h'=some (b,h''):=by
 rw[M.run_bind]at e;cases hm:m.run h with
 |none=>rw[hm]at e;cases e
 |some p=>rw[hm]at e;exact⟨p.1,p.2,rfl,e⟩
theorem M.ok_some {b:Bool} {h h':Hp} {u:Unit} (e:(M.ok b).run h=some (u,h')):b=true/\h'=h:=by
 unfold M.ok at e;cases b with
 |true=>simp[M.run]at e;exact⟨rfl,e.symm⟩
 |false=>simp[M.run]at e
theorem M.look_some {id:Nat} {h h':Hp} {o:Ob} (e:(M.look id).run h=some (o,h')):Arb.get h id=some o/\h'=h:=by
 simp only[M.look,M.run]at e;cases hg:Arb.get h id with
 |none=>simp[hg,M.run]at e
 |some x=>simp[hg,M.run]at e;exact⟨by rw[e.1],e.2.symm⟩
theorem M.fresh_some {id:Nat} {h h':Hp} {u:Unit} (e:(M.fresh id).run h=some (u,h')):Arb.get h id=none/\h'=h:=by
 simp only[M.fresh,M.run]at e;cases hg:Arb.get h id with
 |none=>simp[hg,M.run]at e;exact⟨rfl,e.symm⟩
 |some x=>simp[hg,M.run]at e
theorem M.write_some {id:Nat} {o:Ob} {h h':Hp} {u:Unit} (e:(M.write id o).run h=some (u,h')):h'=set h id o:=by
 simp[M.write,M.run]at e;exact e.symm
theorem M.lift_some {α:Type} {x:Option α} {h h':Hp} {a:α} (e:(M.lift x).run h=some (a,h')):x=some a/\h'=h:=by
 cases x with
 |none=>simp[M.lift,M.run]at e
 |some y=>simp[M.lift,M.run]at e;exact⟨by rw[e.1],e.2.symm⟩
theorem M.ret_some {α:Type} {x a:α} {h h':Hp} (e:(M.ret x).run h=some (a,h')):x=a/\h'=h:=by
 simp[M.run]at e;exact⟨e.1,e.2.symm⟩
theorem M.fail_some {α:Type} {a:α} {h h':Hp} (e:(M.fail:M α).run h=some (a,h')):False:=by simp[M.run]at e
theorem pickT {α β:Type} [Inhabited β] {cs:List α} {P:Nat->β->α->Prop} (h:∀(j:Nat) (c:α),cs[j]?=some c->∃v,P j v c) :
  ∃f:Nat->β,∀(j:Nat) (c:α),cs[j]?=some c->P j (f j) c:=by
 induction cs generalizing P with
 |nil=>exact⟨fun _=>default,fun j c h=>by simp at h⟩
 |cons c cs ih=>
  obtain⟨v,hv⟩:=h 0 c rfl;obtain⟨f,hf⟩:=ih (P:=fun j=>P (j+1)) fun j c hc=>h (j+1) c (by simpa using hc)
  refine⟨fun j=>match j with | 0=>v | j+1=>f j,fun j c' hc=>?_⟩;cases j with
  |zero=>simp at hc;subst hc;exact hv
  |succ j=>exact hf j c' (by simpa using hc)
theorem pick {α:Type} {cs:List α} {P:Nat->Value->α->Prop} (h:∀(j:Nat) (c:α),cs[j]?=some c->∃v,P j v c) :
  ∃f:Nat->Value,∀(j:Nat) (c:α),cs[j]?=some c->P j (f j) c:=pickT h
theorem M.mapL_cons {α β:Type} {f:α->M β} {x:α} {r:List α} {h h':Hp} {ys:List β} (e:(M.mapL f (x::r)).run h=some (ys,h')) :
  ∃y h1 zs,(f x).run h=some (y,h1)/\(M.mapL f r).run h1=some (zs,h')/\ys=y::zs:=by
 obtain⟨y,h1,e1,e2⟩:=M.bind_some e;obtain⟨zs,h2,e3,e4⟩:=M.bind_some e2;obtain⟨rfl,rfl⟩:=M.ret_some e4;exact⟨y,h1,zs,e1,e3,rfl⟩
theorem M.mapL_nil {α β:Type} {f:α->M β} {h h':Hp} {ys:List β} (e:(M.mapL f []).run h=some (ys,h')):ys=[]/\h'=h:=by
 obtain⟨rfl,rfl⟩:=M.ret_some e;exact⟨rfl,rfl⟩
structure Froze (ν:Nat->Nat) (k:Cx) (g:Gh) (h':Hp) (I':Nat->Prop):Prop where
 rel:Rel ν k { g with I:=I',h:=h' }
 mono:Mono ν g { g with I:=I',h:=h' }
 sub:∀b,g.I b->I' b
 up:∀b,I' b->g.I b\/∃id o,get g.h id=some o/\g.φ id=some b
 cells:∀id cs,get h' id=some (.cells cs)->get g.h id=some (.cells cs)
 alive:∀id,(get h' id).isSome=(get g.h id).isSome
theorem Froze.refl {ν:Nat->Nat} {k:Cx} {g:Gh} (r:Rel ν k g):Froze ν k g g.h g.I:=⟨r,.refl ν g,fun _ h=>h,fun _ h=>.inl h,fun _ _ h=>h,fun _=>rfl⟩
theorem Froze.trans {ν:Nat->Nat} {k:Cx} {g:Gh} {h1 h2:Hp} {I1 I2:Nat->Prop} (a:Froze ν k g h1 I1) (b:Froze ν k { g with I:=I1,h:=h1 } h2 I2):Froze ν k g h2 I2:=
 ⟨b.rel,a.mono.trans b.mono,fun x hx=>b.sub x (a.sub x hx),fun x hx=>by
  rcases b.up x hx with h | ⟨id,o,ho,hφ⟩
  ·exact a.up x h
  ·have ha:=a.alive id;simp only[]at ho hφ;rw[ho]at ha;cases hg:get g.h id with
   |none=>rw[hg]at ha;simp at ha
   |some o'=>exact .inr ⟨id,o',hg,hφ⟩,
  fun id cs h=>a.cells id cs (b.cells id cs h),fun id=>(b.alive id).trans (a.alive id)⟩
theorem froze_buf {ν:Nat->Nat} {k:Cx} {g:Gh} (r:Rel ν k g) {id v e:Nat} {es:List (List IV)} (hg:get g.h id=some (.buf v e es)) :
  Froze ν k g (set g.h id (.imm v e es)) (fun b=>g.I b\/g.φ id=some b):=by
 have old:=r.ob id _ hg;have hnI:∀b,g.φ id=some b->¬g.I b:=by
  intro b hφ;rcases old with⟨h1,_⟩|⟨b',h1,h2,_⟩
  ·rw[hφ]at h1;cases h1
  ·rw[hφ]at h1;cases h1;exact h2
 have ht:=r.turn (s:=id) (ob:=.imm v e es) (p:=g.φ id) (w':=g.w) (I':=fun b=>g.I b\/g.φ id=some b) hg hnI (Nat.le_refl _) rfl rfl rfl (fun _ _ _=>rfl) (fun _ h=>.inl h) (fun _ h=>h) (.inl rfl)
  (fun u o n ver ho=>by
   unfold OwnAt at ho ⊢;rw[hg]at ho;simp only[get_set_same,updφ_same];exact ho)
  (fun u ver i j hr=>by
   unfold RefAt at hr ⊢;rw[hg]at hr;simp only[get_set_same,updφ_same];exact hr)
  (fun hRI _=>by
   rcases old with⟨h1,h2⟩|⟨b,h1,h2,h3,h4⟩
   ·exact .inl ⟨(updφ_same _ _ _).trans h1,h2⟩
   ·exact .inr ⟨b,(updφ_same _ _ _).trans h1,.inr h1,h4.mono hRI fun _ _ h=>h⟩)
 have hφ:updφ g.φ id (g.φ id)=g.φ:=by funext i;simp only[updφ];split<;>simp_all
 rw[hφ]at ht;refine⟨ht.1,ht.2,fun _ h=>.inl h,fun b h=>h.imp _root_.id fun h=>⟨id,_,hg,h⟩,fun id' cs h=>?_,fun id'=>?_⟩
 ·rw[get_set]at h;split at h
  ·cases h
  ·exact h
 ·rw[get_set];split
  ·rename_i he;subst he;rw[hg];rfl
  ·rfl
theorem froze_cells {ν:Nat->Nat} {k:Cx} {g:Gh} (r:Rel ν k g) {id b:Nat} {cs:List AV} {xs:List IV} (hg:get g.h id=some (.cells cs)) (hφ:g.φ id=some b)
  (hx:∀(j:Nat) (x:IV),xs[j]?=some x->∃u,g.w.cell? ⟨b,j,none⟩=some u/\RI ν g.I g.w u x) :
  Froze ν k g (set g.h id (.imm 0 xs.length [xs])) (fun b=>g.I b\/g.φ id=some b):=by
 have old:=r.ob id _ hg;have hnI:∀b,g.φ id=some b->¬g.I b:=by
  intro b' hφ';obtain⟨b'',h1,h2,_⟩:=old;rw[hφ']at h1;cases h1;exact h2
 have ht:=r.turn (s:=id) (ob:=.imm 0 xs.length [xs]) (p:=g.φ id) (w':=g.w) (I':=fun b=>g.I b\/g.φ id=some b) hg hnI (Nat.le_refl _) rfl rfl rfl (fun _ _ _=>rfl) (fun _ h=>.inl h) (fun _ h=>h) (.inl rfl)
  (fun u o n ver ho=>by
   unfold OwnAt at ho;rw[hg]at ho;exact ho.elim)
  (fun u ver i j hr=>by
   unfold RefAt at hr ⊢;rw[hg]at hr;simp only[get_set_same,updφ_same];obtain⟨rfl,rfl,b',h1,h2⟩:=hr;exact⟨Nat.le_refl _,fun _=>⟨b',h1,by simpa using h2⟩⟩)
  (fun hRI _=>by
   refine .inr ⟨b,(updφ_same _ _ _).trans hφ,.inr hφ,⟨fun c hc=>by simp at hc;subst hc;rfl,fun i j c x h1 h2=>?_⟩⟩;cases i with
   |succ i=>simp at h1
   |zero=>
    simp at h1;subst h1;obtain⟨u,c1,c2⟩:=hx j x h2;exact⟨u,by simpa using c1,hRI _ _ c2⟩)
 have hφ':updφ g.φ id (g.φ id)=g.φ:=by funext i;simp only[updφ];split<;>simp_all
 rw[hφ']at ht;refine⟨ht.1,ht.2,fun _ h=>.inl h,fun b h=>h.imp _root_.id fun h=>⟨id,_,hg,h⟩,fun id' cs h=>?_,fun id'=>?_⟩
 ·rw[get_set]at h;split at h
  ·cases h
  ·exact h
 ·rw[get_set];split
  ·rename_i he;subst he;rw[hg];rfl
  ·rfl
theorem sl_reads' {ν:Nat->Nat} {J:Nat->Prop} {w:World} {p:Option Nat} {e o m:Nat} {es:List (List IV)} (hrow:∀b,p=some b->J b/\Row ν J w b e es) {v:Value}
  (h:SlAt w p e es o m v):RI ν J w v (.sl e ((es.drop o).take m)):=by
 cases hp:p with
 |none=>
  rw[hp]at h;obtain⟨⟨a,rfl⟩,rfl⟩:=h;simpa using .sl0 a 0 e
 |some b=>
  rw[hp]at h;obtain⟨x,cap,rfl,h2,h3,h4,_⟩:=h;obtain⟨hI,hl,hc⟩:=hrow b hp;by_cases hm:m=0
  ·subst hm;simpa using .sl0 _ cap e
  ·have hx:x=o*e:=h4.resolve_right fun h=>hm h.1
   subst hx;have hsub:∀(i:Nat) (c:List IV),((es.drop o).take m)[i]?=some c->es[o+i]?=some c:=by
    intro i c hi;rw[List.getElem?_take]at hi;split at hi
    ·rwa [List.getElem?_drop]at hi
    ·cases hi
   have hpick:∀(i:Nat) (c:List IV),((es.drop o).take m)[i]?=some c->∃f:Nat->Value,∀(j:Nat) (x:IV),c[j]?=some x->w.cell? ⟨b,(o+i)*e+j,none⟩=some (f j)/\RI ν J w (f j) x:=
    fun i c hi=>pick fun j x hj=>hc (o+i) j c x (hsub i c hi) hj
   obtain⟨F,hF⟩:=pickT hpick;refine .sl b (o*e) m cap e _ F hI ?_ h3 (fun c hc'=>hl c (List.mem_of_mem_drop (List.mem_of_mem_take hc'))) (fun i j c x h1 h2=>?_) fun i j c x h1 h2=>(hF i c h1 j x h2).2
   ·simp;omega
   ·have:=(hF i c h1 j x h2).1
    rwa [Nat.add_mul]at this
theorem ref_reads' {ν:Nat->Nat} {J:Nat->Prop} {w:World} {e i j b:Nat} {es:List (List IV)} {c:List IV} (hJ:J b) (hrow:Row ν J w b e es) (hc:es[i]?=some c) :
  RI ν J w (.pointer (some ⟨b,i*e+j,none⟩)) (.ptr (c.drop j)):=by
 obtain⟨F,hF⟩:=pick (cs:=c) fun l x hx=>hrow.2 i l c x hc hx
 refine .ptr b (i*e+j) _ (fun l=>F (j+l)) hJ (fun l x h=>?_) fun l x h=>?_
 ·rw[List.getElem?_drop]at h;have:=(hF _ x h).1
  rwa [<-Nat.add_assoc]at this
 ·rw[List.getElem?_drop]at h;exact(hF _ x h).2
theorem sl_reads {ν:Nat->Nat} {k:Cx} {g:Gh} (r:Rel ν k g) {id v' e o m:Nat} {es:List (List IV)} {ob:Ob} (hg:get g.h id=some ob) (hob:ob = .imm v' e es) {v:Value}
  (h:SlAt g.w (g.φ id) e es o m v):RI ν g.I g.w v (.sl e ((es.drop o).take m)):=by
 subst hob;refine sl_reads' (fun b hp=>?_) h;rcases r.ob id _ hg with⟨h1,_⟩|⟨b',h1,hI,hrow⟩
 ·rw[hp]at h1;cases h1
 ·rw[hp]at h1;cases h1;exact⟨hI,hrow⟩
theorem ref_reads {ν:Nat->Nat} {k:Cx} {g:Gh} (r:Rel ν k g) {id v' e i j:Nat} {es:List (List IV)} {c:List IV} (hg:get g.h id=some (.imm v' e es)) (hc:es[i]?=some c) {v:Value}
  (h:∃b,g.φ id=some b/\v = .pointer (some ⟨b,i*e+j,none⟩)):RI ν g.I g.w v (.ptr (c.drop j)):=by
 obtain⟨b,hφ,rfl⟩:=h;rcases r.ob id _ hg with⟨h1,_⟩|⟨b',h1,hI,hrow⟩
 ·rw[hφ]at h1;cases h1
 ·rw[hφ]at h1;cases h1;exact ref_reads' hI hrow hc
def FzT (ν:Nat->Nat) (f:AV->M IV):Prop:=
 ∀(k:Cx) (g:Gh) (a:AV) (x:IV) (h':Hp),(f a).run g.h=some (x,h')->Rel ν k g->∀v,RA ν g v a->∃I',Froze ν k g h' I'/\RI ν I' g.w v x
theorem FzT.list {ν:Nat->Nat} {f:AV->M IV} (hf:FzT ν f):∀(cs:List AV) (k:Cx) (g:Gh) (xs:List IV) (h':Hp),(M.mapL f cs).run g.h=some (xs,h')->Rel ν k g->
  ∀V:Nat->Value,(∀(j:Nat) (c:AV),cs[j]?=some c->RA ν g (V j) c)->∃I',Froze ν k g h' I'/\xs.length=cs.length/\∀(j:Nat) (x:IV),xs[j]?=some x->RI ν I' g.w (V j) x:=by
 intro cs
 induction cs with
 |nil=>
  intro k g xs h' e r V _;obtain⟨rfl,rfl⟩:=M.mapL_nil e;exact⟨g.I,.refl r,rfl,fun j x h=>by simp at h⟩
 |cons c cs ih=>
  intro k g xs h' e r V hV;obtain⟨y,h1,zs,e1,e2,rfl⟩:=M.mapL_cons e;obtain⟨I1,f1,r1⟩:=hf k g c y h1 e1 r (V 0) (hV 0 c rfl);obtain⟨I2,f2,hl,r2⟩:=ih k { g with I:=I1,h:=h1 } zs h' e2 f1.rel (fun j=>V (j+1)) fun j c' hc=>f1.mono _ _ (hV (j+1) c' (by simpa using hc))
  refine⟨I2,f1.trans f2,by simp[hl],fun j x hx=>?_⟩;cases j with
  |zero=>simp at hx;subst hx;exact r1.mono f2.sub fun _ _ _ _ h=>h
  |succ j=>exact r2 j x (by simpa using hx)
theorem fzT_spec (ν:Nat->Nat):∀n,FzT ν (fz true n):=by
 intro n
 induction n with
 |zero=>intro k g a x h' e;exact(M.fail_some e).elim
 |succ n ih=>
  intro k g a x h' e r v ha;cases ha with
  |undef=>exact(M.fail_some e).elim
  |agg=>exact(M.fail_some e).elim
  |tup=>exact(M.fail_some e).elim
  |iv hr=>
   cases hr with
   |nsl a e'=>obtain⟨rfl,rfl⟩:=M.ret_some e;exact⟨g.I,.refl r,.sl0 _ _ _⟩
   |bool b=>obtain⟨rfl,rfl⟩:=M.ret_some e;exact⟨g.I,.refl r,.bool _⟩
   |int k' n'=>obtain⟨rfl,rfl⟩:=M.ret_some e;exact⟨g.I,.refl r,.int _ _⟩
   |str s=>obtain⟨rfl,rfl⟩:=M.ret_some e;exact⟨g.I,.refl r,.str _⟩
   |sl0 a c e'=>obtain⟨rfl,rfl⟩:=M.ret_some e;exact⟨g.I,.refl r,.sl0 _ _ _⟩
   |sl b off n' cap e' es f h1 h2 h3 h4 h5 h6=>obtain⟨rfl,rfl⟩:=M.ret_some e;exact⟨g.I,.refl r,.sl b off n' cap e' es f h1 h2 h3 h4 h5 h6⟩
   |nilp=>obtain⟨rfl,rfl⟩:=M.ret_some e;exact⟨g.I,.refl r,.nilp⟩
   |ptr b off cs f h1 h2 h3=>obtain⟨rfl,rfl⟩:=M.ret_some e;exact⟨g.I,.refl r,.ptr b off cs f h1 h2 h3⟩
   |fn f caps cs h1 h2=>obtain⟨rfl,rfl⟩:=M.ret_some e;exact⟨g.I,.refl r,.fn f caps cs h1 h2⟩
   |junk v h1=>obtain⟨rfl,rfl⟩:=M.ret_some e;exact⟨g.I,.refl r,.junk _ h1⟩
  |@own _ id o m ver ho1 ho=>
   obtain⟨ob,h1,e1,e2⟩:=M.bind_some e;obtain⟨hg,rfl⟩:=M.look_some e1;unfold OwnAt at ho;rw[hg]at ho;cases ob with
   |cells cs=>exact ho.elim
   |buf v' e' es=>
    obtain⟨_,h2,e3,e4⟩:=M.bind_some e2;obtain⟨hv,rfl⟩:=M.ok_some e3;obtain⟨_,h3,e5,e6⟩:=M.bind_some e4;obtain rfl:=M.write_some e5;obtain⟨rfl,rfl⟩:=M.ret_some e6;have hf:=froze_buf r hg;have hv':v'=ver:=by simpa using hv
    refine⟨_,hf,?_⟩;exact sl_reads hf.rel (id:=id) (ob:=.imm v' e' es) (get_set_same _ _ _) rfl (ho.2 hv')
   |imm v' e' es=>
    obtain⟨_,h2,e3,e4⟩:=M.bind_some e2;obtain⟨hv,rfl⟩:=M.ok_some e3;obtain⟨rfl,rfl⟩:=M.ret_some e4;have hv':v'=ver:=by simpa using hv
    exact⟨g.I,.refl r,sl_reads r hg rfl (ho.2 hv')⟩
   |map _=>exact ho.elim
  |@ref _ id ver i j hr1 hr=>
   obtain⟨ob,h1,e1,e2⟩:=M.bind_some e;obtain⟨hg,rfl⟩:=M.look_some e1;unfold RefAt at hr;rw[hg]at hr;cases ob with
   |cells cs=>
    obtain⟨rfl,rfl,b,hφ,rfl⟩:=hr;obtain⟨_,h2,e3,e4⟩:=M.bind_some e2;obtain⟨-,rfl⟩:=M.ok_some e3;obtain⟨xs,h3,e5,e6⟩:=M.bind_some e4;obtain⟨ob',h4,e7,e8⟩:=M.bind_some e6;obtain⟨hg',rfl⟩:=M.look_some e7;obtain⟨b',hφ',hnI,_,hc⟩:=r.ob id _ hg;rw[hφ]at hφ';cases hφ';obtain⟨V,hV⟩:=pick hc;obtain⟨I1,f1,hl,hx⟩:=ih.list cs k g xs _ e5 r V fun j c h=>(hV j c h).2.2
    cases ob' with
    |buf _ _ _=>exact(M.fail_some e8).elim
    |imm _ _ _=>exact(M.fail_some e8).elim
    |map _=>exact(M.fail_some e8).elim
    |cells cs'=>
     have hcs:=f1.cells id cs' hg';rw[hg]at hcs;cases hcs;obtain⟨_,h5,e9,e10⟩:=M.bind_some e8;obtain rfl:=M.write_some e9;obtain⟨rfl,rfl⟩:=M.ret_some e10;have hlen:∀(j:Nat) (x:IV),xs[j]?=some x->∃c,cs[j]?=some c:=fun j x h=>by
      have:j<xs.length:=by
       rcases Nat.lt_or_ge j xs.length with h' | h'
       ·exact h'
       ·rw[List.getElem?_eq_none h']at h;cases h
      exact⟨_,List.getElem?_eq_getElem (by omega)⟩
     have hf:=froze_cells (xs:=xs) f1.rel hg' hφ fun j x h=>let⟨c,hc'⟩:=hlen j x h;⟨V j,(hV j c hc').1,hx j x h⟩
     refine⟨_,f1.trans hf,?_⟩;refine .ptr b j (xs.drop j) (fun i=>V (j+i)) (.inr hφ) (fun i x h=>?_) fun i x h=>?_
     ·rw[List.getElem?_drop]at h;obtain⟨c,hc'⟩:=hlen _ x h;exact(hV _ c hc').1
     ·rw[List.getElem?_drop]at h;exact(hx _ x h).mono hf.sub fun _ _ _ _ h=>h
   |buf v' e' es=>
    obtain⟨_,h2,e3,e4⟩:=M.bind_some e2;obtain⟨hv,rfl⟩:=M.ok_some e3;obtain⟨c,h3,e5,e6⟩:=M.bind_some e4;obtain⟨hc,rfl⟩:=M.lift_some e5;obtain⟨_,h4,e7,e8⟩:=M.bind_some e6;obtain rfl:=M.write_some e7;obtain⟨rfl,rfl⟩:=M.ret_some e8;have hf:=froze_buf r hg;have hv':v'=ver:=by simpa using hv
    exact⟨_,hf,ref_reads hf.rel (id:=id) (v':=v') (es:=es) (get_set_same _ _ _) hc (hr.2 hv')⟩
   |imm v' e' es=>
    obtain⟨_,h2,e3,e4⟩:=M.bind_some e2;obtain⟨hv,rfl⟩:=M.ok_some e3;obtain⟨c,h3,e5,e6⟩:=M.bind_some e4;obtain⟨hc,rfl⟩:=M.lift_some e5;obtain⟨rfl,rfl⟩:=M.ret_some e6;have hv':v'=ver:=by simpa using hv
    exact⟨g.I,.refl r,ref_reads r hg hc (hr.2 hv')⟩
   |map _=>exact(M.fail_some e2).elim
  |@clo f caps cs hn hr=>
   obtain⟨xs,h1,e1,e2⟩:=M.bind_some e;obtain⟨rfl,rfl⟩:=M.ret_some e2;obtain⟨I1,f1,hl,hx⟩:=ih.list cs k g xs _ e1 r (fun j=>caps.getD j (.bool true)) fun j c h=>by
    have:j<caps.size:=by
     rcases Nat.lt_or_ge j cs.length with h' | h'
     ·omega
     ·rw[List.getElem?_eq_none h']at h;cases h
    exact hr j _ c (by simp[Array.getD,this]) h
   refine⟨I1,f1,.fn f caps xs (by omega) fun j v x h1 h2=>?_⟩;have:=hx j x h2
   rwa [show caps.getD j (.bool true)=v from by
    obtain⟨hj,he⟩:=Array.getElem?_eq_some_iff.1 h1;simp[Array.getD,hj,he]]at this
def FzF (ν:Nat->Nat) (f:AV->M IV):Prop:=
 ∀(k:Cx) (g:Gh) (a:AV) (x:IV) (h':Hp),(f a).run g.h=some (x,h')->Rel ν k g->∀v,RA ν g v a->
  h'=g.h/\∀J:Nat->Prop,(∀b,g.I b->J b)->(∀id o b,get g.h id=some o->g.φ id=some b->J b)->RI ν J g.w v x
theorem FzF.list {ν:Nat->Nat} {f:AV->M IV} (hf:FzF ν f) (k:Cx) (g:Gh) (r:Rel ν k g):∀(cs:List AV) (xs:List IV) (h':Hp),(M.mapL f cs).run g.h=some (xs,h')->
  ∀V:Nat->Value,(∀(j:Nat) (c:AV),cs[j]?=some c->RA ν g (V j) c)->h'=g.h/\xs.length=cs.length/\
   ∀J:Nat->Prop,(∀b,g.I b->J b)->(∀id o b,get g.h id=some o->g.φ id=some b->J b)->∀(j:Nat) (x:IV),xs[j]?=some x->RI ν J g.w (V j) x:=by
 intro cs
 induction cs with
 |nil=>
  intro xs h' e V _;obtain⟨rfl,rfl⟩:=M.mapL_nil e;exact⟨rfl,rfl,fun _ _ _ j x h=>by simp at h⟩
 |cons c cs ih=>
  intro xs h' e V hV;obtain⟨y,h1,zs,e1,e2,rfl⟩:=M.mapL_cons e;obtain⟨rfl,r1⟩:=hf k g c y h1 e1 r (V 0) (hV 0 c rfl);obtain⟨rfl,hl,r2⟩:=ih zs h' e2 (fun j=>V (j+1)) fun j c' hc=>hV (j+1) c' (by simpa using hc)
  refine⟨rfl,by simp[hl],fun J hJ hJ' j x hx=>?_⟩;cases j with
  |zero=>simp at hx;subst hx;exact r1 J hJ hJ'
  |succ j=>exact r2 J hJ hJ' j x (by simpa using hx)
theorem fzF_spec (ν:Nat->Nat):∀n,FzF ν (fz false n):=by
 intro n
 induction n with
 |zero=>intro k g a x h' e;exact(M.fail_some e).elim
 |succ n ih=>
  intro k g a x h' e r v ha;have up:∀{J:Nat->Prop},(∀b,g.I b->J b)->∀{v:Value} {x:IV},RI ν g.I g.w v x->RI ν J g.w v x:=fun hJ _ _ h=>h.mono hJ fun _ _ _ _ h=>h
  have rowUp:∀{J:Nat->Prop} {b e:Nat} {es:List (List IV)},(∀b,g.I b->J b)->Row ν g.I g.w b e es->Row ν J g.w b e es:=fun hJ h=>h.mono (fun _ _=>up hJ) fun _ _ h=>h
  cases ha with
  |undef=>exact(M.fail_some e).elim
  |agg=>exact(M.fail_some e).elim
  |tup=>exact(M.fail_some e).elim
  |iv hr=>
   have key:∀y:IV,(M.ret y).run g.h=some (x,h')->RI ν g.I g.w v y->h'=g.h/\∀J:Nat->Prop,(∀b,g.I b->J b)->(∀id o b,get g.h id=some o->g.φ id=some b->J b)->RI ν J g.w v x:=by
    intro y e hy;obtain⟨rfl,rfl⟩:=M.ret_some e;exact⟨rfl,fun J hJ _=>up hJ hy⟩
   cases hr with
   |nsl a e'=>exact key _ e (.sl0 _ _ _)
   |bool b=>exact key _ e (.bool _)
   |int k' n'=>exact key _ e (.int _ _)
   |str s=>exact key _ e (.str _)
   |sl0 a c e'=>exact key _ e (.sl0 _ _ _)
   |sl b off n' cap e' es f h1 h2 h3 h4 h5 h6=>exact key _ e (.sl b off n' cap e' es f h1 h2 h3 h4 h5 h6)
   |nilp=>exact key _ e .nilp
   |ptr b off cs f h1 h2 h3=>exact key _ e (.ptr b off cs f h1 h2 h3)
   |fn f caps cs h1 h2=>exact key _ e (.fn f caps cs h1 h2)
   |junk v h1=>exact key _ e (.junk _ h1)
  |@own _ id o m ver ho1 ho=>
   obtain⟨ob,h1,e1,e2⟩:=M.bind_some e;obtain⟨hg,rfl⟩:=M.look_some e1;unfold OwnAt at ho;rw[hg]at ho;cases ob with
   |cells cs=>exact ho.elim
   |buf v' e' es=>
    obtain⟨_,h2,e3,e4⟩:=M.bind_some e2;obtain⟨hv,rfl⟩:=M.ok_some e3;obtain⟨rfl,rfl⟩:=M.ret_some e4;have hv':v'=ver:=by simpa using hv
    refine⟨rfl,fun J hJ hJ'=>sl_reads' (fun b hp=>⟨hJ' id _ b hg hp,?_⟩) (ho.2 hv')⟩;rcases r.ob id _ hg with⟨h1,_⟩|⟨b',h1,_,_,hrow⟩
    ·rw[hp]at h1;cases h1
    ·rw[hp]at h1;cases h1;exact rowUp hJ hrow
   |imm v' e' es=>
    obtain⟨_,h2,e3,e4⟩:=M.bind_some e2;obtain⟨hv,rfl⟩:=M.ok_some e3;obtain⟨rfl,rfl⟩:=M.ret_some e4;have hv':v'=ver:=by simpa using hv
    exact⟨rfl,fun J hJ _=>up hJ (sl_reads r hg rfl (ho.2 hv'))⟩
   |map _=>exact ho.elim
  |@ref _ id ver i j hr1 hr=>
   obtain⟨ob,h1,e1,e2⟩:=M.bind_some e;obtain⟨hg,rfl⟩:=M.look_some e1;unfold RefAt at hr;rw[hg]at hr;cases ob with
   |cells cs=>
    obtain⟨rfl,rfl,b,hφ,rfl⟩:=hr;obtain⟨_,h2,e3,e4⟩:=M.bind_some e2;obtain⟨-,rfl⟩:=M.ok_some e3;obtain⟨xs,h3,e5,e6⟩:=M.bind_some e4;obtain⟨rfl,rfl⟩:=M.ret_some e6;obtain⟨b',hφ',hnI,_,hc⟩:=r.ob id _ hg;rw[hφ]at hφ';cases hφ';obtain⟨V,hV⟩:=pick hc;obtain⟨rfl,hl,hx⟩:=ih.list k g r cs xs _ e5 V fun j c h=>(hV j c h).2.2
    have hlen:∀(j:Nat) (x:IV),xs[j]?=some x->∃c,cs[j]?=some c:=fun j x h=>by
     have:j<xs.length:=by
      rcases Nat.lt_or_ge j xs.length with h' | h'
      ·exact h'
      ·rw[List.getElem?_eq_none h']at h;cases h
     exact⟨_,List.getElem?_eq_getElem (by omega)⟩
    refine⟨rfl,fun J hJ hJ'=>.ptr b j (xs.drop j) (fun i=>V (j+i)) (hJ' id _ b hg hφ) (fun i x h=>?_) fun i x h=>?_⟩
    ·rw[List.getElem?_drop]at h;obtain⟨c,hc'⟩:=hlen _ x h;exact(hV _ c hc').1
    ·rw[List.getElem?_drop]at h;exact hx J hJ hJ' _ x h
   |buf v' e' es=>
    obtain⟨_,h2,e3,e4⟩:=M.bind_some e2;obtain⟨hv,rfl⟩:=M.ok_some e3;obtain⟨c,h3,e5,e6⟩:=M.bind_some e4;obtain⟨hc,rfl⟩:=M.lift_some e5;obtain⟨rfl,rfl⟩:=M.ret_some e6;have hv':v'=ver:=by simpa using hv
    obtain⟨b,hφ,rfl⟩:=hr.2 hv';refine⟨rfl,fun J hJ hJ'=>ref_reads' (hJ' id _ b hg hφ) ?_ hc⟩;rcases r.ob id _ hg with⟨h1,_⟩|⟨b',h1,_,_,hrow⟩
    ·rw[hφ]at h1;cases h1
    ·rw[hφ]at h1;cases h1;exact rowUp hJ hrow
   |imm v' e' es=>
    obtain⟨_,h2,e3,e4⟩:=M.bind_some e2;obtain⟨hv,rfl⟩:=M.ok_some e3;obtain⟨c,h3,e5,e6⟩:=M.bind_some e4;obtain⟨hc,rfl⟩:=M.lift_some e5;obtain⟨rfl,rfl⟩:=M.ret_some e6;have hv':v'=ver:=by simpa using hv
    exact⟨rfl,fun J hJ _=>up hJ (ref_reads r hg hc (hr.2 hv'))⟩
   |map _=>exact(M.fail_some e2).elim
  |@clo f caps cs hn hr=>
   obtain⟨xs,h1,e1,e2⟩:=M.bind_some e;obtain⟨rfl,rfl⟩:=M.ret_some e2;obtain⟨rfl,hl,hx⟩:=ih.list k g r cs xs _ e1 (fun j=>caps.getD j (.bool true)) fun j c h=>by
    have:j<caps.size:=by
     rcases Nat.lt_or_ge j cs.length with h' | h'
     ·omega
     ·rw[List.getElem?_eq_none h']at h;cases h
    exact hr j _ c (by simp[Array.getD,this]) h
   refine⟨rfl,fun J hJ hJ'=>.fn f caps xs (by omega) fun j v x h1 h2=>?_⟩;have:=hx J hJ hJ' j x h2
   rwa [show caps.getD j (.bool true)=v from by
    obtain⟨hj,he⟩:=Array.getElem?_eq_some_iff.1 h1;simp[Array.getD,hj,he]]at this
def Done (ν:Nat->Nat) (k:Cx) (g:Gh) (h':Hp) (r:AV) (res:Result Value):Prop:=
 ∃g' v,res = .ok v g'.w/\g'.h=h'/\Rel ν k g'/\Mono ν g g'/\RA ν g' v r
theorem Done.same {ν:Nat->Nat} {k:Cx} {g:Gh} (r:Rel ν k g) {v:Value} {x:AV} {res:Result Value} (hr:res = .ok v g.w) (h:RA ν g v x):Done ν k g g.h x res:=
 ⟨g,v,hr,rfl,r,.refl ν g,h⟩
def isAggD:TypeDesc->Bool
 |.struct _ | .array _ _=>true
 |_=>false
def tyB (P:Program) (t:TypeId) (sz:Nat) (agg:Bool):Bool:=
 match P.underlying t,P.info? t with
 |some d,some i=>isAggD d==agg&&i.size==sz&&(agg||sz==1)
 |_,_=>false
theorem tyB_spec {P:Program} {t:TypeId} {sz:Nat} {agg:Bool} (h:tyB P t sz agg=true) :
  ∃d i,P.underlying t=some d/\P.info? t=some i/\isAggD d=agg/\i.size=sz/\(agg=false->sz=1):=by
 unfold tyB at h;cases hu:P.underlying t with
 |none=>simp[hu]at h
 |some d=>
  cases hi:P.info? t with
  |none=>simp[hu,hi]at h
  |some i=>
   simp only[hu,hi,Bool.and_eq_true,beq_iff_eq,Bool.or_eq_true]at h;refine⟨d,i,rfl,rfl,h.1.1,h.1.2,fun ha=>?_⟩;rcases h.2 with h' | h'
   ·rw[ha]at h';cases h'
   ·exact h'
theorem run_isAgg {P:Program} {t:TypeId} {d:TypeDesc} (h:P.underlying t=some d) (w:World):(isAgg t).run P w = .ok (isAggD d) w:=by
 cases d<;>simp[isAgg,run_underlying h,isAggD]
theorem run_sizeOf {P:Program} {t:TypeId} {i:TypeInfo} (h:P.info? t=some i) (w:World):(Go.sizeOf t).run P w = .ok i.size w:=by
 simp[Go.sizeOf,typeInfo,h]
theorem mk_some {agg:Bool} {l:List AV} {h h':Hp} {r:AV} (e:(mk agg l).run h=some (r,h')):h'=h/\(agg=true/\r = .agg l\/agg=false/\l=[r]):=by
 unfold mk at e;cases agg with
 |true=>simp only[if_true]at e;obtain⟨rfl,rfl⟩:=M.ret_some e;exact⟨rfl,.inl ⟨rfl,rfl⟩⟩
 |false=>
  simp only[Bool.false_eq_true,if_false]at e
  match l with
  |[]=>exact(M.fail_some e).elim
  |[x]=>obtain⟨rfl,rfl⟩:=M.ret_some e;exact⟨rfl,.inr ⟨rfl,rfl⟩⟩
  |_::_::_=>exact(M.fail_some e).elim
theorem loadVar_ok {ν:Nat->Nat} {P:Program} {g:Gh} {t:TypeId} {sz:Nat} {agg:Bool} (ht:tyB P t sz agg=true) {b off:Nat} {l:List AV} (hl:l.length=sz)
  (hc:∀(i:Nat) (x:AV),l[i]?=some x->∃v,g.w.cell? ⟨b,off+i,none⟩=some v/\v.oneCell'=true/\RA ν g v x) {r:AV} (hr:agg=true/\r = .agg l\/agg=false/\l=[r]) :
  ∃v,(loadVar t ⟨b,off,none⟩).run P g.w = .ok v g.w/\RA ν g v r:=by
 obtain⟨d,i,hu,hi,ha,hs,h1⟩:=tyB_spec ht;obtain⟨V,hV⟩:=pick hc;rcases hr with⟨hagg,rfl⟩|⟨hagg,rfl⟩
 ·have hcells:(loadCells ⟨b,off,none⟩ i.size).run P g.w = .ok ((List.range i.size).map V).toArray g.w:=run_loadCells g.w _ _ V fun j hj=>by
   have:=(hV j (l[j]'(by omega)) (List.getElem?_eq_getElem (by omega))).1
   rwa [Addr.add_lit]
  refine⟨.agg ((List.range i.size).map V).toArray,?_,.agg (by simp;omega) (fun j v h=>?_) fun j v c h1 h2=>?_⟩
  ·simp[loadVar,run_isAgg hu,ha,hagg,run_sizeOf hi,hcells]
  ·obtain⟨hj,rfl⟩:j<i.size/\V j=v:=by
    have hj:j<i.size:=by
     rcases Nat.lt_or_ge j i.size with h' | h'
     ·exact h'
     ·simp[List.getElem?_eq_none (show(List.range i.size).length<=j by simpa using h')]at h
    exact⟨hj,by simpa[hj]using h⟩
   exact(hV j (l[j]'(by omega)) (List.getElem?_eq_getElem (by omega))).2.1
  ·have hj:j<l.length:=by
    rcases Nat.lt_or_ge j l.length with h' | h'
    ·exact h'
    ·rw[List.getElem?_eq_none h']at h2;cases h2
   obtain rfl:V j=v:=by simpa[show j<i.size by omega]using h1
   exact(hV j c h2).2.2
 ·have h0:=hV 0 r rfl;refine⟨V 0,?_,h0.2.2⟩;have:=h0.1;simp only[Nat.add_zero]at this;simp[loadVar,run_isAgg hu,ha,hagg,this]
theorem obRead_ok {ν:Nat->Nat} {k:Cx} {g:Gh} (r:Rel ν k g) {id ver i j sz:Nat} {ob:Ob} {l:List AV} (hg:get g.h id=some ob) (hl:obRead ob ver i j sz=some l) {v:Value}
  (h:RefAt g v id ver i j):∃b off,v = .pointer (some ⟨b,off,none⟩)/\∀(m:Nat) (x:AV),l[m]?=some x->∃v,g.w.cell? ⟨b,off+m,none⟩=some v/\v.oneCell'=true/\RA ν g v x:=by
 unfold RefAt at h;rw[hg]at h;have old:=r.ob id _ hg;have row:∀{b e:Nat} {es:List (List IV)} {c:List IV},Row ν g.I g.w b e es->es[i]?=some c->∀(m:Nat) (x:AV),(((c.drop j).take sz).map AV.iv)[m]?=some x->
   ∃v,g.w.cell? ⟨b,i*e+j+m,none⟩=some v/\v.oneCell'=true/\RA ν g v x:=by
  intro b e es c hrow hc m x hx;simp only[List.getElem?_map,List.getElem?_take,Option.map_eq_some_iff]at hx;obtain⟨y,hy,rfl⟩:=hx;split at hy
  ·rw[List.getElem?_drop]at hy;obtain⟨v,h1,h2⟩:=hrow.2 i (j+m) c y hc hy;exact⟨v,by rw[Nat.add_assoc];exact h1,h2.one,.iv h2⟩
  ·cases hy
 cases ob with
 |cells cs=>
  obtain⟨rfl,rfl,b,hφ,rfl⟩:=h;obtain⟨b',hφ',_,_,hc⟩:=old;rw[hφ]at hφ';cases hφ';simp only[obRead,true_and,if_true,Option.some.injEq]at hl;subst hl;refine⟨b,j,rfl,fun m x hx=>?_⟩;rw[List.getElem?_take]at hx;split at hx
  ·rw[List.getElem?_drop]at hx;exact hc _ _ hx
  ·cases hx
 |buf v' e es=>
  simp only[obRead]at hl;split at hl
  ·rename_i hv;obtain⟨b,hφ,rfl⟩:=h.2 hv;simp only[Option.map_eq_some_iff]at hl;obtain⟨c,hc,rfl⟩:=hl;rcases old with⟨h1,_⟩|⟨b',h1,_,_,hrow⟩
   ·rw[hφ]at h1;cases h1
   ·rw[hφ]at h1;cases h1;exact⟨b,_,rfl,row hrow hc⟩
  ·cases hl
 |imm v' e es=>
  simp only[obRead]at hl;split at hl
  ·rename_i hv;obtain⟨b,hφ,rfl⟩:=h.2 hv;simp only[Option.map_eq_some_iff]at hl;obtain⟨c,hc,rfl⟩:=hl;rcases old with⟨h1,_⟩|⟨b',h1,_,hrow⟩
   ·rw[hφ]at h1;cases h1
   ·rw[hφ]at h1;cases h1;exact⟨b,_,rfl,row hrow hc⟩
  ·cases hl
 |map _=>simp[obRead]at hl
theorem load_at {ν:Nat->Nat} {P:Program} {k:Cx} {g:Gh} (r:Rel ν k g) {t:TypeId} {sz:Nat} {agg:Bool} (ht:tyB P t sz agg=true) {v:Value} {x y:AV} {h':Hp} (hv:RA ν g v x)
  (e:(load agg sz x).run g.h=some (y,h')):h'=g.h/\∃u,(Instr.loadAt t v).run P g.w = .ok u g.w/\RA ν g u y:=by
 cases hv with
 |undef=>exact(M.fail_some e).elim
 |agg=>exact(M.fail_some e).elim
 |tup=>exact(M.fail_some e).elim
 |own=>exact(M.fail_some e).elim
 |clo=>exact(M.fail_some e).elim
 |iv hr=>
  cases hr with
  |ptr b off cs f hI hc hr=>
   obtain⟨_,h1,e1,e2⟩:=M.bind_some e;obtain⟨hl,rfl⟩:=M.ok_some e1;obtain⟨rfl,hm⟩:=mk_some e2;have hl':((cs.take sz).map AV.iv).length=sz:=by simpa using hl
   obtain⟨u,hu,hR⟩:=loadVar_ok (ν:=ν) (g:=g) ht (b:=b) (off:=off) hl' (fun i x hx=>by
    simp only[List.getElem?_map,Option.map_eq_some_iff,List.getElem?_take]at hx;obtain⟨y,hy,rfl⟩:=hx;split at hy
    ·exact⟨f i,hc i y hy,(hr i y hy).one,.iv (hr i y hy)⟩
    ·cases hy) hm
   exact⟨rfl,u,by simp[Instr.loadAt,Instr.sureAddr,hu],hR⟩
  |_=>exact(M.fail_some e).elim
 |ref hr1 hr=>
  obtain⟨ob,h1,e1,e2⟩:=M.bind_some e;obtain⟨hg,rfl⟩:=M.look_some e1;obtain⟨l,h2,e3,e4⟩:=M.bind_some e2;obtain⟨hl,rfl⟩:=M.lift_some e3;obtain⟨_,h3,e5,e6⟩:=M.bind_some e4;obtain⟨hl',rfl⟩:=M.ok_some e5;obtain⟨rfl,hm⟩:=mk_some e6;obtain⟨b,off,rfl,hc⟩:=obRead_ok r hg hl hr;obtain⟨u,hu,hR⟩:=loadVar_ok (ν:=ν) (g:=g) ht (b:=b) (off:=off) (by simpa using hl') hc hm;exact⟨rfl,u,by simp[Instr.loadAt,Instr.sureAddr,hu],hR⟩
theorem load_ok {ν:Nat->Nat} {P:Program} {k:Cx} {g:Gh} (r:Rel ν k g) {t:TypeId} {sz:Nat} {agg:Bool} (ht:tyB P t sz agg=true) {v:Value} {x y:AV} {h':Hp} (hv:RA ν g v x)
  (e:(load agg sz x).run g.h=some (y,h')):Done ν k g h' y ((Instr.loadAt t v).run P g.w):=by
 obtain⟨rfl,u,hu,hR⟩:=load_at r ht hv e;exact .same r hu hR
theorem RefAt.move {g:Gh} {v:Value} {id ver i j:Nat} {ob:Ob} (hg:get g.h id=some ob) (hv:valid ob ver i=true) (h:RefAt g v id ver i j) (n:Nat) :
  ∃b off,v = .pointer (some ⟨b,off,none⟩)/\RefAt g (.pointer (some ⟨b,off+n,none⟩)) id ver i (j+n):=by
 unfold RefAt at h ⊢;rw[hg]at h ⊢;cases ob with
 |cells cs=>
  obtain⟨rfl,rfl,b,hφ,rfl⟩:=h;exact⟨b,j,rfl,rfl,rfl,b,hφ,rfl⟩
 |buf v' e es=>
  obtain⟨b,hφ,rfl⟩:=h.2 (by simpa[valid]using hv);exact⟨b,_,rfl,h.1,fun _=>⟨b,hφ,by rw[Nat.add_assoc]⟩⟩
 |imm v' e es=>
  obtain⟨b,hφ,rfl⟩:=h.2 (by simpa[valid]using hv);exact⟨b,_,rfl,h.1,fun _=>⟨b,hφ,by rw[Nat.add_assoc]⟩⟩
 |map _=>simp[valid]at hv
theorem RI.drop {ν:Nat->Nat} {I:Nat->Prop} {w:World} {b off n:Nat} {cs:List IV} (h:RI ν I w (.pointer (some ⟨b,off,none⟩)) (.ptr cs)) :
  RI ν I w (.pointer (some ⟨b,off+n,none⟩)) (.ptr (cs.drop n)):=by
 cases h with
 |ptr _ _ _ f hI hc hr=>
  refine .ptr b (off+n) _ (fun j=>f (n+j)) hI (fun j x hx=>?_) fun j x hx=>?_
  ·rw[List.getElem?_drop]at hx;rw[Nat.add_assoc];exact hc _ _ hx
  ·rw[List.getElem?_drop]at hx;exact hr _ _ hx
def fadrB (P:Program) (s:TypeId) (f off:Nat):Bool:=
 match P.underlying s with
 |some (.struct fs)=>match fs[f]? with
  |some fd=>fd.offset==off&&(match P.info? fd.type with | some i=>i.size != 0 | none=>false)
  |none=>false
 |_=>false
theorem fadr_ok {ν:Nat->Nat} {P:Program} {k:Cx} {g:Gh} (r:Rel ν k g) {s:TypeId} {f off:Nat} (ht:fadrB P s f off=true) {v:Value} {x y:AV} {h':Hp} (hv:RA ν g v x)
  (e:(fadr off x).run g.h=some (y,h')):Done ν k g h' y ((Instr.fieldAt s v f).run P g.w):=by
 unfold fadrB at ht;split at ht
 ·rename_i fs hu;split at ht
  ·rename_i fd hf;simp only[Bool.and_eq_true,beq_iff_eq]at ht;obtain⟨rfl,hsz⟩:=ht;split at hsz
   ·rename_i i hi;have hne:¬i.size=0:=by simpa using hsz
    have key:∀(b o:Nat),(Instr.fieldAt s (.pointer (some ⟨b,o,none⟩)) f).run P g.w = .ok (.pointer (some ⟨b,o+fd.offset,none⟩)) g.w:=by
     intro b o;simp[Instr.fieldAt,run_underlying hu,hf,Instr.sureAddr,fieldPlace,run_sizeOf hi,hne,Addr.add_lit]
    cases hv with
    |undef=>exact(M.fail_some e).elim
    |agg=>exact(M.fail_some e).elim
    |tup=>exact(M.fail_some e).elim
    |own=>exact(M.fail_some e).elim
    |clo=>exact(M.fail_some e).elim
    |iv hr=>
     cases hr with
     |ptr b o cs f' hI hc hr=>
      obtain⟨_,h1,e1,e2⟩:=M.bind_some e;obtain⟨-,rfl⟩:=M.ok_some e1;obtain⟨rfl,rfl⟩:=M.ret_some e2;exact .same r (key _ _) (.iv (RI.drop (.ptr b o cs f' hI hc hr)))
     |_=>exact(M.fail_some e).elim
    |ref hr1 hr=>
     obtain⟨ob,h1,e1,e2⟩:=M.bind_some e;obtain⟨hg,rfl⟩:=M.look_some e1;obtain⟨_,h2,e3,e4⟩:=M.bind_some e2;obtain⟨hva,rfl⟩:=M.ok_some e3;obtain⟨rfl,rfl⟩:=M.ret_some e4;obtain⟨b,o,rfl,hR⟩:=hr.move hg hva fd.offset;exact .same r (key _ _) (.ref rfl hR)
   ·cases hsz
  ·cases ht
 ·cases ht
theorem idx_some {x:AV} {n:Int} {h h':Hp} (e:(idx x).run h=some (n,h')):h'=h/\∃k,x = .iv (.int k n):=by
 unfold idx at e;split at e
 ·obtain⟨rfl,rfl⟩:=M.ret_some e;exact⟨rfl,_,rfl⟩
 ·exact(M.fail_some e).elim
def iarrB (P:Program) (t:TypeId) (len e:Nat):Bool:=
 match P.underlying t with
 |some (.array n el)=>n==len&&(match P.info? el with | some i=>i.size==e | none=>false)
 |_=>false
theorem iarrB_spec {P:Program} {t:TypeId} {len e:Nat} (h:iarrB P t len e=true):∃el i,P.underlying t=some (.array len el)/\P.info? el=some i/\i.size=e:=by
 unfold iarrB at h;split at h
 ·rename_i n el hu;simp only[Bool.and_eq_true,beq_iff_eq]at h;obtain⟨rfl,h⟩:=h;split at h
  ·rename_i i hi;exact⟨el,i,hu,hi,by simpa using h⟩
  ·cases h
 ·cases h
theorem iarr_ok {ν:Nat->Nat} {P:Program} {k:Cx} {g:Gh} (r:Rel ν k g) {t:TypeId} {len e:Nat} (ht:iarrB P t len e=true) {v u:Value} {x z y:AV} {h':Hp} (hv:RA ν g v x) (hu:RA ν g u z)
  (e':(iarr len e x z).run g.h=some (y,h')):Done ν k g h' y ((Instr.indexAt t v u).run P g.w):=by
 obtain⟨el,i,hu',hi,rfl⟩:=iarrB_spec ht;obtain⟨n,h1,e1,e2⟩:=M.bind_some e';obtain⟨rfl,kk,rfl⟩:=idx_some e1;cases hu with
 |iv hz=>
  cases hz;obtain⟨_,h2,e3,e4⟩:=M.bind_some e2;obtain⟨hn,rfl⟩:=M.ok_some e3;have hn':0<=n/\n<len:=by simpa using hn
  have key:∀(b o:Nat),(Instr.indexAt t (.pointer (some ⟨b,o,none⟩)) (.int kk n)).run P g.w = .ok (.pointer (some ⟨b,o+n.toNat*i.size,none⟩)) g.w:=by
   intro b o;simp[Instr.indexAt,run_underlying hu',Instr.sureAddr,asIntOf,hn',run_sizeOf hi,Addr.add_lit]
  cases hv with
  |undef=>exact(M.fail_some e4).elim
  |agg=>exact(M.fail_some e4).elim
  |tup=>exact(M.fail_some e4).elim
  |own=>exact(M.fail_some e4).elim
  |clo=>exact(M.fail_some e4).elim
  |iv hr=>
   cases hr with
   |ptr b o cs f' hI hc hr=>
    obtain⟨_,h1,e1,e2⟩:=M.bind_some e4;obtain⟨-,rfl⟩:=M.ok_some e1;obtain⟨rfl,rfl⟩:=M.ret_some e2;exact .same r (key _ _) (.iv (RI.drop (.ptr b o cs f' hI hc hr)))
   |_=>exact(M.fail_some e4).elim
  |ref hr1 hr=>
   obtain⟨ob,h1,e1,e2⟩:=M.bind_some e4;obtain⟨hg,rfl⟩:=M.look_some e1;obtain⟨_,h2,e3,e4⟩:=M.bind_some e2;obtain⟨hva,rfl⟩:=M.ok_some e3;obtain⟨rfl,rfl⟩:=M.ret_some e4;obtain⟨b,o,rfl,hR⟩:=hr.move hg hva (n.toNat*i.size);exact .same r (key _ _) (.ref rfl hR)
def sliceB (P:Program) (t:TypeId) (e:Nat):Bool:=
 match P.underlying t with
 |some (.slice el)=>(match P.info? el with | some i=>i.size==e | none=>false)
 |_=>false
theorem sliceB_spec {P:Program} {t:TypeId} {e:Nat} (h:sliceB P t e=true):∃el i,P.underlying t=some (.slice el)/\P.info? el=some i/\i.size=e:=by
 unfold sliceB at h;split at h
 ·rename_i el hu;split at h
  ·rename_i i hi;exact⟨el,i,hu,hi,by simpa using h⟩
  ·cases h
 ·cases h
theorem isl_ok {ν:Nat->Nat} {P:Program} {k:Cx} {g:Gh} (r:Rel ν k g) {t:TypeId} {e:Nat} (ht:sliceB P t e=true) {v u:Value} {x z y:AV} {h':Hp} (hv:RA ν g v x) (hu:RA ν g u z)
  (e':(isl e x z).run g.h=some (y,h')):Done ν k g h' y ((Instr.indexAt t v u).run P g.w):=by
 obtain⟨el,i,hu',hi,rfl⟩:=sliceB_spec ht;obtain⟨n,h1,e1,e2⟩:=M.bind_some e';obtain⟨rfl,kk,rfl⟩:=idx_some e1;cases hu with
 |iv hz=>
  cases hz;obtain⟨_,h2,e3,e4⟩:=M.bind_some e2;obtain⟨hn,rfl⟩:=M.ok_some e3;have hn':0<=n:=by simpa using hn
  have key:∀(b o len cap:Nat),n<(len:Int)->(Instr.indexAt t (.slice (some ⟨b,o,none⟩) len cap) (.int kk n)).run P g.w = .ok (.pointer (some ⟨b,o+n.toNat*i.size,none⟩)) g.w:=by
   intro b o len cap hlt;simp[Instr.indexAt,run_underlying hu',asIntOf,hn',hlt,run_sizeOf hi,Addr.add_lit]
  cases hv with
  |undef=>exact(M.fail_some e4).elim
  |agg=>exact(M.fail_some e4).elim
  |tup=>exact(M.fail_some e4).elim
  |ref=>exact(M.fail_some e4).elim
  |clo=>exact(M.fail_some e4).elim
  |iv hr=>
   cases hr with
   |sl0 a cap e''=>
    obtain⟨_,h1,e1,e2⟩:=M.bind_some e4;obtain⟨-,rfl⟩:=M.ok_some e1;obtain⟨c,h2,e5,e6⟩:=M.bind_some e2;obtain⟨hc,rfl⟩:=M.lift_some e5;simp at hc
   |sl b off m cap e'' es f hI hm hcap hl hc hr=>
    obtain⟨_,h1,e1,e2⟩:=M.bind_some e4;obtain⟨he,rfl⟩:=M.ok_some e1;obtain⟨c,h2,e5,e6⟩:=M.bind_some e2;obtain⟨hc',rfl⟩:=M.lift_some e5;obtain⟨rfl,rfl⟩:=M.ret_some e6;have he':e''=i.size:=by simpa using he
    subst he';have hlt:n.toNat<es.length:=by
     rcases Nat.lt_or_ge n.toNat es.length with h | h
     ·exact h
     ·rw[List.getElem?_eq_none h]at hc';cases hc'
    refine .same r (key b off m cap (by omega)) (.iv (.ptr b _ c (fun j=>f n.toNat j) hI (fun j x hx=>?_) fun j x hx=>hr _ _ _ _ hc' hx));exact hc _ _ _ _ hc' hx
   |_=>exact(M.fail_some e4).elim
  |@own _ id o m ver ho1 ho=>
   obtain⟨_,h1,e1,e2⟩:=M.bind_some e4;obtain⟨hm,rfl⟩:=M.ok_some e1;obtain⟨ob,h2,e3,e5⟩:=M.bind_some e2;obtain⟨hg,rfl⟩:=M.look_some e3;have hm':n<(m:Int):=by simpa using hm
   unfold OwnAt at ho;rw[hg]at ho;have fin:∀{v' e'':Nat} {es:List (List IV)},(get g.h id=some (.buf v' e'' es)\/get g.h id=some (.imm v' e'' es))->v'=ver->e''=i.size->SlAt g.w (g.φ id) e'' es o m v->
     Done ν k g g.h (.ref id ver (o+n.toNat) 0) ((Instr.indexAt t v (.int kk n)).run P g.w):=by
    intro v' e'' es hg' hv he hs;cases hφ:g.φ id with
    |none=>rw[hφ]at hs;obtain⟨_,rfl⟩:=hs;omega
    |some b=>
     rw[hφ]at hs;obtain⟨x,cap,rfl,h2,h3,h4,_⟩:=hs;have hx:x=o*e'':=h4.resolve_right fun h=>by have:=h.1;omega
     subst hx he;refine .same r (key b _ m cap hm') (.ref rfl ?_);unfold RefAt;rcases hg' with hg' | hg'<;>rw[hg']<;>exact⟨Nat.le_of_eq hv.symm,fun _=>⟨b,hφ,by rw[Nat.add_mul];rfl⟩⟩
   cases ob with
   |cells cs=>exact ho.elim
   |buf v' e'' es=>
    obtain⟨_,h3,e6,e7⟩:=M.bind_some e5;obtain⟨hve,rfl⟩:=M.ok_some e6;obtain⟨rfl,rfl⟩:=M.ret_some e7;simp only[Bool.and_eq_true,beq_iff_eq]at hve;exact fin (.inl hg) hve.1 hve.2 (ho.2 hve.1)
   |imm v' e'' es=>
    obtain⟨_,h3,e6,e7⟩:=M.bind_some e5;obtain⟨hve,rfl⟩:=M.ok_some e6;obtain⟨rfl,rfl⟩:=M.ret_some e7;simp only[Bool.and_eq_true,beq_iff_eq]at hve;exact fin (.inr hg) hve.1 hve.2 (ho.2 hve.1)
   |map _=>exact ho.elim
section
variable {ν:Nat->Nat} {P:Program} {k:Cx} {g:Gh}
theorem RA.int {v:Value} {kk:IntKind} {n:Int} (h:RA ν g v (.iv (.int kk n))):v = .int kk n:=by cases h with | iv h=>cases h;rfl
theorem RA.bool {v:Value} {b:Bool} (h:RA ν g v (.iv (.bool b))):v = .bool b:=by cases h with | iv h=>cases h;rfl
theorem RA.str {v:Value} {s:ByteArray} (h:RA ν g v (.iv (.str s))):v = .string s:=by cases h with | iv h=>cases h;rfl
theorem RA.nilp {v:Value} (h:RA ν g v (.iv .nilp)):v = .pointer none:=by cases h with | iv h=>cases h;rfl
theorem RA.ptr {v:Value} {cs:List IV} (h:RA ν g v (.iv (.ptr cs))):∃b off,v = .pointer (some ⟨b,off,none⟩):=by cases h with | iv h=>cases h;exact⟨_,_,rfl⟩
theorem mkInt {kk:IntKind} {n:Int}:RA ν g (.int kk n) (.iv (.int kk n)):=.iv (.int _ _)
theorem mkBool {b:Bool}:RA ν g (.bool b) (.iv (.bool b)):=.iv (.bool _)
theorem part_ok {t:TypeId} {sz off:Nat} {agg:Bool} (ht:tyB P t sz agg=true) {vs:Array Value} {cs:List AV} (hv:RA ν g (.agg vs) (.agg cs)) (hl:((cs.drop off).take sz).length=sz)
  {r:AV} (hr:agg=true/\r = .agg ((cs.drop off).take sz)\/agg=false/\(cs.drop off).take sz=[r]) (w:World):∃v,(part t vs off).run P w = .ok v w/\RA ν g v r:=by
 obtain⟨d,i,hu,hi,ha,hs,h1⟩:=tyB_spec ht;subst hs;cases hv with
 |agg hn ho hrr=>
  have hfit:off+i.size<=cs.length\/i.size=0:=by simp only[List.length_take,List.length_drop]at hl;omega
  rcases hr with⟨hagg,rfl⟩|⟨hagg,hr⟩
  ·have key:∀(j:Nat) (v:Value),(vs.extract off (off+i.size))[j]?=some v->vs[off+j]?=some v/\j<i.size:=by
    intro j v h;rw[Array.getElem?_extract]at h;split at h
    ·exact⟨h,by omega⟩
    ·cases h
   refine⟨.agg (vs.extract off (off+i.size)),by simp[part,run_isAgg hu,ha,hagg,run_sizeOf hi],.agg (by simp only[Array.size_extract,hl];omega) (fun j v h=>ho _ v (key j v h).1) fun j v c h h2=>?_⟩;obtain⟨h',hlt⟩:=key j v h;rw[List.getElem?_take,if_pos hlt,List.getElem?_drop]at h2;exact hrr _ v c h' h2
  ·have hz:i.size=1:=h1 hagg;have hc:cs[off]?=some r:=by
    have:((cs.drop off).take i.size)[0]?=some r:=by rw[hr];rfl
    rw[List.getElem?_take,if_pos (by omega),List.getElem?_drop]at this;simpa using this
   have hlt:off<vs.size:=by omega
   refine⟨vs[off],by simp[part,run_isAgg hu,ha,hagg,Array.getElem?_eq_getElem hlt],hrr off _ r (Array.getElem?_eq_getElem hlt) hc⟩
theorem fld_run {agg:Bool} {off sz:Nat} {x y:AV} {h h':Hp} (e:(fld agg off sz x).run h=some (y,h')) :
  h'=h/\∃cs,x = .agg cs/\((cs.drop off).take sz).length=sz/\(agg=true/\y = .agg ((cs.drop off).take sz)\/agg=false/\(cs.drop off).take sz=[y]):=by
 unfold fld at e;split at e
 ·rename_i cs;obtain⟨_,h1,e1,e2⟩:=M.bind_some e;obtain⟨hl,rfl⟩:=M.ok_some e1;obtain⟨rfl,hm⟩:=mk_some e2;exact⟨rfl,cs,rfl,by simpa using hl,hm⟩
 ·exact(M.fail_some e).elim
theorem RA.aggv {v:Value} {cs:List AV} (h:RA ν g v (.agg cs)):∃vs,v = .agg vs:=by cases h;exact⟨_,rfl⟩
def xarrB (P:Program) (t:TypeId) (agg:Bool) (len e:Nat):Bool:=
 match P.underlying t with
 |some (.array n el)=>n==len&&tyB P el e agg
 |_=>false
theorem xarr_ok (r:Rel ν k g) {t:TypeId} {len e:Nat} {agg:Bool} (ht:xarrB P t agg len e=true) {v u:Value} {x z y:AV} {h':Hp} (hv:RA ν g v x) (hu:RA ν g u z)
  (e':(xarr agg len e x z).run g.h=some (y,h')):Done ν k g h' y ((Instr.index t v u).run P g.w):=by
 unfold xarrB at ht;split at ht
 ·rename_i n el hu';simp only[Bool.and_eq_true,beq_iff_eq]at ht;obtain⟨rfl,ht⟩:=ht;obtain⟨m,h1,e1,e2⟩:=M.bind_some e';obtain⟨rfl,kk,rfl⟩:=idx_some e1;obtain rfl:=hu.int;obtain⟨_,h2,e3,e4⟩:=M.bind_some e2;obtain⟨hm,rfl⟩:=M.ok_some e3;have hm':0<=m/\m<n:=by simpa using hm
  obtain⟨rfl,cs,rfl,hl,hmk⟩:=fld_run e4;obtain⟨vs,rfl⟩:=hv.aggv;obtain⟨d,i,_,hi,_,hs,_⟩:=tyB_spec ht;obtain⟨u,hu'',hR⟩:=part_ok ht hv hl hmk g.w;exact .same r (by simp[Instr.index,run_underlying hu',asIntOf,hm',run_sizeOf hi,hs,hu'']) hR
 ·cases ht
theorem xstr_ok (r:Rel ν k g) {t:TypeId} (ht:P.underlying t=some .string) {v u:Value} {x z y:AV} {h':Hp} (hv:RA ν g v x) (hu:RA ν g u z)
  (e:(xstr x z).run g.h=some (y,h')):Done ν k g h' y ((Instr.index t v u).run P g.w):=by
 unfold xstr at e;split at e
 ·rename_i s kk n;obtain rfl:=hv.str;obtain rfl:=hu.int;obtain⟨_,h1,e1,e2⟩:=M.bind_some e;obtain⟨hn,rfl⟩:=M.ok_some e1;have hn':0<=n:=by simpa using hn
  split at e2
  ·rename_i b hb;obtain⟨rfl,rfl⟩:=M.ret_some e2;exact .same r (by simp[Instr.index,run_underlying ht,asIntOf,hn',hb]) mkInt
  ·exact(M.fail_some e2).elim
 ·exact(M.fail_some e).elim
theorem intBin_ok {op:BinOp} {t:TypeId} {kk k':IntKind} {a b:Int} {z:IV} (h:intBin op kk k' a b=some z) (w:World) :
  ∃v,(binOp op t (.int kk a) (.int k' b)).run P w = .ok v w/\RI ν g.I g.w v z:=by
 cases op
 case shl=>
  simp only[intBin]at h;split at h
  ·cases h
  ·rename_i hb;cases h;exact⟨_,by simp[binOp,Op.shift,hb],.int _ _⟩
 case shr=>
  simp only[intBin]at h;split at h
  ·cases h
  ·rename_i hb;cases h;exact⟨_,by simp[binOp,Op.shift,hb],.int _ _⟩
 all_goals
  simp only[intBin]at h;split at h
  case isFalse=>cases h
  rename_i hk;subst hk
 case quo=>
  split at h
  ·cases h
  ·rename_i hb;cases h;exact⟨_,by simp[binOp,Op.intDiv,hb],.int _ _⟩
 case rem=>
  split at h
  ·cases h
  ·rename_i hb;cases h;exact⟨_,by simp[binOp,Op.intDiv,hb],.int _ _⟩
 all_goals cases h
 case add | sub | mul=>exact⟨_,by simp[binOp,Op.intArith],.int _ _⟩
 case and | or | xor | andNot=>exact⟨_,by simp[binOp];rfl,.int _ _⟩
 all_goals exact⟨_,by simp[binOp,Op.intCmp],.bool _⟩
theorem strBin_ok {op:BinOp} {t:TypeId} {a b:ByteArray} {z:IV} (h:strBin op a b=some z) (w:World) :
  ∃v,(binOp op t (.string a) (.string b)).run P w = .ok v w/\RI ν g.I g.w v z:=by
 cases op<;>simp only[strBin]at h<;>(try cases h)
 case add=>
  split at h
  ·rename_i hb;cases h;refine⟨.string (a++b),?_,.str _⟩;have:¬(9223372036854775807:Int)<((a.size:Int)+b.size):=by omega
   simp[binOp,Op.stringOp,this]
  ·cases h
 all_goals exact⟨_,by simp[binOp,Op.stringOp,sless,beq_toListBytes],.bool _⟩
def qOf (P:Program) (op:BinOp) (t:TypeId) (q:Nat):Bool:=
 match q with
 |0=>true
 |1=>(match P.underlying t with | some .bool=>true | _=>false)
 |2=>(match P.underlying t with | some (.pointer _)=>true | _=>false)
 |_=>op==op
theorem run_equalIn_nil (d:Nat) {t el:TypeId} (h:P.underlying t=some (.pointer el)) (w:World):(Op.equalIn (d+1) t (.pointer none) (.pointer none)).run P w = .ok true w:=by simp[Op.equalIn,run_underlying h]
theorem run_equalIn_nilr (d:Nat) {t el:TypeId} (h:P.underlying t=some (.pointer el)) (a:Addr) (w:World):(Op.equalIn (d+1) t (.pointer (some a)) (.pointer none)).run P w = .ok false w:=by simp[Op.equalIn,run_underlying h]
theorem run_equalIn_nill (d:Nat) {t el:TypeId} (h:P.underlying t=some (.pointer el)) (a:Addr) (w:World):(Op.equalIn (d+1) t (.pointer none) (.pointer (some a))).run P w = .ok false w:=by simp[Op.equalIn,run_underlying h]
theorem ptr_eql {t:TypeId} {a b:Option Addr} {z:Bool} (h:∀(d:Nat) (w:World),(Op.equalIn (d+1) t (.pointer a) (.pointer b)).run P w = .ok z w) (x y:Operand) (w:World) :
  ((do eqGuard .eql t x y (.pointer a) (.pointer b);binOp .eql t (.pointer a) (.pointer b):Sem Value).run P w = .ok (.bool z) w)/\
  ((do eqGuard .neq t x y (.pointer a) (.pointer b);binOp .neq t (.pointer a) (.pointer b):Sem Value).run P w = .ok (.bool (!z)) w):=by
 have h':(Op.equal t (.pointer a) (.pointer b)).run P w = .ok z w:=h 9999 w;constructor
 ·simp only[Sem.run_bind,eqGuard_at_pointer,Sem.run_pure,Result.andThen_ok,binOp];simp[h']
 ·simp only[Sem.run_bind,eqGuard_at_pointer,Sem.run_pure,Result.andThen_ok,binOp];simp[h']
theorem bin_ok (r:Rel ν k g) {op:BinOp} {t:TypeId} {q:Nat} (ht:qOf P op t q=true) {a b:Operand} {v u:Value} {x z:AV} {y:IV} (hv:RA ν g v x) (hu:RA ν g u z) (e:bin op q x z=some y) :
  Done ν k g g.h (.iv y) ((do eqGuard op t a b v u;binOp op t v u:Sem Value).run P g.w):=by
 unfold bin at e;split at e
 ·obtain rfl:=hv.int;obtain rfl:=hu.int;obtain⟨w',h1,h2⟩:=intBin_ok (ν:=ν) (P:=P) (g:=g) (t:=t) e g.w;exact .same r (by simp[eqGuard_at_int,h1]) (.iv h2)
 ·obtain rfl:=hv.str;obtain rfl:=hu.str;obtain⟨w',h1,h2⟩:=strBin_ok (ν:=ν) (P:=P) (g:=g) (t:=t) e g.w;exact .same r (by simp[eqGuard_at_string,h1]) (.iv h2)
 ·obtain rfl:=hv.bool;obtain rfl:=hu.bool;have ht':P.underlying t=some .bool:=by
   simp only[qOf]at ht;split at ht
   ·assumption
   ·cases ht
  split at e
  ·cases e;exact .same r (by simp only[Sem.run_bind,eqGuard_at_bool,Sem.run_pure,Result.andThen_ok];exact run_eql_bool _ _ _ _ ht') mkBool
  ·cases e;refine .same r (v:=.bool (!_)) ?_ mkBool;simp only[Sem.run_bind,eqGuard_at_bool,Sem.run_pure,Result.andThen_ok,binOp];simp[run_equal_bool g.w t _ _ ht']
  ·cases e
 case h_7=>cases e
 all_goals
  have ht':∃el,P.underlying t=some (.pointer el):=by
   simp only[qOf]at ht;split at ht
   ·exact⟨_,by assumption⟩
   ·cases ht
  obtain⟨el,ht'⟩:=ht'
 ·obtain rfl:=hv.nilp;obtain rfl:=hu.nilp;have key:=ptr_eql (P:=P) (fun d w=>run_equalIn_nil d ht' w) a b g.w;split at e
  ·cases e;exact .same r key.1 mkBool
  ·cases e;exact .same r key.2 mkBool
  ·cases e
 ·obtain⟨b',off,rfl⟩:=hv.ptr;obtain rfl:=hu.nilp;have key:=ptr_eql (P:=P) (fun d w=>run_equalIn_nilr d ht' ⟨b',off,none⟩ w) a b g.w;split at e
  ·cases e;exact .same r key.1 mkBool
  ·cases e;exact .same r key.2 mkBool
  ·cases e
 ·obtain rfl:=hv.nilp;obtain⟨b',off,rfl⟩:=hu.ptr;have key:=ptr_eql (P:=P) (fun d w=>run_equalIn_nill d ht' ⟨b',off,none⟩ w) a b g.w;split at e
  ·cases e;exact .same r key.1 mkBool
  ·cases e;exact .same r key.2 mkBool
  ·cases e
def qtyB (q:Nat) (d:Option TypeDesc):Bool:=
 match d with
 |some (.int _)=>q==0
 |some .bool=>q==1
 |some .string=>q==2
 |_=>false
theorem qtyB_int {d:Option TypeDesc} (h:qtyB 0 d=true):∃kk,d=some (.int kk):=by
 unfold qtyB at h;split at h<;>first | exact⟨_,rfl⟩|simp at h
theorem qtyB_bool {d:Option TypeDesc} (h:qtyB 1 d=true):d=some .bool:=by
 unfold qtyB at h;split at h<;>first | rfl | simp at h
theorem qtyB_str {d:Option TypeDesc} (h:qtyB 2 d=true):d=some .string:=by
 unfold qtyB at h;split at h<;>first | rfl | simp at h
def eqB (P:Program):List Field->List Nat->Nat->Bool
 |[],[],_=>true
 |f::fs,q::qs,i=>f.name != "_"&&f.offset==i&&tyB P f.type 1 false&&qtyB q (P.underlying f.type)&&eqB P fs qs (i+1)
 |_,_,_=>false
theorem eq0_ok {q:Nat} {t:TypeId} {x y:AV} {b:Bool} (e:eq0 q x y=some b) (ht:qtyB q (P.underlying t)=true) {v u:Value} (hv:RA ν g v x) (hu:RA ν g u y) (d:Nat) (w:World) :
  (Op.equalIn (d+1) t v u).run P w = .ok b w:=by
 unfold eq0 at e;split at e
 ·obtain rfl:=hv.int;obtain rfl:=hu.int;obtain⟨kk,h1⟩:=qtyB_int ht;simp only[Option.ite_none_right_eq_some,Option.some.injEq]at e;obtain⟨hk,rfl⟩:=e;subst hk;exact run_equalIn_int w d t _ _ _ _ h1
 ·cases e;obtain rfl:=hv.bool;obtain rfl:=hu.bool;exact run_equalIn_bool w d t _ _ (qtyB_bool ht)
 ·cases e;obtain rfl:=hv.str;obtain rfl:=hu.str;rw[run_equalIn_string w d t _ _ (qtyB_str ht),beq_toListBytes]
 ·cases e
theorem eqs_ok {xs ys:Array Value} (d:Nat) (w:World):∀(fs:List Field) (qs:List Nat) (i:Nat) (cs ds:List AV) (b:Bool),eqB P fs qs i=true->eqs qs cs ds=some b->
  (∀(j:Nat) (c:AV),cs[j]?=some c->∃v,xs[i+j]?=some v/\RA ν g v c)->(∀(j:Nat) (c:AV),ds[j]?=some c->∃v,ys[i+j]?=some v/\RA ν g v c)->
  (Op.eqFields (d+1) xs ys fs).run P w = .ok b w:=by
 intro fs
 induction fs with
 |nil=>
  intro qs i cs ds b h1 h2 _ _;cases qs with
  |cons=>simp[eqB]at h1
  |nil=>
   cases cs<;>cases ds<;>simp[eqs]at h2;subst h2;simp[Op.eqFields]
 |cons f fs ih=>
  intro qs i cs ds b h1 h2 hx hy;cases qs with
  |nil=>simp[eqB]at h1
  |cons q qs=>
   cases cs with
   |nil=>simp[eqs]at h2
   |cons c cs=>
    cases ds with
    |nil=>simp[eqs]at h2
    |cons d' ds=>
     simp only[eqB,Bool.and_eq_true]at h1;obtain⟨⟨⟨⟨hn,hoff⟩,hty⟩,hq⟩,hrest⟩:=h1;simp only[eqs,Option.bind_eq_some_iff]at h2;obtain⟨b1,e1,b2,e2,e3⟩:=h2;cases e3;obtain⟨v,hv,hvR⟩:=hx 0 c rfl;obtain⟨u,hu,huR⟩:=hy 0 d' rfl;obtain⟨dd,ii,h3,h4,h5,h6,_⟩:=tyB_spec hty;have hoff':f.offset=i:=by simpa using hoff
     have hp1:(part f.type xs f.offset).run P w = .ok v w:=by simp[part,run_isAgg h3,h5,hoff',show xs[i]?=some v from hv]
     have hp2:(part f.type ys f.offset).run P w = .ok u w:=by simp[part,run_isAgg h3,h5,hoff',show ys[i]?=some u from hu]
     have he:=eq0_ok (P:=P) e1 hq hvR huR d w;have hr:=ih qs (i+1) cs ds b2 hrest e2 (fun j c hc=>by have:=hx (j+1) c (by simpa using hc);rwa [show i+1+j=i+(j+1) by omega]) (fun j c hc=>by
      have:=hy (j+1) c (by simpa using hc);rwa [show i+1+j=i+(j+1) by omega])
     have hn':f.name≠"_":=by simpa using hn
     simp only[Op.eqFields,if_pos hn',Sem.run_bind,hp1,hp2,he,Result.andThen_ok,Sem.run_ite];cases b1
     ·simp
     ·simp[hr]
def eqcB (P:Program) (t:TypeId) (qs:List Nat):Bool:=
 match P.underlying t with
 |some (.struct fs)=>eqB P fs.toList qs 0&&!P.stoodInHeld t&&!P.eqGuardType P.depth t
 |_=>false
theorem RA.agg_get {vs:Array Value} {cs:List AV} (h:RA ν g (.agg vs) (.agg cs)) (j:Nat) (c:AV) (hc:cs[j]?=some c):∃v,vs[j]?=some v/\RA ν g v c:=by
 cases h with
 |agg hn _ hr=>
  have hj:j<cs.length:=by
   rcases Nat.lt_or_ge j cs.length with h' | h'
   ·exact h'
   ·rw[List.getElem?_eq_none h']at hc;cases hc
  exact⟨vs[j],Array.getElem?_eq_getElem (by omega),hr j _ c (Array.getElem?_eq_getElem (by omega)) hc⟩
theorem eqc_ok (r:Rel ν k g) {t:TypeId} {qs:List Nat} (ht:eqcB P t qs=true) {a b:Operand} {v u:Value} {cs ds:List AV} {z:Bool} (neg:Bool) (hv:RA ν g v (.agg cs)) (hu:RA ν g u (.agg ds)) (e:eqs qs cs ds=some z) :
  Done ν k g g.h (.iv (.bool (if neg then !z else z))) ((do eqGuard (if neg then .neq else .eql) t a b v u;binOp (if neg then .neq else .eql) t v u:Sem Value).run P g.w):=by
 unfold eqcB at ht;split at ht
 ·rename_i fs hut;simp only[Bool.and_eq_true,Bool.not_eq_true']at ht;obtain⟨⟨h1,h2⟩,h3⟩:=ht;obtain⟨xs,rfl⟩:=hv.aggv;obtain⟨ys,rfl⟩:=hu.aggv;have hfs:P.fieldsOf t=fs:=by simp[Program.fieldsOf,hut]
  have hrun:=eqs_ok (ν:=ν) (P:=P) (g:=g) (xs:=xs) (ys:=ys) 9998 g.w fs.toList qs 0 cs ds z h1 e (fun j c hc=>by simpa using hv.agg_get j c hc) (fun j c hc=>by simpa using hu.agg_get j c hc);have hst:=run_equalIn_struct g.w 9999 t xs ys (by rw[hfs];exact hut) h2;rw[hfs]at hst;cases neg
  ·refine .same r ?_ mkBool;simp only[Bool.false_eq_true,if_false,Sem.run_bind,run_eqGuard_agg _ _ _ _ _ _ _ h3,Result.andThen_ok,run_eql_struct,hst,hrun]
  ·refine .same r ?_ mkBool;simp only[if_true,Sem.run_bind,run_eqGuard_agg _ _ _ _ _ _ _ h3,Result.andThen_ok,run_neq_struct,hst,hrun]
 ·cases ht
theorem un_ok (r:Rel ν k g) {op:UnOp} {v:Value} {x:AV} {y:IV} (hv:RA ν g v x) (e:un op x=some y):Done ν k g g.h (.iv y) ((Op.unary op v).run P g.w):=by
 unfold un at e;split at e
 ·obtain rfl:=hv.int;split at e
  ·cases e;exact .same r (by simp[Op.unary,Op.intArith]) mkInt
  ·cases e;exact .same r (v:=.int _ _) (by simp only[Op.unary,intBits_xor];rfl) mkInt
  ·cases e
 ·obtain rfl:=hv.bool;split at e
  ·cases e;exact .same r (by simp[Op.unary]) mkBool
  ·cases e
 ·cases e
def cviB (P:Program) (s d:TypeId) (kk:IntKind):Bool:=
 (P.underlying s).isSome&&(match P.underlying d with | some (.int k')=>k'==kk | _=>false)
theorem cvi_ok (r:Rel ν k g) {s d:TypeId} {kk:IntKind} (ht:cviB P s d kk=true) {v:Value} {x:AV} {n:Int} {h':Hp} (hv:RA ν g v x) (e:(idx x).run g.h=some (n,h')) :
  Done ν k g g.h (.iv (.int kk (kk.wrap n))) ((convert s d v).run P g.w):=by
 obtain⟨_,k',rfl⟩:=idx_some e;obtain rfl:=hv.int;unfold cviB at ht;simp only[Bool.and_eq_true]at ht;obtain⟨h1,h2⟩:=ht;obtain⟨sd,hs⟩:=Option.isSome_iff_exists.1 h1;split at h2
 ·rename_i k'' hd;have:k''=kk:=by simpa using h2
  subst this;exact .same r (by simp[convert,run_underlying hs,run_underlying hd,Conv.intToInt]) mkInt
 ·cases h2
end
section
variable {ν:Nat->Nat} {P:Program} {k:Cx} {g:Gh}
def RO (ν:Nat->Nat) (g:Gh):Option Value->Option AV->Prop
 |none,none=>True
 |some v,some x=>RA ν g v x
 |_,_=>False
theorem bound_run {y:Nat} {o:Option AV} {n:Option Nat} {h h':Hp} (e:(bound y o).run h=some (n,h')) {c:Option Value} (hc:RO ν g c o) :
  h'=h/\(o=none/\n=none/\c=none\/∃(kk:IntKind) (m:Nat),c=some (.int kk m)/\m<=y/\n=some m):=by
 unfold bound at e;split at e
 ·obtain⟨rfl,rfl⟩:=M.ret_some e;cases c with
  |none=>exact⟨rfl,.inl ⟨rfl,rfl,rfl⟩⟩
  |some v=>exact hc.elim
 ·rename_i kk m;obtain⟨_,h1,e1,e2⟩:=M.bind_some e;obtain⟨hm,rfl⟩:=M.ok_some e1;obtain⟨rfl,rfl⟩:=M.ret_some e2;have hm':0<=m/\m<=y:=by simpa using hm
  cases c with
  |none=>exact hc.elim
  |some v=>
   obtain rfl:=RA.int hc;exact⟨rfl,.inr ⟨kk,m.toNat,by rw[Int.toNat_of_nonneg hm'.1],by omega,rfl⟩⟩
 ·exact(M.fail_some e).elim
theorem bounds_run {n cap:Nat} (hcap:n<=cap) {lo hi:Option AV} {cl ch:Option Value} {l h:Option Nat} {g0 g1 g2:Hp} (isS:Bool)
  (eh:(bound n hi).run g0=some (h,g1)) (el:(bound (h.getD n) lo).run g1=some (l,g2)) (hh:RO ν g ch hi) (hl:RO ν g cl lo) (w:World) :
  g2=g0/\l.getD 0<=h.getD n/\h.getD n<=n/\(Instr.sliceBounds isS n cap cl ch none).run P w = .ok (l.getD 0,h.getD n,cap) w:=by
 obtain⟨rfl,h1⟩:=bound_run eh hh;obtain⟨rfl,h2⟩:=bound_run el hl;refine⟨rfl,?_⟩;rcases h1 with⟨-,rfl,rfl⟩|⟨k1,m1,rfl,hm1,rfl⟩
 ·rcases h2 with⟨-,rfl,rfl⟩|⟨k2,m2,rfl,hm2,rfl⟩
  ·simp[Instr.sliceBounds]
  ·simp only[Option.getD_none]at hm2;have:(Instr.sliceBound (.int k2 m2) n .sliceB).run P w = .ok m2 w:=by simp[Instr.sliceBound,asIntOf,hm2]
   simp[Instr.sliceBounds,this,hm2]
 ·have hs:∀c,(Instr.sliceBound (.int k1 m1) cap c).run P w = .ok m1 w:=fun c=>by
   have:m1<=cap:=by omega
   simp[Instr.sliceBound,asIntOf,this]
  rcases h2 with⟨-,rfl,rfl⟩|⟨k2,m2,rfl,hm2,rfl⟩
  ·simp[Instr.sliceBounds,hs,hm1]
  ·simp only[Option.getD_some]at hm2;have:(Instr.sliceBound (.int k2 m2) m1 .sliceB).run P w = .ok m2 w:=by simp[Instr.sliceBound,asIntOf,hm2]
   simp[Instr.sliceBounds,hs,this,hm2,hm1]
theorem sliceAt_run {t el:TypeId} {i:TypeInfo} (hu:P.underlying t=some (.slice el)) (hi:P.info? el=some i) {a:Option Addr} {n cap l h:Nat} {cl ch:Option Value} {w:World}
  (hb:(Instr.sliceBounds true n cap cl ch none).run P w = .ok (l,h,cap) w) :
  (Instr.sliceAt t (.slice a n cap) cl ch none).run P w = .ok (.slice (if cap=l then a else a.map (·.add (l*i.size))) (h - l) (cap - l)) w:=by
 have:(Instr.slice t (.slice a n cap) cl ch none).run P w = .ok (.slice (if cap=l then a else a.map (·.add (l*i.size))) (h - l) (cap - l)) w:=by
  simp[Instr.slice,run_underlying hu,hb,run_sizeOf hi]
 simp[Instr.sliceAt,run_underlying hu,this]
theorem slc_ok (r:Rel ν k g) {t:TypeId} {e:Nat} (ht:sliceB P t e=true) {v:Value} {cl ch:Option Value} {x y:AV} {lo hi:Option AV} {h':Hp} (hv:RA ν g v x) (hl:RO ν g cl lo) (hh:RO ν g ch hi)
  (e':(slc e x lo hi).run g.h=some (y,h')):Done ν k g h' y ((Instr.sliceAt t v cl ch none).run P g.w):=by
 obtain⟨el,i,hu,hi',rfl⟩:=sliceB_spec ht;cases hv with
 |undef=>exact(M.fail_some e').elim
 |agg=>exact(M.fail_some e').elim
 |tup=>exact(M.fail_some e').elim
 |ref=>exact(M.fail_some e').elim
 |clo=>exact(M.fail_some e').elim
 |iv hr=>
  cases hr with
  |sl0 a cap e''=>
   obtain⟨_,h1,e1,e2⟩:=M.bind_some e';obtain⟨-,rfl⟩:=M.ok_some e1;obtain⟨hb,h2,e3,e4⟩:=M.bind_some e2;obtain⟨lb,h3,e5,e6⟩:=M.bind_some e4;obtain⟨rfl,h4,h5,h6⟩:=bounds_run (ν:=ν) (g:=g) (P:=P) (n:=0) (cap:=cap) (Nat.zero_le _) true e3 e5 hh hl g.w;obtain⟨rfl,rfl⟩:=M.ret_some e6;simp only[List.length_nil]at *;have hz:hb.getD 0=0:=by omega
   have hz':lb.getD 0=0:=by omega
   refine .same r (sliceAt_run hu hi' h6) (.iv ?_);simp only[hz,hz',List.take_nil,List.drop_nil,Nat.sub_zero];exact .sl0 _ _ _
  |sl b off n cap e'' es f hI hn hcap hll hc hr=>
   obtain⟨_,h1,e1,e2⟩:=M.bind_some e';obtain⟨he,rfl⟩:=M.ok_some e1;obtain⟨hb,h2,e3,e4⟩:=M.bind_some e2;obtain⟨lb,h3,e5,e6⟩:=M.bind_some e4;subst hn;obtain⟨rfl,h4,h5,h6⟩:=bounds_run (ν:=ν) (g:=g) (P:=P) hcap true e3 e5 hh hl g.w;obtain⟨rfl,rfl⟩:=M.ret_some e6;have he':e''=i.size:=by simpa using he
   subst he';refine .same r (sliceAt_run hu hi' h6) (.iv ?_);generalize lb.getD 0=l at *;generalize hb.getD es.length=h at *;by_cases hlh:l=h
   ·subst hlh;have:(es.take l).drop l=[]:=by simp
    rw[this,Nat.sub_self];exact .sl0 _ _ _
   ·have hne:¬cap=l:=by omega
    rw[if_neg hne];simp only[Option.map_some,Addr.add_lit];have hsub:∀(j:Nat) (c:List IV),((es.take h).drop l)[j]?=some c->es[l+j]?=some c:=by
     intro j c hj;rw[List.getElem?_drop,List.getElem?_take]at hj;split at hj
     ·exact hj
     ·cases hj
    refine .sl b _ _ _ i.size _ (fun a b=>f (l+a) b) hI (by simp;omega) (by omega) (fun c hc'=>hll c (List.mem_of_mem_take (List.mem_of_mem_drop hc'))) (fun a j c x h1 h2=>?_) fun a j c x h1 h2=>hr _ _ _ _ (hsub a c h1) h2
    have:=hc _ _ _ _ (hsub a c h1) h2
    rwa [Nat.add_mul,<-Nat.add_assoc]at this
  |_=>exact(M.fail_some e').elim
 |@own _ id o m ver ho1 ho=>
  obtain⟨hb,h2,e3,e4⟩:=M.bind_some e';obtain⟨lb,h3,e5,e6⟩:=M.bind_some e4;obtain⟨ob,h4,e7,e8⟩:=M.bind_some e6;have q1:=(bound_run e3 hh).1;subst q1;have q2:=(bound_run e5 hl).1;subst q2;obtain⟨hg,rfl⟩:=M.look_some e7;unfold OwnAt at ho;rw[hg]at ho;have fin:∀{v' e'':Nat} {es:List (List IV)},(get g.h id=some (.buf v' e'' es)\/get g.h id=some (.imm v' e'' es))->v'=ver->e''=i.size->SlAt g.w (g.φ id) e'' es o m v->
    Done ν k g g.h (.own id (o+lb.getD 0) (hb.getD m - lb.getD 0) ver) ((Instr.sliceAt t v cl ch none).run P g.w):=by
   intro v' e'' es hg' hv he hs;have own:∀u:Value,u.oneCell'=true->SlAt g.w (g.φ id) e'' es (o+lb.getD 0) (hb.getD m - lb.getD 0) u->RA ν g u (.own id (o+lb.getD 0) (hb.getD m - lb.getD 0) ver):=by
    intro u hu1 hu2;refine .own hu1 ?_;unfold OwnAt;rcases hg' with hg' | hg'<;>rw[hg']<;>exact⟨Nat.le_of_eq hv.symm,fun _=>hu2⟩
   cases hφ:g.φ id with
   |none=>
    rw[hφ]at hs;obtain⟨⟨a,rfl⟩,rfl⟩:=hs;obtain⟨-,h4,h5,h6⟩:=bounds_run (ν:=ν) (g:=g) (P:=P) (n:=0) (cap:=0) (Nat.le_refl _) true e3 e5 hh hl g.w;refine .same r (sliceAt_run hu hi' h6) (own _ rfl ?_);rw[hφ];have:hb.getD 0=0:=by omega
    have:lb.getD 0=0:=by omega
    exact⟨⟨a,by simp[*]⟩,by omega⟩
   |some b=>
    rw[hφ]at hs;obtain⟨x,cap,rfl,q2,q3,q4,q5⟩:=hs;obtain⟨-,h4,h5,h6⟩:=bounds_run (ν:=ν) (g:=g) (P:=P) q3 true e3 e5 hh hl g.w;refine .same r (sliceAt_run hu hi' h6) (own _ rfl ?_);rw[hφ];subst he;generalize lb.getD 0=l at *;generalize hb.getD m=h at *;by_cases hcl:cap=l
    ·rw[if_pos hcl];refine⟨x,cap - l,rfl,by omega,by omega,?_,fun hx c hc=>?_⟩
     ·rcases q4 with q4 | q4
      ·by_cases hl0:l=0
       ·left;subst hl0;simpa using q4
       ·right;omega
      ·right;omega
     ·by_cases hxo:x=o*i.size
      ·exact q5 hxo c (Nat.lt_of_lt_of_le hc (Nat.mul_le_mul_right _ (by omega)))
      ·have:=q4.resolve_left hxo;have hl0:l=0:=by omega
       subst hl0;exact absurd (by simpa using hx) hxo
    ·rw[if_neg hcl];refine⟨x+l*i.size,cap - l,by simp[Addr.add_lit],by omega,by omega,?_,fun hx c hc=>?_⟩
     ·rcases q4 with q4 | q4
      ·left;rw[q4,Nat.add_mul]
      ·right;omega
     ·have hxo:x=o*i.size:=by rw[Nat.add_mul]at hx;omega
      exact q5 hxo c (Nat.lt_of_lt_of_le hc (Nat.mul_le_mul_right _ (by omega)))
  cases ob with
  |cells cs=>exact ho.elim
  |buf v' e'' es=>
   obtain⟨_,h3,e9,e10⟩:=M.bind_some e8;obtain⟨hve,rfl⟩:=M.ok_some e9;obtain⟨rfl,rfl⟩:=M.ret_some e10;simp only[Bool.and_eq_true,beq_iff_eq]at hve;exact fin (.inl hg) hve.1 hve.2 (ho.2 hve.1)
  |imm v' e'' es=>
   obtain⟨_,h3,e9,e10⟩:=M.bind_some e8;obtain⟨hve,rfl⟩:=M.ok_some e9;obtain⟨rfl,rfl⟩:=M.ret_some e10;simp only[Bool.and_eq_true,beq_iff_eq]at hve;exact fin (.inr hg) hve.1 hve.2 (ho.2 hve.1)
  |map _=>exact ho.elim
def lenB (P:Program) (t:TypeId) (str:Bool):Bool:=
 match P.underlying t with
 |some (.slice _)=>!str
 |some .string=>str
 |_=>false
theorem len_ok (r:Rel ν k g) {t ty:TypeId} {str:Bool} (ht:lenB P t str=true) {v:Value} {x y:AV} {h':Hp} (hv:RA ν g v x) (e:(len str x).run g.h=some (y,h')) :
  Done ν k g h' y ((Builtin.len_ #[t] ty #[v]).run P g.w):=by
 unfold lenB at ht;split at ht
 ·rename_i el hu;have:str=false:=by simpa using ht
  subst this;have key:∀(a:Option Addr) (n cap:Nat),Done ν k g g.h (.iv (.int .i64 n)) ((Builtin.len_ #[t] ty #[.slice a n cap]).run P g.w):=fun a n cap=>
   .same r (v:=.int .i64 n) (by simp[Builtin.len_,run_underlying hu,goInt]) mkInt
  cases hv with
  |undef=>exact(M.fail_some e).elim
  |agg=>exact(M.fail_some e).elim
  |tup=>exact(M.fail_some e).elim
  |ref=>exact(M.fail_some e).elim
  |clo=>exact(M.fail_some e).elim
  |iv hr=>
   cases hr with
   |nsl a e''=>obtain⟨rfl,rfl⟩:=M.ret_some e;exact key _ _ _
   |sl0 a cap e''=>obtain⟨rfl,rfl⟩:=M.ret_some e;exact key _ 0 _
   |sl b off n cap e'' es f hI hn hcap hll hc hr=>obtain⟨rfl,rfl⟩:=M.ret_some e;rw[hn];exact key _ _ _
   |_=>exact(M.fail_some e).elim
  |@own _ id o m ver ho1 ho=>
   obtain⟨ob,h1,e1,e2⟩:=M.bind_some e;obtain⟨hg,rfl⟩:=M.look_some e1;unfold OwnAt at ho;rw[hg]at ho;have fin:∀{e'':Nat} {es:List (List IV)},SlAt g.w (g.φ id) e'' es o m v->Done ν k g g.h (.iv (.int .i64 m)) ((Builtin.len_ #[t] ty #[v]).run P g.w):=by
    intro e'' es hs;cases hφ:g.φ id with
    |none=>rw[hφ]at hs;obtain⟨⟨a,rfl⟩,rfl⟩:=hs;exact key _ _ _
    |some b=>rw[hφ]at hs;obtain⟨x,cap,rfl,_⟩:=hs;exact key _ _ _
   cases ob with
   |cells cs=>exact ho.elim
   |buf v' e'' es=>
    obtain⟨_,h2,e3,e4⟩:=M.bind_some e2;obtain⟨hva,rfl⟩:=M.ok_some e3;obtain⟨rfl,rfl⟩:=M.ret_some e4;exact fin (ho.2 (by simpa using hva))
   |imm v' e'' es=>
    obtain⟨_,h2,e3,e4⟩:=M.bind_some e2;obtain⟨hva,rfl⟩:=M.ok_some e3;obtain⟨rfl,rfl⟩:=M.ret_some e4;exact fin (ho.2 (by simpa using hva))
   |map _=>exact ho.elim
 ·rename_i hu;have:str=true:=ht;subst this;unfold len at e;split at e
  ·rename_i h;cases h
  ·rename_i h;cases h
  ·rename_i h;cases h
  ·obtain⟨rfl,rfl⟩:=M.ret_some e;obtain rfl:=hv.str;exact .same r (v:=.int .i64 _) (by simp[Builtin.len_,run_underlying hu,goInt]) mkInt
  ·exact(M.fail_some e).elim
 ·cases ht
theorem mn_ok (P:Program) (w:World):∀(xs:List AV) (vs:List Value) (a:Int) (kk:IntKind) (z:Int),mnI a xs kk=some z->vs.length=xs.length->(∀(j:Nat) (v:Value) (x:AV),vs[j]?=some v->xs[j]?=some x->RA ν g v x)->
  (vs.foldlM Builtin.min2 (.int kk a)).run P w = .ok (.int kk z) w:=by
 intro xs
 induction xs with
 |nil=>
  intro vs a kk z h hl _;have:vs=[]:=List.eq_nil_of_length_eq_zero hl;subst this;simp[mnI]at h;subst h;rfl
 |cons x xs ih=>
  intro vs a kk z h hl hr;cases vs with
  |nil=>simp at hl
  |cons v vs=>
   have h0:=hr 0 v x rfl rfl;unfold mnI at h;split at h
   ·rename_i heq;cases heq
   ·rename_i kk' b r heq;cases heq;split at h
    ·rename_i hk;subst hk;obtain rfl:=h0.int;simp only[List.foldlM_cons,Sem.run_bind,Builtin.min2,Sem.run_pure,Result.andThen_ok];exact ih vs _ _ _ h (by simpa using hl) fun j v' x' h1 h2=>hr (j+1) v' x' (by simpa using h1) (by simpa using h2)
    ·cases h
   ·cases h
theorem mx_ok (P:Program) (w:World):∀(xs:List AV) (vs:List Value) (a:Int) (kk:IntKind) (z:Int),mxI a xs kk=some z->vs.length=xs.length->(∀(j:Nat) (v:Value) (x:AV),vs[j]?=some v->xs[j]?=some x->RA ν g v x)->
  (vs.foldlM Builtin.max2 (.int kk a)).run P w = .ok (.int kk z) w:=by
 intro xs
 induction xs with
 |nil=>
  intro vs a kk z h hl _;have:vs=[]:=List.eq_nil_of_length_eq_zero hl;subst this;simp[mxI]at h;subst h;rfl
 |cons x xs ih=>
  intro vs a kk z h hl hr;cases vs with
  |nil=>simp at hl
  |cons v vs=>
   have h0:=hr 0 v x rfl rfl;unfold mxI at h;split at h
   ·rename_i heq;cases heq
   ·rename_i kk' b r heq;cases heq;split at h
    ·rename_i hk;subst hk;obtain rfl:=h0.int;simp only[List.foldlM_cons,Sem.run_bind,Builtin.max2,Sem.run_pure,Result.andThen_ok];exact ih vs _ _ _ h (by simpa using hl) fun j v' x' h1 h2=>hr (j+1) v' x' (by simpa using h1) (by simpa using h2)
    ·cases h
   ·cases h
theorem cells_run {x:AV} {l:List AV} {h h':Hp} (e:(cellsM x).run h=some (l,h')) {v:Value} (hv:RA ν g v x) :
  h'=h/\v.cells.size=l.length/\∀(j:Nat) (c:AV),l[j]?=some c->∃u,v.cells[j]?=some u/\u.oneCell'=true/\RA ν g u c:=by
 have one:∀{z:AV},(M.ret [z]).run h=some (l,h')->RA ν g v z->v.oneCell'=true->h'=h/\v.cells.size=l.length/\∀(j:Nat) (c:AV),l[j]?=some c->∃u,v.cells[j]?=some u/\u.oneCell'=true/\RA ν g u c:=by
  intro z e hz h1;obtain⟨rfl,rfl⟩:=M.ret_some e;have hc:v.cells=#[v]:=by cases v<;>first | rfl | simp[Value.oneCell']at h1
  refine⟨rfl,by rw[hc];rfl,fun j c hj=>?_⟩;cases j with
  |zero=>simp at hj;subst hj;exact⟨v,by rw[hc];rfl,h1,hz⟩
  |succ j=>simp at hj
 cases hv with
 |undef=>exact(M.fail_some e).elim
 |tup=>exact(M.fail_some e).elim
 |agg hn h1 hr=>
  obtain⟨rfl,rfl⟩:=M.ret_some e;refine⟨rfl,hn,fun j c hj=>?_⟩;obtain⟨u,hu,hR⟩:=RA.agg_get (.agg hn h1 hr) j c hj;exact⟨u,hu,h1 j u hu,hR⟩
 |iv hr=>exact one e (.iv hr) hr.one
 |own h1 h2=>exact one e (.own h1 h2) h1
 |ref h1 h2=>exact one e (.ref h1 h2) h1
 |clo hn hr=>exact one e (.clo hn hr) rfl
def RC (ν:Nat->Nat) (g:Gh) (vs:Array Value) (cs:List AV):Prop:=
 vs.size=cs.length/\∀(j:Nat) (c:AV),cs[j]?=some c->∃u,vs[j]?=some u/\u.oneCell'=true/\RA ν g u c
theorem RC.agg {vs:Array Value} {cs:List AV} (h:RC ν g vs cs):RA ν g (.agg vs) (.agg cs):=by
 have key:∀(j:Nat) (v:Value),vs[j]?=some v->∃c,cs[j]?=some c/\v.oneCell'=true/\RA ν g v c:=by
  intro j v hv;have hj:j<vs.size:=(Array.getElem?_eq_some_iff.1 hv).1;have hc:cs[j]?=some (cs[j]'(by have:=h.1;omega)):=List.getElem?_eq_getElem _;obtain⟨u,hu,h1,hR⟩:=h.2 j _ hc;rw[hv]at hu;cases hu;exact⟨_,hc,h1,hR⟩
 exact .agg h.1 (fun j v hv=>let⟨_,_,h1,_⟩:=key j v hv;h1) fun j v c hv hc=>by
  obtain⟨c',hc',_,hR⟩:=key j v hv;rw[hc]at hc';cases hc';exact hR
theorem fillFold_spec (off:Nat):∀(l:List Value) (s:Nat) (cs:Array Value),off+s+l.length<=cs.size->
  let r:=(l.zipIdx s).foldl (fun cs (p:Value×Nat)=>cs.setIfInBounds (off+p.2) p.1) cs
  r.size=cs.size/\∀j,r[j]?=if off+s<=j/\j<off+s+l.length then l[j - (off+s)]? else cs[j]?:=by
 intro l
 induction l with
 |nil=>intro s cs _;simp;intro j h1 h2;omega
 |cons v l ih=>
  intro s cs hl;simp only[List.zipIdx_cons,List.foldl_cons];simp only[List.length_cons]at hl;obtain⟨h1,h2⟩:=ih (s+1) (cs.setIfInBounds (off+s) v) (by simp;omega);refine⟨by rw[h1];simp,fun j=>?_⟩;rw[h2 j];by_cases hj:j=off+s
  ·subst hj;rw[if_neg (by omega),if_pos (by simp),Array.getElem?_setIfInBounds_self_of_lt (by omega)];simp
  ·by_cases hj2:off+(s+1)<=j/\j<off+(s+1)+l.length
   ·rw[if_pos hj2,if_pos (by simp;omega)];rw[show j - (off+s)=(j - (off+(s+1)))+1 by omega];simp
   ·rw[if_neg hj2,if_neg (by simp;omega)];rw[Array.getElem?_setIfInBounds_ne (Ne.symm hj)]
theorem splice_get {α:Type} (cs:List α) (o:Nat) (l:List α) (h:o+l.length<=cs.length) (j:Nat) :
  (splice cs o l)[j]?=if o<=j/\j<o+l.length then l[j - o]? else cs[j]?:=by
 unfold splice;rw[List.getElem?_append,List.getElem?_append];simp only[List.length_append,List.length_take,Nat.min_eq_left (show o<=cs.length by omega)];by_cases h1:j<o
 ·rw[if_pos (by omega),if_pos h1,if_neg (by omega),List.getElem?_take,if_pos h1]
 ·by_cases h2:j<o+l.length
  ·rw[if_pos h2,if_neg h1,if_pos ⟨by omega,h2⟩]
  ·rw[if_neg h2,if_neg (by omega),List.getElem?_drop,show o+l.length+(j - (o+l.length))=j by omega]
theorem splice_length {α:Type} (cs:List α) (o:Nat) (l:List α) (h:o+l.length<=cs.length):(splice cs o l).length=cs.length:=by simp[splice];omega
theorem RC.splice {vs us:Array Value} {cs l:List AV} {o:Nat} (h:RC ν g vs cs) (hu:RC ν g us l) (hfit:o+l.length<=cs.length) :
  RC ν g ((us.toList.zipIdx).foldl (fun cs (p:Value×Nat)=>cs.setIfInBounds (o+p.2) p.1) vs) (Arb.splice cs o l):=by
 have hs:=fillFold_spec o us.toList 0 vs (by have:=h.1;have:=hu.1;simp;omega);simp only[Nat.add_zero,Array.length_toList]at hs;refine⟨by rw[hs.1,splice_length _ _ _ hfit,h.1],fun j c hc=>?_⟩;rw[splice_get _ _ _ hfit]at hc;rw[hs.2 j];have:=hu.1;by_cases hj:o<=j/\j<o+l.length
 ·rw[if_pos hj]at hc;rw[if_pos (by omega)];simpa using hu.2 _ c hc
 ·rw[if_neg hj]at hc;rw[if_neg (by omega)];exact h.2 j c hc
end
section
variable {ν:Nat->Nat} {P:Program} {k:Cx} {g:Gh}
theorem RC.mono {g':Gh} {vs:Array Value} {cs:List AV} (h:RC ν g vs cs) (hm:Mono ν g g'):RC ν g' vs cs:=
 ⟨h.1,fun j c hc=>let⟨u,h1,h2,h3⟩:=h.2 j c hc;⟨u,h1,h2,hm _ _ h3⟩⟩
theorem nilc_ok:∀(cs:List AV) (s:Nat) (k:Cx) (g:Gh) (ls:List AV) (h':Hp),(nilc s cs).run g.h=some (ls,h')->Rel ν k g->∀vs:Array Value,RC ν g vs cs->
  ∃φ',Rel ν k { g with φ:=φ',h:=h' }/\Mono ν g { g with φ:=φ',h:=h' }/\RC ν { g with φ:=φ',h:=h' } vs ls/\(∀id,(get g.h id).isSome=true->φ' id=g.φ id/\get h' id=get g.h id)/\
   ∀id,id<s->get h' id=get g.h id:=by
 intro cs
 induction cs with
 |nil=>
  intro s k g ls h' e r vs hv;obtain⟨rfl,rfl⟩:=M.ret_some e;exact⟨g.φ,r,.refl ν g,hv,fun _ _=>⟨rfl,rfl⟩,fun _ _=>rfl⟩
 |cons c cs ih=>
  intro s k g ls h' e r vs hv;have htail:RC ν g (vs.extract 1 vs.size) cs:=by
   refine⟨by have:=hv.1;simp at this ⊢;omega,fun j c' hc=>?_⟩;obtain⟨u,h1,h2⟩:=hv.2 (j+1) c' (by simpa using hc);exact⟨u,by rw[Array.getElem?_extract,if_pos (by have:=(Array.getElem?_eq_some_iff.1 h1).1;omega),Nat.add_comm 1 j];exact h1,h2⟩
  obtain⟨u,hu,hu1,huR⟩:=hv.2 0 c rfl;have glue:∀{g':Gh} {c':AV} {rs:List AV},RC ν g' (vs.extract 1 vs.size) rs->RA ν g' u c'->RC ν g' vs (c'::rs):=by
   intro g' c' rs h1 h2;have hsz:0<vs.size:=(Array.getElem?_eq_some_iff.1 hu).1;refine⟨by have:=h1.1;simp at this ⊢;omega,fun j c'' hc=>?_⟩;cases j with
   |zero=>simp at hc;subst hc;exact⟨u,hu,hu1,h2⟩
   |succ j=>
    obtain⟨u',h3,h4⟩:=h1.2 j c'' (by simpa using hc);rw[Array.getElem?_extract]at h3;split at h3
    ·exact⟨u',by rwa [Nat.add_comm 1 j]at h3,h4⟩
    ·cases h3
  have plain:∀{h1:Hp} {rs:List AV},(nilc (s+1) cs).run g.h=some (rs,h1)->ls=c::rs->h'=h1->
    ∃φ',Rel ν k { g with φ:=φ',h:=h' }/\Mono ν g { g with φ:=φ',h:=h' }/\RC ν { g with φ:=φ',h:=h' } vs ls/\(∀id,(get g.h id).isSome=true->φ' id=g.φ id/\get h' id=get g.h id)/\
     ∀id,id<s->get h' id=get g.h id:=by
   intro h1 rs e1 e2 e3;subst e2 e3;obtain⟨φ',r1,m1,c1,o1,o2⟩:=ih (s+1) k g rs h' e1 r _ htail;exact⟨φ',r1,m1,glue c1 (m1 _ _ huR),o1,fun id hid=>o2 id (by omega)⟩
  by_cases hnil:∃e',c = .iv (.nsl e')
  ·obtain⟨e',rfl⟩:=hnil;obtain⟨_,h1,e1,e2⟩:=M.bind_some e;obtain⟨hf,rfl⟩:=M.fresh_some e1;obtain⟨_,h2,e3,e4⟩:=M.bind_some e2;obtain rfl:=M.write_some e3;obtain⟨rs,h3,e5,e6⟩:=M.bind_some e4;obtain⟨rfl,rfl⟩:=M.ret_some e6;have hn:=r.new (s:=s) (ob:=.buf 0 e' []) (p:=none) (w':=g.w) hf (Nat.le_refl _) rfl rfl rfl (fun _ _=>rfl) (fun b h=>by cases h) fun _=>.inl ⟨updφ_same _ _ _,rfl⟩
   obtain⟨φ',r1,m1,c1,o1,o2⟩:=ih (s+1) k _ rs _ e5 hn.1 _ (htail.mono hn.2);have hown:RA ν { g with φ:=updφ g.φ s none,h:=set g.h s (.buf 0 e' []) } u (.own s 0 0 0):=by
    cases huR with
    |iv hr=>
     cases hr with
     |nsl a _=>
      refine .own rfl ?_;unfold OwnAt;simp only[get_set_same,updφ_same];exact⟨Nat.le_refl _,fun _=>⟨⟨a,rfl⟩,rfl⟩⟩
   refine⟨φ',r1,hn.2.trans m1,glue c1 (m1 _ _ hown),fun id hid=>?_,fun id hid=>?_⟩
   ·have hne:id≠s:=fun he=>by rw[he,hf]at hid;cases hid
    obtain⟨p1,p2⟩:=o1 id (by rw[show get (set g.h s (.buf 0 e' [])) id=get g.h id from get_set_ne _ _ (Ne.symm hne)];exact hid);exact⟨p1.trans (updφ_ne _ _ hne),p2.trans (get_set_ne _ _ (Ne.symm hne))⟩
   ·exact(o2 id (by omega)).trans (get_set_ne _ _ (by omega))
  ·have hcons:nilc s (c::cs)=(nilc (s+1) cs).bind fun rs=>.ret (c::rs):=by
    cases c with
    |iv x=>
     cases x with
     |nsl e'=>exact absurd ⟨e',rfl⟩ hnil
     |_=>rfl
    |_=>rfl
   rw[hcons]at e;obtain⟨rs,h1,e1,e2⟩:=M.bind_some e;obtain⟨rfl,rfl⟩:=M.ret_some e2;exact plain e1 rfl rfl
theorem alloc_old (w:World) (o:Obj) (b:Nat) (h:b<w.heap.size):(w.alloc o).heap[b]?=w.heap[b]?:=by first | exact heap_alloc_old w o b h | exact heap_alloc_old w o h
theorem newVar_ok (r:Rel ν k g) {slot:Nat} {t:TypeId} {vs:Array Value} {cs:List AV} (hv:RC ν g vs cs) {h':Hp} {y:AV}
  (e:((M.fresh slot).bind fun _=>(nilc (slot+1) cs).bind fun l=>(M.write slot (.cells l)).bind fun _=>M.ret (.ref slot 0 0 0)).run g.h=some (y,h')) :
  Done ν k g h' y (.ok (.pointer (some ⟨g.w.heap.size,0,none⟩)) (g.w.alloc (.cells vs t))):=by
 obtain⟨_,h1,e1,e2⟩:=M.bind_some e;obtain⟨hf,rfl⟩:=M.fresh_some e1;obtain⟨l,h2,e3,e4⟩:=M.bind_some e2;obtain⟨φ',r1,m1,c1,o1,o2⟩:=nilc_ok cs (slot+1) k g l h2 e3 r vs hv;obtain⟨_,h3,e5,e6⟩:=M.bind_some e4;obtain rfl:=M.write_some e5;obtain⟨rfl,rfl⟩:=M.ret_some e6;have hn:=r1.new (s:=slot) (ob:=.cells l) (p:=some g.w.heap.size) (w':=g.w.alloc (.cells vs t)) (by rw[o2 slot (by omega)];exact hf) (by simp) rfl rfl rfl (fun b hb=>alloc_old _ _ _ hb)
  (fun b h=>by cases h;exact Nat.le_refl _) fun hm=>by
   refine⟨g.w.heap.size,updφ_same _ _ _,fun hi=>?_,⟨by simp,fun o=>World.frozen?_alloc_new _ _ _ _⟩,fun j c hc=>?_⟩
   ·exact Nat.lt_irrefl _ (r.small _ hi)
   ·obtain⟨u,h1,h2,h3⟩:=c1.2 j c hc;exact⟨u,by rw[World.cell?_alloc_new];exact h1,h2,hm _ _ h3⟩
 refine⟨_,_,rfl,rfl,hn.1,m1.trans hn.2,.ref rfl ?_⟩;unfold RefAt;simp only[get_set_same,updφ_same];exact⟨trivial,trivial,_,rfl,rfl⟩
theorem box_ok (r:Rel ν k g) {slot:Nat} {t:TypeId} {v:Value} {x y:AV} (hv:RA ν g v x) {h':Hp}
  (e:((cellsM x).bind fun xs=>(M.fresh slot).bind fun _=>(nilc (slot+1) xs).bind fun l=>(M.write slot (.cells l)).bind fun _=>M.ret (.ref slot 0 0 0)).run g.h=some (y,h')) :
  Done ν k g h' y ((Instr.box t v).run P g.w):=by
 obtain⟨xs,h1,e1,e2⟩:=M.bind_some e;obtain⟨rfl,hs,hc⟩:=cells_run e1 hv;have:=newVar_ok (t:=t) r ⟨hs,hc⟩ e2;simpa[Instr.box,newVar,newRow]using this
def cVal:Value->IV->Bool
 |v,.junk=>v.oneCell'
 |.int kk n,.int k' m=>kk==k'&&n==m
 |.bool b,.bool c=>b==c
 |.string s,.str t=>s.data.toList==t.data.toList
 |.slice none 0 0,.nsl _=>true
 |.pointer none,.nilp=>true
 |_,_=>false
theorem cVal_ok {v:Value} {x:IV} (h:cVal v x=true) (I:Nat->Prop) (w:World):RI ν I w v x:=by
 unfold cVal at h;split at h
 ·exact .junk _ h
 ·simp only[Bool.and_eq_true,beq_iff_eq]at h;obtain⟨rfl,rfl⟩:=h;exact .int _ _
 ·have:=beq_iff_eq.1 h;subst this;exact .bool _
 ·rename_i s t;have:=beq_iff_eq.1 h;have:s=t:=by
   cases s;cases t;simp at this;simp[this]
  subst this;exact .str _
 ·exact .nsl _ _
 ·exact .nilp
 ·cases h
def cVals:List Value->List IV->Bool
 |[],[]=>true
 |v::vs,x::xs=>cVal v x&&cVals vs xs
 |_,_=>false
theorem cVals_ok:∀{vs:List Value} {xs:List IV},cVals vs xs=true->vs.length=xs.length/\∀(j:Nat) (x:IV),xs[j]?=some x->∃v,vs[j]?=some v/\cVal v x=true
 |[],[],_=>⟨rfl,fun j x h=>by simp at h⟩
 |v::vs,x::xs,h=>by
  simp only[cVals,Bool.and_eq_true]at h;obtain⟨h1,h2⟩:=cVals_ok h.2;refine⟨by simp[h1],fun j y hj=>?_⟩;cases j with
  |zero=>simp at hj;subst hj;exact⟨v,rfl,h.1⟩
  |succ j=>simpa using h2 j y (by simpa using hj)
 |[],_::_,h=>by simp[cVals]at h
 |_::_,[],h=>by simp[cVals]at h
theorem cVals_RC {vs:Array Value} {xs:List IV} (h:cVals vs.toList xs=true):RC ν g vs (xs.map .iv):=by
 obtain⟨h1,h2⟩:=cVals_ok h;refine⟨by simpa using h1,fun j c hc=>?_⟩;simp only[List.getElem?_map,Option.map_eq_some_iff]at hc;obtain⟨x,hx,rfl⟩:=hc;obtain⟨v,hv,hcv⟩:=h2 j x hx;have hR:RI ν g.I g.w v x:=cVal_ok hcv _ _;exact⟨v,by simpa using hv,hR.one,.iv hR⟩
def zeroB (P:Program) (t:TypeId) (z:List IV):Bool:=
 match P.info? t with
 |some i=>(match i.zero with | some v=>cVals v.cells.toList z | none=>false)
 |none=>false
theorem zeroB_spec {t:TypeId} {z:List IV} (h:zeroB P t z=true):∃i v,P.info? t=some i/\i.zero=some v/\cVals v.cells.toList z=true:=by
 unfold zeroB at h;split at h
 ·rename_i i hi;split at h
  ·rename_i v hv;exact⟨i,v,hi,hv,h⟩
  ·cases h
 ·cases h
theorem allocI_ok (r:Rel ν k g) {slot:Nat} {t:TypeId} {z:List IV} (ht:zeroB P t z=true) {y:AV} {h':Hp}
  (e:((M.fresh slot).bind fun _=>(nilc (slot+1) (z.map .iv)).bind fun l=>(M.write slot (.cells l)).bind fun _=>M.ret (.ref slot 0 0 0)).run g.h=some (y,h')) :
  Done ν k g h' y ((Instr.alloc t true (.tuple #[])).run P g.w):=by
 obtain⟨i,v,hi,hz,hc⟩:=zeroB_spec ht;have:=newVar_ok (t:=t) r (cVals_RC hc) e;simpa[Instr.alloc,zeroValue,typeInfo,hi,hz,newVar,newRow]using this
theorem nil0_ok (r:Rel ν k g) {slot e:Nat} {a:Option Addr} {y:AV} {h':Hp}
  (e':((M.fresh slot).bind fun _=>(M.write slot (.buf 0 e [])).bind fun _=>M.ret (.own slot 0 0 0)).run g.h=some (y,h')):Done ν k g h' y (.ok (.slice a 0 0) g.w):=by
 obtain⟨_,h1,e1,e2⟩:=M.bind_some e';obtain⟨hf,rfl⟩:=M.fresh_some e1;obtain⟨_,h2,e3,e4⟩:=M.bind_some e2;obtain rfl:=M.write_some e3;obtain⟨rfl,rfl⟩:=M.ret_some e4;have hn:=r.new (s:=slot) (ob:=.buf 0 e []) (p:=none) (w':=g.w) hf (Nat.le_refl _) rfl rfl rfl (fun _ _=>rfl) (fun b h=>by cases h) fun _=>.inl ⟨updφ_same _ _ _,rfl⟩
 refine⟨{ g with φ:=updφ g.φ slot none,h:=set g.h slot (.buf 0 e []) },_,rfl,rfl,hn.1,hn.2,.own rfl ?_⟩;unfold OwnAt;simp only[get_set_same,updφ_same];exact⟨Nat.le_refl _,fun _=>⟨⟨a,rfl⟩,rfl⟩⟩
end
section
variable {ν:Nat->Nat} {P:Program} {k:Cx} {g:Gh}
theorem setCells_other (w:World) (b:Nat):∀(vs:List Value) (o k:Nat),k≠b->(w.setCells b o vs).heap[k]?=w.heap[k]?:=by
 intro vs
 induction vs generalizing w with
 |nil=>intro o k _;rfl
 |cons v vs ih=>intro o k hk;rw[World.setCells,ih _ _ _ hk];exact heap_setCell_other _ _ _ _ hk
theorem setCells_size (w:World) (b:Nat):∀(vs:List Value) (o:Nat),(w.setCells b o vs).heap.size=w.heap.size:=by
 intro vs
 induction vs generalizing w with
 |nil=>intro o;rfl
 |cons v vs ih=>intro o;rw[World.setCells,ih];simp
theorem setCells_rest (w:World) (b:Nat):∀(vs:List Value) (o:Nat),(w.setCells b o vs).os=w.os/\(w.setCells b o vs).tape=w.tape/\(w.setCells b o vs).output=w.output:=by
 intro vs
 induction vs generalizing w with
 |nil=>intro o;exact⟨rfl,rfl,rfl⟩
 |cons v vs ih=>intro o;rw[World.setCells];exact ih _ _
theorem setCells_cell (w:World) (b o:Nat) (vs:List Value) (hc:∀j,j<vs.length->(w.cell? ⟨b,o+j,none⟩).isSome=true) (i:Nat) :
  (w.setCells b o vs).cell? ⟨b,i,none⟩=if o<=i/\i<o+vs.length then vs[i - o]? else w.cell? ⟨b,i,none⟩:=by
 by_cases h:o<=i/\i<o+vs.length
 ·rw[if_pos h];have:=World.cell?_setCells_in b vs o w hc (i - o) (by omega);rw[show o+(i - o)=i by omega]at this;rw[this,List.getElem?_eq_getElem (by omega)]
 ·rw[if_neg h];exact World.cell?_setCells_out b vs o w _ fun _ _=>by simp only[];omega
theorem setCells_some (w:World) (b o:Nat) (vs:List Value) (hc:∀j,j<vs.length->(w.cell? ⟨b,o+j,none⟩).isSome=true) (i:Nat) (h:(w.cell? ⟨b,i,none⟩).isSome=true) :
  ((w.setCells b o vs).cell? ⟨b,i,none⟩).isSome=true:=by
 rw[setCells_cell w b o vs hc i];split
 ·rename_i h';rw[List.getElem?_eq_getElem (by omega)];rfl
 ·exact h
theorem SlAt.put {w w':World} {b e o n:Nat} {es es':List (List IV)} {v:Value} (h:SlAt w (some b) e es o n v) (hl:es.length<=es'.length)
  (hc:∀c,(w.cell? ⟨b,c,none⟩).isSome=true->(w'.cell? ⟨b,c,none⟩).isSome=true):SlAt w' (some b) e es' o n v:=by
 obtain⟨x,cap,e1,e2,e3,e4,e5⟩:=h;exact⟨x,cap,e1,by omega,e3,e4,fun hx c h'=>hc c (e5 hx c h')⟩
theorem Rel.put (r:Rel ν k g) {id v e b off v':Nat} {es es':List (List IV)} {vs:List Value} (hg:get g.h id=some (.buf v e es)) (hφ:g.φ id=some b)
  (hcells:∀j,j<vs.length->(g.w.cell? ⟨b,off+j,none⟩).isSome=true) (hv:v'=v/\es.length<=es'.length\/v'=v+1)
  (hrow:(∀v x,RI ν g.I g.w v x->RI ν g.I (g.w.setCells b off vs) v x)->Row ν g.I (g.w.setCells b off vs) b e es') :
  Rel ν k { g with w:=g.w.setCells b off vs,h:=set g.h id (.buf v' e es') }/\Mono ν g { g with w:=g.w.setCells b off vs,h:=set g.h id (.buf v' e es') }:=by
 obtain⟨hnI,hsoft⟩:¬g.I b/\Soft g.w b:=by
  rcases r.ob id _ hg with⟨h1,_⟩|⟨b',h1,h2,h3,_⟩
  ·rw[hφ]at h1;cases h1
  ·rw[hφ]at h1;cases h1;exact⟨h2,h3⟩
 have hφ':updφ g.φ id (g.φ id)=g.φ:=by funext i;simp only[updφ];split<;>simp_all
 have hrest:=setCells_rest g.w b vs off;have ht:=r.turn (s:=id) (ob:=.buf v' e es') (p:=g.φ id) (w':=g.w.setCells b off vs) (I':=g.I) hg (fun b' h=>by rw[hφ]at h;cases h;exact hnI) (by rw[setCells_size];exact Nat.le_refl _) hrest.1 hrest.2.1 hrest.2.2
  (fun b' _ hne=>setCells_other _ _ _ _ _ fun he=>hne (by rw[he];exact hφ)) (fun _ h=>h) (fun _ h=>.inl h) (.inl rfl)
  (fun u o n ver ho=>by
   unfold OwnAt at ho ⊢;rw[hg]at ho;simp only[get_set_same,updφ_same];obtain⟨h1,h2⟩:=ho;rcases hv with⟨rfl,hl⟩|rfl
   ·refine⟨h1,fun he=>?_⟩;have:=h2 he;rw[hφ]at this ⊢;exact this.put hl fun c hc=>setCells_some _ _ _ _ hcells _ hc
   ·exact⟨by omega,fun he=>by omega⟩)
  (fun u ver i j hr=>by
   unfold RefAt at hr ⊢;rw[hg]at hr;simp only[get_set_same,updφ_same];obtain⟨h1,h2⟩:=hr;rcases hv with⟨rfl,hl⟩|rfl
   ·exact⟨h1,h2⟩
   ·exact⟨by omega,fun he=>by omega⟩)
  (fun hRI _=>.inr ⟨b,(updφ_same _ _ _).trans hφ,hnI,⟨by rw[setCells_size];exact hsoft.1,fun o=>by rw[World.frozen?_setCells];exact hsoft.2 o⟩,hrow hRI⟩)
 rw[hφ']at ht;exact ht
theorem storeAt_run {t:TypeId} {i:TypeInfo} (hi:P.info? t=some i) {b off:Nat} {v:Value} {w:World} (hs:v.cells.size=i.size) (hc:∀j,j<i.size->(w.cell? ⟨b,off+j,none⟩).isSome=true)
  (hf:∀o,w.frozen? ⟨b,o,none⟩=false) (h1:∀u ∈ v.cells.toList,u.oneCell'=true) :
  (Instr.storeAt t (.pointer (some ⟨b,off,none⟩)) v).run P w = .ok () (w.setCells b off v.cells.toList):=by
 have:=run_storeCells_cells (P:=P) b off v.cells.toList 0 w (by simpa[hs]using hc) (fun _ _=>hf _) h1;simp[Instr.storeAt,Instr.sureAddr,storeVar,run_sizeOf hi,hs,this]
def sizeB (P:Program) (t:TypeId) (sz:Nat):Bool:=match P.info? t with | some i=>i.size==sz | none=>false
theorem sizeB_spec {t:TypeId} {sz:Nat} (h:sizeB P t sz=true):∃i,P.info? t=some i/\i.size=sz:=by
 unfold sizeB at h;split at h
 ·exact⟨_,by assumption,by simpa using h⟩
 ·cases h
theorem store_ok (r:Rel ν k g) {slot:Nat} {t:TypeId} {sz:Nat} (ht:sizeB P t sz=true) {va vx:Value} {a x y:AV} (hva:RA ν g va a) (hvx:RA ν g vx x) {h':Hp}
  (e':(store slot sz a x).run g.h=some (y,h')) :
  ∃g',(Instr.storeAt t va vx).run P g.w = .ok () g'.w/\y = .tup []/\g'.h=h'/\Rel ν k g'/\Mono ν g g':=by
 obtain⟨i,hi,rfl⟩:=sizeB_spec ht;obtain⟨xs,h1,e1,e2⟩:=M.bind_some e';obtain⟨rfl,hs,hc⟩:=cells_run e1 hvx;obtain⟨_,h2,e3,e4⟩:=M.bind_some e2;obtain⟨hl,rfl⟩:=M.ok_some e3;have hl':xs.length=i.size:=by simpa using hl
 have hone:∀u ∈ vx.cells.toList,u.oneCell'=true:=by
  intro u hu;obtain⟨j,hj,rfl⟩:=List.getElem_of_mem hu;simp only[Array.length_toList]at hj;obtain⟨u',h1,h2,_⟩:=hc j _ (List.getElem?_eq_getElem (by omega));rw[Array.getElem?_eq_getElem hj]at h1;cases h1;simpa using h2
 split at e4
 case h_2=>exact(M.fail_some e4).elim
 rename_i id ver i' j;cases hva with
 |ref hr1 hr=>
  obtain⟨ob,h3,e5,e6⟩:=M.bind_some e4;obtain⟨hg,rfl⟩:=M.look_some e5;unfold RefAt at hr;rw[hg]at hr;cases ob with
  |imm _ _ _=>exact(M.fail_some e6).elim
  |map _=>exact(M.fail_some e6).elim
  |cells cs=>
   obtain⟨rfl,rfl,b,hφ,rfl⟩:=hr;obtain⟨_,h4,e7,e8⟩:=M.bind_some e6;obtain⟨hfit,rfl⟩:=M.ok_some e7;have hfit':j+i.size<=cs.length:=by simpa using hfit
   obtain⟨l,h5,e9,e10⟩:=M.bind_some e8;obtain⟨φ',r1,m1,c1,o1,o2⟩:=nilc_ok xs slot k g l h5 e9 r vx.cells ⟨hs,hc⟩;obtain⟨_,h6,e11,e12⟩:=M.bind_some e10;obtain rfl:=M.write_some e11;obtain⟨rfl,rfl⟩:=M.ret_some e12;obtain⟨b',hφ',hnI,hsoft,hcc⟩:=r.ob id _ hg;rw[hφ]at hφ';cases hφ';have hll:l.length=i.size:=by have:=c1.1;omega
   have hex:∀m,m<vx.cells.toList.length->(g.w.cell? ⟨b,j+m,none⟩).isSome=true:=by
    intro m hm;simp only[Array.length_toList]at hm;obtain⟨u,hu,_⟩:=hcc (j+m) _ (List.getElem?_eq_getElem (by omega));rw[hu];rfl
   have hrun:=storeAt_run hi (b:=b) (off:=j) (v:=vx) (w:=g.w) (by omega) (fun m hm=>hex m (by simp;omega)) hsoft.2 hone;have hg1:get h5 id=some (.cells cs):=by rw[(o1 id (by rw[hg];rfl)).2];exact hg
   have hφ1:φ' id=some b:=by rw[(o1 id (by rw[hg];rfl)).1];exact hφ
   have hrest:=setCells_rest g.w b vx.cells.toList j;have hφ2:updφ φ' id (φ' id)=φ':=by funext m;simp only[updφ];split<;>simp_all
   have ht:=r1.turn (s:=id) (ob:=.cells (splice cs j l)) (p:=φ' id) (w':=g.w.setCells b j vx.cells.toList) (I':=g.I) hg1 (fun b' h=>by simp only[hφ1]at h;cases h;exact hnI)
    (by rw[setCells_size];exact Nat.le_refl _) hrest.1 hrest.2.1 hrest.2.2
    (fun b' _ hne=>setCells_other _ _ _ _ _ fun he=>hne (by rw[he];exact hφ1)) (fun _ h=>h) (fun _ h=>.inl h) (.inl rfl)
    (fun u o n ver ho=>by
     unfold OwnAt at ho;simp only[hg1]at ho)
    (fun u ver m n hr=>by
     unfold RefAt at hr ⊢;simp only[hg1]at hr;simp only[get_set_same,updφ_same];exact hr)
    (fun _ hm=>by
     refine⟨b,(updφ_same _ _ _).trans hφ1,hnI,⟨by rw[setCells_size];exact hsoft.1,fun o=>by rw[World.frozen?_setCells];exact hsoft.2 o⟩,fun m c hm'=>?_⟩;rw[splice_get _ _ _ (by omega)]at hm';simp only[];rw[setCells_cell _ _ _ _ hex];simp only[Array.length_toList,hs,hl'];by_cases hin:j<=m/\m<j+i.size
     ·rw[if_pos (by omega)]at hm';rw[if_pos hin];obtain⟨u,h1,h2,h3⟩:=c1.2 _ c hm';exact⟨u,by simpa using h1,h2,hm _ _ h3⟩
     ·rw[if_neg (by omega)]at hm';rw[if_neg hin];obtain⟨u,h1,h2,h3⟩:=hcc m c hm';exact⟨u,h1,h2,hm _ _ (m1 _ _ h3)⟩)
   rw[hφ2]at ht;exact⟨_,hrun,rfl,rfl,ht.1,m1.trans ht.2⟩
  |buf v0 e0 es0=>
   obtain⟨l,h4,e7,e8⟩:=M.bind_some e6;obtain⟨V,hV⟩:=pick hc;obtain⟨I1,f1,hll,hx⟩:=(fzT_spec ν 8).list xs k g l h4 e7 r V fun j c h=>(hV j c h).2.2
   obtain⟨ob',h5,e9,e10⟩:=M.bind_some e8;obtain⟨hg',rfl⟩:=M.look_some e9;cases ob' with
   |cells _=>exact(M.fail_some e10).elim
   |imm _ _ _=>exact(M.fail_some e10).elim
   |map _=>exact(M.fail_some e10).elim
   |buf v e es=>
    obtain⟨_,h6,e11,e12⟩:=M.bind_some e10;obtain⟨hok,rfl⟩:=M.ok_some e11;simp only[Bool.and_eq_true,beq_iff_eq,Nat.ble_eq]at hok;obtain⟨hv,hfit⟩:=hok;obtain⟨c,h7,e13,e14⟩:=M.bind_some e12;obtain⟨hci,rfl⟩:=M.lift_some e13;obtain⟨_,h8,e15,e16⟩:=M.bind_some e14;obtain rfl:=M.write_some e15;obtain⟨rfl,rfl⟩:=M.ret_some e16;have hR:=f1.mono _ _ (.ref hr1 (by unfold RefAt;rw[hg];exact hr):RA ν g va (.ref id ver i' j));cases hR with
    |ref _ hR=>
    unfold RefAt at hR;simp only[hg']at hR;obtain⟨b,hφ,rfl⟩:=hR.2 hv;have r1:=f1.rel;rcases r1.ob id _ hg' with⟨h1,_⟩|⟨b',h1,hnI,hsoft,hrow⟩
    ·simp only[hφ]at h1;cases h1
    simp only[hφ]at h1;cases h1;simp only[]at hnI hsoft hrow;have hce:c.length=e:=hrow.1 c (List.mem_of_getElem? hci);have hex:∀m,m<vx.cells.toList.length->(g.w.cell? ⟨b,i'*e+j+m,none⟩).isSome=true:=by
     intro m hm;simp only[Array.length_toList]at hm;obtain⟨u,hu,_⟩:=hrow.2 i' (j+m) c _ hci (List.getElem?_eq_getElem (by omega));rw[Nat.add_assoc,hu];rfl
    have hrun:=storeAt_run hi (b:=b) (off:=i'*e+j) (v:=vx) (w:=g.w) (by omega) (fun m hm=>hex m (by simp;omega)) hsoft.2 hone;have hi':i'<es.length:=by
     rcases Nat.lt_or_ge i' es.length with h | h
     ·exact h
     ·rw[List.getElem?_eq_none h]at hci;cases hci
    have hput:=r1.put (id:=id) (v:=v) (e:=e) (b:=b) (off:=i'*e+j) (v':=v) (es:=es) (es':=es.set i' (splice c j l)) (vs:=vx.cells.toList) hg' hφ hex (.inl ⟨rfl,by simp⟩)
     (fun hRI=>by
      refine⟨fun c' hc'=>?_,fun i2 j2 c' x' h1 h2=>?_⟩
      ·rcases List.mem_or_eq_of_mem_set hc' with h | h
       ·exact hrow.1 c' h
       ·rw[h,splice_length _ _ _ (by omega)];exact hce
      ·simp only[];rw[setCells_cell _ _ _ _ hex];simp only[Array.length_toList,hs,hl'];rw[List.getElem?_set]at h1;by_cases h2i:i'=i2
       ·subst h2i;rw[if_pos rfl,if_pos hi']at h1;cases h1;rw[splice_get _ _ _ (by omega)]at h2;by_cases hin:j<=j2/\j2<j+l.length
        ·rw[if_pos hin]at h2;rw[if_pos (by omega)];obtain⟨c0,hc0⟩:∃c0,xs[j2 - j]?=some c0:=⟨_,List.getElem?_eq_getElem (by omega)⟩;obtain⟨u,hu,_,_⟩:=hc _ c0 hc0;refine⟨u,?_,?_⟩
         ·rw[show i'*e+j2 - (i'*e+j)=j2 - j by omega];simpa using hu
         ·have:=(hV _ c0 hc0).1;rw[hu]at this;cases this;exact hRI _ _ (hx _ x' h2)
        ·rw[if_neg hin]at h2;rw[if_neg (by omega)];obtain⟨u,h3,h4⟩:=hrow.2 i' j2 c x' hci h2;exact⟨u,h3,hRI _ _ h4⟩
       ·rw[if_neg h2i]at h1;have hj2:j2<e:=by
         have:=hrow.1 c' (List.mem_of_getElem? h1);rcases Nat.lt_or_ge j2 c'.length with h | h
         ·omega
         ·rw[List.getElem?_eq_none h]at h2;cases h2
        have hapart:¬(i'*e+j<=i2*e+j2/\i2*e+j2<i'*e+j+i.size):=by
         intro⟨ha,hb⟩;rcases Nat.lt_or_gt_of_ne h2i with hlt | hlt
         ·have:i'*e+e<=i2*e:=by rw[<-Nat.succ_mul];exact Nat.mul_le_mul_right _ hlt
          omega
         ·have:i2*e+e<=i'*e:=by rw[<-Nat.succ_mul];exact Nat.mul_le_mul_right _ hlt
          omega
        rw[if_neg hapart];obtain⟨u,h3,h4⟩:=hrow.2 i2 j2 c' x' h1 h2;exact⟨u,h3,hRI _ _ h4⟩)
    exact⟨_,hrun,rfl,rfl,hput.1,f1.mono.trans hput.2⟩
end
theorem M.mapL_map {α β γ:Type} (f:β->M γ) (h:α->β):∀l:List α,M.mapL f (l.map h)=M.mapL (fun x=>f (h x)) l
 |[]=>rfl
 |x::r=>by simp only[List.map_cons,M.mapL,M.mapL_map f h r]
section
variable {ν:Nat->Nat} {P:Program} {k:Cx} {g:Gh}
def RowA (ν:Nat->Nat) (I:Nat->Prop) (w:World) (vs:Array Value) (e:Nat) (es:List (List IV)):Prop:=
 vs.size=es.length*e/\(∀c ∈ es,c.length=e)/\∀(i j:Nat) (c:List IV) (x:IV),es[i]?=some c->c[j]?=some x->∃u,vs[i*e+j]?=some u/\RI ν I w u x
theorem lt_of_some {α:Type} {l:List α} {i:Nat} {x:α} (h:l[i]?=some x):i<l.length:=by
 rcases Nat.lt_or_ge i l.length with h' | h'
 ·exact h'
 ·rw[List.getElem?_eq_none h']at h;cases h
theorem RowA.step {I:Nat->Prop} {w:World} {vs us:Array Value} {e i0:Nat} {es:List (List IV)} {l:List IV} (h:RowA ν I w vs e es) (hi:i0<es.length) (hu:us.size=e) (hl:l.length=e)
  (hr:∀(m:Nat) (x:IV),l[m]?=some x->∃u,us[m]?=some u/\RI ν I w u x) :
  RowA ν I w ((us.toList.zipIdx).foldl (fun cs (p:Value×Nat)=>cs.setIfInBounds (i0*e+p.2) p.1) vs) e (es.set i0 l):=by
 have hfit:i0*e+e<=vs.size:=by rw[h.1,<-Nat.succ_mul];exact Nat.mul_le_mul_right _ hi
 have hs:=fillFold_spec (i0*e) us.toList 0 vs (by simp;omega);simp only[Nat.add_zero,Array.length_toList,hu]at hs;refine⟨by rw[hs.1,h.1];simp,fun c hc=>?_,fun i j c x h1 h2=>?_⟩
 ·rcases List.mem_or_eq_of_mem_set hc with h' | h'
  ·exact h.2.1 c h'
  ·rw[h',hl]
 ·rw[hs.2,List.getElem?_set]at *;by_cases hii:i0=i
  ·subst hii;rw[if_pos rfl,if_pos hi]at h1;cases h1;have hj:=lt_of_some h2;rw[if_pos (by omega),show i0*e+j - i0*e=j by omega];simpa using hr j x h2
  ·rw[if_neg hii]at h1;have hj:j<e:=by have:=lt_of_some h2;rw[h.2.1 c (List.mem_of_getElem? h1)]at this;exact this
   have hapart:¬(i0*e<=i*e+j/\i*e+j<i0*e+e):=by
    intro⟨ha,hb⟩;rcases Nat.lt_or_gt_of_ne hii with hlt | hlt
    ·have:i0*e+e<=i*e:=by rw[<-Nat.succ_mul];exact Nat.mul_le_mul_right _ hlt
     omega
    ·have:i*e+e<=i0*e:=by rw[<-Nat.succ_mul];exact Nat.mul_le_mul_right _ hlt
     omega
   rw[if_neg hapart];exact h.2.2 i j c x h1 h2
theorem parts_fz {e n:Nat}:∀(ps:List (Nat×AV)) (k:Cx) (g:Gh) (out:List (Nat×List IV)) (h':Hp),
  (M.mapL (fun p:Nat×AV=>(cellsM p.2).bind fun xs=>(M.ok (xs.length==e&&Nat.blt p.1 n)).bind fun _=>(M.mapL (fz true 8) xs).bind fun l=>M.ret (p.1,l)) ps).run g.h=some (out,h')->Rel ν k g->
  ∀vs:List (Nat×Value),vs.length=ps.length->(∀(j:Nat) (q:Nat×Value) (p:Nat×AV),vs[j]?=some q->ps[j]?=some p->q.1=p.1/\RA ν g q.2 p.2)->
  ∃I',Froze ν k g h' I'/\out.length=vs.length/\∀(j:Nat) (p:Nat×List IV) (q:Nat×Value),out[j]?=some p->vs[j]?=some q->
   q.1=p.1/\p.1<n/\q.2.cells.size=e/\p.2.length=e/\∀(m:Nat) (x:IV),p.2[m]?=some x->∃u,q.2.cells[m]?=some u/\RI ν I' g.w u x:=by
 intro ps
 induction ps with
 |nil=>
  intro k g out h' e' r vs hl _;obtain⟨rfl,rfl⟩:=M.mapL_nil e';have:vs=[]:=List.eq_nil_of_length_eq_zero hl;subst this;exact⟨g.I,.refl r,rfl,fun j p q h=>by simp at h⟩
 |cons p ps ih=>
  intro k g out h' e' r vs hl hv;obtain⟨y,h1,zs,e1,e2,rfl⟩:=M.mapL_cons e';cases vs with
  |nil=>simp at hl
  |cons q vs=>
   obtain⟨hq,hqR⟩:=hv 0 q p rfl rfl;obtain⟨xs,h2,e3,e4⟩:=M.bind_some e1;obtain⟨rfl,hs,hc⟩:=cells_run e3 hqR;obtain⟨_,h3,e5,e6⟩:=M.bind_some e4;obtain⟨hok,rfl⟩:=M.ok_some e5;simp only[Bool.and_eq_true,beq_iff_eq,Nat.blt_eq]at hok;obtain⟨l,h4,e7,e8⟩:=M.bind_some e6;obtain⟨V,hV⟩:=pick hc;obtain⟨I1,f1,hll,hx⟩:=(fzT_spec ν 8).list xs k g l h4 e7 r V fun j c h=>(hV j c h).2.2
   obtain⟨rfl,rfl⟩:=M.ret_some e8;obtain⟨I2,f2,hl2,hr2⟩:=ih k _ zs h' e2 f1.rel vs (by simpa using hl) fun j q' p' h1 h2=>by
    obtain⟨a1,a2⟩:=hv (j+1) q' p' (by simpa using h1) (by simpa using h2);exact⟨a1,f1.mono _ _ a2⟩
   refine⟨I2,f1.trans f2,by simp[hl2],fun j p' q' h1 h2=>?_⟩;cases j with
   |zero=>
    simp at h1 h2;subst h1 h2;refine⟨hq,hok.2,by omega,by simp only[];omega,fun m x hm=>?_⟩;have hlt:=lt_of_some hm;simp only[]at hlt;have hu:=(hV m _ (List.getElem?_eq_getElem (show m<xs.length by omega))).1;exact⟨V m,hu,(hx m x hm).mono f2.sub fun _ _ _ _ h=>h⟩
   |succ j=>exact hr2 j p' q' (by simpa using h1) (by simpa using h2)
theorem fill_row {I:Nat->Prop} {w:World} {e:Nat}:∀(out:List (Nat×List IV)) (vs:List (Nat×Value)) (cells:Array Value) (es:List (List IV)),out.length=vs.length->RowA ν I w cells e es->
  (∀(j:Nat) (p:Nat×List IV) (q:Nat×Value),out[j]?=some p->vs[j]?=some q->
   q.1=p.1/\p.1<es.length/\q.2.cells.size=e/\p.2.length=e/\∀(m:Nat) (x:IV),p.2[m]?=some x->∃u,q.2.cells[m]?=some u/\RI ν I w u x)->
  ∃cells',Instr.fill (fun i=>some (i*e,e)) cells vs=some cells'/\RowA ν I w cells' e (setAll es out):=by
 intro out
 induction out with
 |nil=>
  intro vs cells es hl hrow _;have:vs=[]:=List.eq_nil_of_length_eq_zero hl.symm;subst this;exact⟨cells,rfl,hrow⟩
 |cons p out ih=>
  intro vs cells es hl hrow hh;cases vs with
  |nil=>simp at hl
  |cons q vs=>
   obtain⟨h1,h2,h3,h4,h5⟩:=hh 0 p q rfl rfl;have hstep:=hrow.step (i0:=p.1) (us:=q.2.cells) (l:=p.2) h2 h3 h4 h5;obtain⟨c',hc',hr'⟩:=ih vs _ (es.set p.1 p.2) (by simpa using hl) hstep fun j p' q' a b=>by
    obtain⟨x1,x2,x3⟩:=hh (j+1) p' q' (by simpa using a) (by simpa using b);exact⟨x1,by simpa using x2,x3⟩
   refine⟨c',?_,hr'⟩;rw[<-hc'];have hfit:¬(cells.size<q.1*e+e):=by
    have:p.1*e+e<=es.length*e:=by rw[<-Nat.succ_mul];exact Nat.mul_le_mul_right _ h2
    rw[hrow.1,h1];omega
   obtain⟨i,v⟩:=q;simp only at h1 h3 hfit;subst h1;simp only[Instr.fill,h3];rw[if_neg (by simp;omega)];congr 1;rw[<-Array.foldl_toList,Array.toList_zipIdx]
def bslB (P:Program) (t:TypeId) (len e:Nat) (z:List IV):Bool:=
 match P.underlying t with
 |some (.slice el)=>sizeB P el e&&zeroB P el z&&Nat.ble (len*e) 16777216&&z.length==e&&Nat.blt 0 e
 |_=>false
theorem zeros_row {zs:Array Value} {z:List IV} (hz:cVals zs.toList z=true) (n:Nat) {I:Nat->Prop} {w:World} :
  RowA ν I w ((Array.range (n*zs.size)).map (zs[· % zs.size]!)) zs.size (List.replicate n z):=by
 obtain⟨h1,h2⟩:=cVals_ok hz;refine⟨by simp,fun c hc=>by rw[List.eq_of_mem_replicate hc];simpa using h1.symm,fun i j c x hi hj=>?_⟩;have hi':=lt_of_some hi;simp only[List.length_replicate]at hi';rw[List.getElem?_replicate,if_pos hi']at hi;cases hi;have hjl:=lt_of_some hj;obtain⟨v,hv,hc⟩:=h2 j x hj;have hjz:j<zs.size:=by simp at h1;omega
 have hlt:i*zs.size+j<n*zs.size:=by
  have:i*zs.size+zs.size<=n*zs.size:=by rw[<-Nat.succ_mul];exact Nat.mul_le_mul_right _ hi'
  omega
 refine⟨v,?_,cVal_ok hc _ _⟩;have hmod:(i*zs.size+j) % zs.size=j:=by rw[Nat.add_comm,Nat.add_mul_mod_self_right,Nat.mod_eq_of_lt hjz]
 simp only[Array.getElem?_map,Array.getElem?_range,if_pos hlt,Option.map_some,hmod];rw[getElem!_pos zs j hjz];have:zs[j]?=some v:=by simpa using hv
 rw[Array.getElem?_eq_getElem hjz]at this;exact this
theorem bsl_ok (r:Rel ν k g) {slot:Nat} {t:TypeId} {n e:Nat} {z:List IV} (ht:bslB P t n e z=true) {ps:List (Nat×AV)} {vs:List (Nat×Value)} (hl:vs.length=ps.length)
  (hv:∀(j:Nat) (q:Nat×Value) (p:Nat×AV),vs[j]?=some q->ps[j]?=some p->q.1=p.1/\RA ν g q.2 p.2) {y:AV} {h':Hp}
  (e':((M.ok (z.length==e)).bind fun _=>
   (M.mapL (fun p:Nat×AV=>(cellsM p.2).bind fun xs=>(M.ok (xs.length==e&&Nat.blt p.1 n)).bind fun _=>(M.mapL (fz true 8) xs).bind fun l=>M.ret (p.1,l)) ps).bind fun l=>
   (M.fresh slot).bind fun _=>(M.write slot (.buf 0 e (setAll (List.replicate n z) l))).bind fun _=>M.ret (.own slot 0 n 0)).run g.h=some (y,h')) :
  Done ν k g h' y ((Instr.buildSlice t n vs.toArray).run P g.w):=by
 unfold bslB at ht;split at ht
 case h_2=>cases ht
 rename_i el hu;simp only[Bool.and_eq_true,beq_iff_eq,Nat.ble_eq,Nat.blt_eq]at ht;obtain⟨⟨⟨⟨hsz,hz⟩,hbig⟩,hzl⟩,he0⟩:=ht;obtain⟨i,hi,hie⟩:=sizeB_spec hsz;obtain⟨i',v,hi',hzv,hcv⟩:=zeroB_spec hz;rw[hi]at hi';cases hi';subst hie;have hvs:v.cells.size=i.size:=by have:=(cVals_ok hcv).1;simp at this;omega
 obtain⟨_,h1,e1,e2⟩:=M.bind_some e';obtain⟨-,rfl⟩:=M.ok_some e1;obtain⟨out,h2,e3,e4⟩:=M.bind_some e2;obtain⟨I1,f1,hol,hout⟩:=parts_fz ps k g out h2 e3 r vs hl hv;obtain⟨_,h3,e5,e6⟩:=M.bind_some e4;obtain⟨hf,rfl⟩:=M.fresh_some e5;obtain⟨_,h4,e7,e8⟩:=M.bind_some e6;obtain rfl:=M.write_some e7;obtain⟨rfl,rfl⟩:=M.ret_some e8;have hrow0:=zeros_row (ν:=ν) hcv n (I:=I1) (w:=g.w);rw[hvs]at hrow0;obtain⟨cells,hfill,hrow⟩:=fill_row out vs _ _ hol hrow0 fun j p q a b=>by
  obtain⟨x1,x2,x3⟩:=hout j p q a b;exact⟨x1,by simpa using x2,x3⟩
 have hlen:(setAll (List.replicate n z) out).length=n:=by
  have:∀(o:List (Nat×List IV)) (l:List (List IV)),(setAll l o).length=l.length:=by
   intro o
   induction o with
   |nil=>intro l;rfl
   |cons a o ih=>intro l;simp[setAll,ih]
  rw[this];simp
 have hrun:(Instr.buildSlice t n vs.toArray).run P g.w = .ok (.slice (some ⟨g.w.heap.size,0,none⟩) n n) (g.w.alloc (.cells cells el)):=by
  have hnb:¬(2 ^ 24<n*i.size):=by omega
  by_cases hn0:n=0
  ·subst hn0;simp only[Nat.zero_mul,Array.range_zero',List.map_toArray]at hfill;simp only[Instr.buildSlice,Sem.run_bind,run_underlying hu,Result.andThen_ok,run_sizeOf hi];simp at hfill;simp[hfill,newRow,Array.range_zero']
  ·simp only[Instr.buildSlice,Sem.run_bind,run_underlying hu,Result.andThen_ok,run_sizeOf hi];have hnz:¬n*i.size=0:=Nat.mul_ne_zero hn0 (by omega);simp[hnb,hnz,zeroValue,typeInfo,hi,hzv,hvs,hfill,newRow]
 have r1:=f1.rel;have hn:=r1.new (s:=slot) (ob:=.buf 0 i.size (setAll (List.replicate n z) out)) (p:=some g.w.heap.size) (w':=g.w.alloc (.cells cells el)) hf (by simp) rfl rfl rfl (fun b hb=>alloc_old _ _ _ hb)
  (fun b h=>by cases h;exact Nat.le_refl _) fun hm=>by
   have hRI:∀u x,RI ν I1 g.w u x->RI ν I1 (g.w.alloc (.cells cells el)) u x:=fun u x h=>h.mono (fun _ h=>h) fun b off w hb hc=>by
    rw[cell_of_same (alloc_old _ _ _ (r1.small b hb))];exact hc
   refine .inr ⟨g.w.heap.size,updφ_same _ _ _,fun hi'=>Nat.lt_irrefl _ (r1.small _ hi'),⟨by simp,fun o=>World.frozen?_alloc_new _ _ _ _⟩,hrow.2.1,fun a b c x h1 h2=>?_⟩;obtain⟨u,hu',hR⟩:=hrow.2.2 a b c x h1 h2;exact⟨u,by simp only[];rw[World.cell?_alloc_new];exact hu',hRI _ _ hR⟩
 refine⟨_,_,hrun,rfl,hn.1,f1.mono.trans hn.2,.own rfl ?_⟩;unfold OwnAt;simp only[get_set_same,updφ_same];refine⟨Nat.le_refl _,fun _=>⟨0,n,rfl,by omega,Nat.le_refl _,.inl (by simp),fun _ c hc=>?_⟩⟩;rw[World.cell?_alloc_new,Array.getElem?_eq_getElem (by rw[hrow.1,hlen];simpa using hc)];rfl
end
section
variable {ν:Nat->Nat} {P:Program} {k:Cx} {g:Gh}
theorem rows_flat {e m:Nat} {f:Nat->Nat->Value}:∃news:List Value,news.length=m*e/\∀i j,i<m->j<e->news[i*e+j]?=some (f i j):=by
 refine⟨(List.range (m*e)).map fun p=>f (p / e) (p % e),by simp,fun i j hi hj=>?_⟩;have hlt:i*e+j<m*e:=by
  have:i*e+e<=m*e:=by rw[<-Nat.succ_mul];exact Nat.mul_le_mul_right _ hi
  omega
 have hd:(i*e+j) / e=i:=by rw[Nat.mul_comm,Nat.mul_add_div (by omega),Nat.div_eq_of_lt hj,Nat.add_zero]
 have hm:(i*e+j) % e=j:=by rw[Nat.mul_comm,Nat.mul_add_mod,Nat.mod_eq_of_lt hj]
 simp[hlt,hd,hm]
theorem flat_split {e m p:Nat} (h:p<m*e):∃i j,i<m/\j<e/\p=i*e+j:=by
 have he:0<e:=by
  rcases Nat.eq_zero_or_pos e with h0 | h0
  ·subst h0;simp at h
  ·exact h0
 refine⟨p / e,p % e,(Nat.div_lt_iff_lt_mul he).2 h,Nat.mod_lt _ he,?_⟩;rw[Nat.mul_comm];exact(Nat.div_add_mod p e).symm
def Lies (ν:Nat->Nat) (g:Gh) (v:Value) (e:Nat) (ys:List (List IV)) (news:List Value):Prop:=
 (∃a c,v = .slice a ys.length c/\(ys.length=0\/∃b off,a=some ⟨b,off,none⟩/\∀(p:Nat) (u:Value),news[p]?=some u->g.w.cell? ⟨b,off+p,none⟩=some u))/\
 news.length=ys.length*e/\(∀c ∈ ys,c.length=e)/\(∀u ∈ news,u.oneCell'=true)/\
 ∀(i j:Nat) (c:List IV) (x:IV),ys[i]?=some c->c[j]?=some x->∃u,news[i*e+j]?=some u/\RI ν g.I g.w u x
theorem lies_row {b off a0 e m cap:Nat} {ys:List (List IV)} (hm:m=ys.length) (hl:∀c ∈ ys,c.length=e)
  (hc:∀(i j:Nat) (c:List IV) (x:IV),ys[i]?=some c->c[j]?=some x->∃u,g.w.cell? ⟨b,off+i*e+j,none⟩=some u/\RI ν g.I g.w u x) (ha:off=a0) :
  ∃news,Lies ν g (.slice (some ⟨b,a0,none⟩) m cap) e ys news:=by
 subst hm ha;have hget:∀i j,i<ys.length->j<e->∃u:Value,∀c x,ys[i]?=some c->c[j]?=some x->g.w.cell? ⟨b,off+i*e+j,none⟩=some u/\RI ν g.I g.w u x:=by
  intro i j hi hj;have hci:ys[i]?=some ys[i]:=List.getElem?_eq_getElem hi;have hle:=hl _ (List.getElem_mem hi);obtain⟨u,h1,h2⟩:=hc i j _ _ hci (List.getElem?_eq_getElem (by omega));exact⟨u,fun c x h3 h4=>by
   rw[hci]at h3;cases h3;rw[List.getElem?_eq_getElem (by omega)]at h4;cases h4;exact⟨h1,h2⟩⟩
 obtain⟨f,hf⟩:∃f:Nat->Nat->Value,∀i j,i<ys.length->j<e->∀c x,ys[i]?=some c->c[j]?=some x->g.w.cell? ⟨b,off+i*e+j,none⟩=some (f i j)/\RI ν g.I g.w (f i j) x:=by
  refine⟨fun i j=>if h:i<ys.length/\j<e then Classical.choose (hget i j h.1 h.2) else .bool true,fun i j hi hj=>?_⟩;have h:i<ys.length/\j<e:=⟨hi,hj⟩;simp only[dif_pos h];exact Classical.choose_spec (hget i j hi hj)
 obtain⟨news,hn,hget'⟩:=rows_flat (e:=e) (m:=ys.length) (f:=f);have hall:∀(p:Nat) (u:Value),news[p]?=some u->∃i j c x,i<ys.length/\j<e/\p=i*e+j/\u=f i j/\ys[i]?=some c/\c[j]?=some x:=by
  intro p u hu;have hp:=lt_of_some hu;rw[hn]at hp;obtain⟨i,j,hi,hj,rfl⟩:=flat_split hp;rw[hget' i j hi hj]at hu;cases hu;have hle:=hl _ (List.getElem_mem hi);exact⟨i,j,_,_,hi,hj,rfl,rfl,List.getElem?_eq_getElem hi,List.getElem?_eq_getElem (by omega)⟩
 refine⟨news,⟨_,cap,rfl,.inr ⟨b,off,rfl,fun p u hu=>?_⟩⟩,hn,hl,fun u hu=>?_,fun i j c x h1 h2=>?_⟩
 ·obtain⟨i,j,c,x,hi,hj,rfl,rfl,h3,h4⟩:=hall p u hu;rw[<-Nat.add_assoc];exact(hf i j hi hj c x h3 h4).1
 ·obtain⟨p,hp,rfl⟩:=List.getElem_of_mem hu;obtain⟨i,j,c,x,hi,hj,_,h5,h3,h4⟩:=hall p _ (List.getElem?_eq_getElem hp);rw[h5];exact(hf i j hi hj c x h3 h4).2.one
 ·have hi:=lt_of_some h1;have hj:j<e:=by have:=lt_of_some h2;rwa [hl c (List.mem_of_getElem? h1)]at this
  exact⟨_,hget' i j hi hj,(hf i j hi hj c x h1 h2).2⟩
theorem lies_nil {v:Value} {e:Nat} {a:Option Addr} {c:Nat} (hv:v = .slice a 0 c):Lies ν g v e [] []:=
 ⟨⟨a,c,hv,.inl rfl⟩,by simp,fun c h=>by simp at h,fun u h=>by simp at h,fun i j c x h=>by simp at h⟩
theorem elems_ok (r:Rel ν k g) {e:Nat} {x:AV} {ys:List (List IV)} {h':Hp} (e':(elems e x).run g.h=some (ys,h')) {v:Value} (hv:RA ν g v x):h'=g.h/\∃news,Lies ν g v e ys news:=by
 cases hv with
 |undef=>exact(M.fail_some e').elim
 |agg=>exact(M.fail_some e').elim
 |tup=>exact(M.fail_some e').elim
 |ref=>exact(M.fail_some e').elim
 |clo=>exact(M.fail_some e').elim
 |iv hr=>
  cases hr with
  |nsl a _=>obtain⟨rfl,rfl⟩:=M.ret_some e';exact⟨rfl,_,lies_nil rfl⟩
  |sl0 a cap _=>
   obtain⟨_,h1,e1,e2⟩:=M.bind_some e';obtain⟨-,rfl⟩:=M.ok_some e1;obtain⟨rfl,rfl⟩:=M.ret_some e2;exact⟨rfl,_,lies_nil rfl⟩
  |sl b off n cap e'' es f hI hn hcap hll hc hr=>
   obtain⟨_,h1,e1,e2⟩:=M.bind_some e';obtain⟨he,rfl⟩:=M.ok_some e1;obtain⟨rfl,rfl⟩:=M.ret_some e2;have he':e''=e:=by simpa using he
   subst he';exact⟨rfl,lies_row hn hll (fun i j c x h1 h2=>⟨_,hc i j c x h1 h2,hr i j c x h1 h2⟩) rfl⟩
  |_=>exact(M.fail_some e').elim
 |@own _ id o m ver ho1 ho=>
  obtain⟨ob,h1,e1,e2⟩:=M.bind_some e';obtain⟨hg,rfl⟩:=M.look_some e1;unfold OwnAt at ho;rw[hg]at ho;have fin:∀{e'':Nat} {es:List (List IV)},(∀b,g.φ id=some b->Row ν g.I g.w b e'' es)->e''=e->SlAt g.w (g.φ id) e'' es o m v->∃news,Lies ν g v e ((es.drop o).take m) news:=by
   intro e'' es hrow he hs;subst he;cases hφ:g.φ id with
   |none=>
    rw[hφ]at hs;obtain⟨⟨a,rfl⟩,rfl⟩:=hs;exact⟨[],by simpa using lies_nil (ν:=ν) (g:=g) (e:=e'') (v:=.slice a 0 0) rfl⟩
   |some b=>
    rw[hφ]at hs;obtain⟨x,cap,rfl,h2,h3,h4,_⟩:=hs;by_cases hm:m=0
    ·subst hm;exact⟨[],by simpa using lies_nil (ν:=ν) (g:=g) (e:=e'') (a:=some ⟨b,x,none⟩) (c:=cap) rfl⟩
    ·have hx:x=o*e'':=h4.resolve_right fun h=>hm h.1
     have hrow:=hrow b hφ;have hsub:∀(i:Nat) (c:List IV),((es.drop o).take m)[i]?=some c->es[o+i]?=some c:=by
      intro i c hi;rw[List.getElem?_take]at hi;split at hi
      ·rwa [List.getElem?_drop]at hi
      ·cases hi
     exact lies_row (by simp;omega) (fun c hc=>hrow.1 c (List.mem_of_mem_drop (List.mem_of_mem_take hc))) (fun i j c y h1 h2=>by
      obtain⟨u,hu,hR⟩:=hrow.2 (o+i) j c y (hsub i c h1) h2;exact⟨u,by rwa [Nat.add_mul]at hu,hR⟩) hx.symm
  cases ob with
  |cells cs=>exact ho.elim
  |buf v' e'' es=>
   obtain⟨_,h3,e9,e10⟩:=M.bind_some e2;obtain⟨hve,rfl⟩:=M.ok_some e9;obtain⟨rfl,rfl⟩:=M.ret_some e10;simp only[Bool.and_eq_true,beq_iff_eq]at hve;refine⟨rfl,fin (fun b hφ=>?_) hve.2 (ho.2 hve.1)⟩;rcases r.ob id _ hg with⟨h1,_⟩|⟨b',h1,_,_,hrow⟩
   ·rw[hφ]at h1;cases h1
   ·rw[hφ]at h1;cases h1;exact hrow
  |imm v' e'' es=>
   obtain⟨_,h3,e9,e10⟩:=M.bind_some e2;obtain⟨hve,rfl⟩:=M.ok_some e9;obtain⟨rfl,rfl⟩:=M.ret_some e10;simp only[Bool.and_eq_true,beq_iff_eq]at hve;refine⟨rfl,fin (fun b hφ=>?_) hve.2 (ho.2 hve.1)⟩;rcases r.ob id _ hg with⟨h1,_⟩|⟨b',h1,_,hrow⟩
   ·rw[hφ]at h1;cases h1
   ·rw[hφ]at h1;cases h1;exact hrow
  |map _=>exact ho.elim
def appB (P:Program) (t u:TypeId) (e:Nat):Bool:=
 match P.underlying t,P.underlying u with
 |some (.slice el),some d=>(match d with | .int _=>false | _=>true)&&Nat.blt 0 e&&(match P.info? el with
  |some i=>i.size==e&&Nat.ble i.bytes 4096&&(match i.zero with | some z=>z.cells.size==e | none=>false)
  |none=>false)
 |_,_=>false
theorem appB_spec {t u:TypeId} {e:Nat} (h:appB P t u e=true):∃el d i z,P.underlying t=some (.slice el)/\P.underlying u=some d/\(∀kk,d≠.int kk)/\P.info? el=some i/\i.size=e/\i.bytes<=4096/\i.zero=some z/\z.cells.size=e/\0<e:=by
 unfold appB at h;split at h
 case h_2=>cases h
 rename_i el d hu hd;simp only[Bool.and_eq_true,Nat.blt_eq]at h;obtain⟨⟨h1,h2⟩,h3⟩:=h;split at h3
 case h_2=>cases h3
 rename_i i hi;simp only[Bool.and_eq_true,beq_iff_eq,Nat.ble_eq]at h3;obtain⟨⟨h4,h5⟩,h6⟩:=h3;split at h6
 case h_2=>cases h6
 rename_i z hz;exact⟨el,d,i,z,hu,hd,(fun kk he=>by subst he;cases h1),hi,h4,h5,hz,by simpa using h6,h2⟩
theorem firstCells_lies {v:Value} {e:Nat} {ys:List (List IV)} {news:List Value} (h:Lies ν g v e ys news) {w:World} (hw:∀b off u,g.w.cell? ⟨b,off,none⟩=some u->w.cell? ⟨b,off,none⟩=some u) :
  (Builtin.lenOf v).run P w = .ok ys.length w/\(Builtin.firstCells e ys.length v).run P w = .ok news.toArray w:=by
 obtain⟨⟨a,c,rfl,ha⟩,hn,_⟩:=h;refine⟨by simp[Builtin.lenOf],?_⟩;rcases ha with h0 | ⟨b,off,rfl,hc⟩
 ·have:news=[]:=List.eq_nil_of_length_eq_zero (by rw[hn,h0];simp);subst this;cases a with
  |none=>simp[Builtin.firstCells]
  |some a=>simp[Builtin.firstCells,h0,loadCells,loadCellsFrom]
 ·exact run_firstCells_some w e ys.length _ _ _ news hn fun j u hu=>by rw[Addr.add_lit];exact hw _ _ _ (hc j u hu)
theorem nextcap_fits {need cap bytes:Nat} (h:cap<need) (hn:need<=1073741824) (hb:bytes<=4096):Builtin.nextslicecap need cap*bytes<=281474976710656:=by
 refine growslice_fits h ?_;exact Nat.le_trans (Nat.mul_le_mul hn hb) (by decide)
theorem append_run {t u ty:TypeId} {e:Nat} (ht:appB P t u e=true) {base:Option Addr} {n cap:Nat} {olds:List Value} (hol:olds.length=n*e)
  (ho:n=0\/∃b,base=some ⟨b,0,none⟩/\∀(p:Nat) (x:Value),olds[p]?=some x->g.w.cell? ⟨b,p,none⟩=some x) {y:Value} {ys:List (List IV)} {news:List Value} (hy:Lies ν g y e ys news)
  (hroom:n+ys.length<=1073741824) :
  (n+ys.length<=cap/\∀R,(match base with | some a=>(storeCells (a.add (n*e)) news).run P g.w | none=>.ok () g.w) = .ok () R->
    (Builtin.append_ #[t,u] ty #[.slice base n cap,y]).run P g.w = .ok (.slice base (n+ys.length) cap) R)\/
  (cap<n+ys.length/\∃(el newcap:Nat) (arr:Array Value),n+ys.length<=newcap/\arr.size=newcap*e/\(∀(p:Nat) (x:Value),(olds++news)[p]?=some x->arr[p]?=some x)/\
    (Builtin.append_ #[t,u] ty #[.slice base n cap,y]).run P g.w = .ok (.slice (some ⟨g.w.heap.size,0,none⟩) (n+ys.length) newcap) (g.w.drew.alloc (.cells arr el))):=by
 obtain⟨el,d,i,z,hu,hd,hdi,hi,rfl,hb,hz,hzs,he0⟩:=appB_spec ht;obtain⟨f1,f2⟩:=firstCells_lies (P:=P) hy (w:=g.w) fun _ _ _ h=>h
 by_cases hc:n+ys.length<=cap
 ·refine .inl ⟨hc,fun R hR=>?_⟩;cases base with
  |none=>
   simp only[Result.ok.injEq,true_and]at hR;subst hR;simp[Builtin.append_,run_underlying hu,run_underlying hd,run_sizeOf hi,f1,f2,hc]
  |some a=>
   simp only[]at hR;simp[Builtin.append_,run_underlying hu,run_underlying hd,run_sizeOf hi,f1,f2,hc,hR]
 ·refine .inr ⟨by omega,el,grownCap g.w (n+ys.length) cap el,olds.toArray++news.toArray++Builtin.zeroCells z.cells (grownCap g.w (n+ys.length) cap el - (n+ys.length)),grownCap_ge _ _ _ _,?_,?_,?_⟩
  ·have:=grownCap_ge g.w (n+ys.length) cap el;simp only[Array.size_append,List.size_toArray];rw[size_zeroCells,hzs,hol,hy.2.1,<-Nat.add_mul,<-Nat.add_mul];congr 1;omega
  ·intro p x hx;have hp:=lt_of_some hx;rw[Array.getElem?_append_left (by simpa using hp)];simpa using hx
  ·obtain⟨-,f2'⟩:=firstCells_lies (P:=P) hy (w:=g.w.drew) fun _ _ _ h=>h
   have hold:(Builtin.firstCells i.size n (.slice base n cap)).run P g.w.drew = .ok olds.toArray g.w.drew:=by
    rcases ho with h0 | ⟨b,rfl,hcell⟩
    ·have:olds=[]:=List.eq_nil_of_length_eq_zero (by rw[hol,h0];simp);subst this;cases base with
     |none=>simp[Builtin.firstCells]
     |some a=>simp[Builtin.firstCells,h0,loadCells,loadCellsFrom]
    ·exact run_firstCells_some g.w.drew i.size n _ _ _ olds hol fun j x hx=>by rw[Addr.add_lit];simpa using hcell j x hx
   have hcap:=nextcap_fits (need:=n+ys.length) (cap:=cap) (bytes:=i.bytes) (by omega) hroom hb;have h48:¬(281474976710656<Builtin.nextslicecap (n+ys.length) cap*i.bytes):=by omega
   have h63:¬((9223372036854775807:Int)<(n:Int)+ys.length):=by omega
   simp[Builtin.append_,run_underlying hu,run_underlying hd,run_sizeOf hi,f1,hc,h63,typeInfo,hi,h48,Question.forced,hold,f2',zeroValue,hz,newRow,grownCap];congr 2;apply Array.ext';simp
theorem app_ok (r:Rel ν k g) {slot:Nat} {t u ty:TypeId} {e:Nat} (ht:appB P t u e=true) {v yv:Value} {x y z:AV} (hv:RA ν g v x) (hyv:RA ν g yv y) {h':Hp}
  (e':(app e slot x y).run g.h=some (z,h')):Done ν k g h' z ((Builtin.append_ #[t,u] ty #[v,yv]).run P g.w):=by
 obtain⟨ys,h1,e1,e2⟩:=M.bind_some e';obtain⟨rfl,news,hy⟩:=elems_ok r e1 hyv;have hys:=hy.2.1;have hye:=hy.2.2.1;have hyr:=hy.2.2.2.2;cases hv with
 |undef=>exact(M.fail_some e2).elim
 |agg=>exact(M.fail_some e2).elim
 |tup=>exact(M.fail_some e2).elim
 |ref=>exact(M.fail_some e2).elim
 |clo=>exact(M.fail_some e2).elim
 |iv hr=>
  cases hr with
  |nsl a _=>
   obtain⟨_,h2,e3,e4⟩:=M.bind_some e2;obtain⟨hroom,rfl⟩:=M.ok_some e3;obtain⟨_,h3,e5,e6⟩:=M.bind_some e4;obtain⟨hf,rfl⟩:=M.fresh_some e5;obtain⟨_,h4,e7,e8⟩:=M.bind_some e6;obtain rfl:=M.write_some e7;obtain⟨rfl,rfl⟩:=M.ret_some e8;have hroom':0+ys.length<=1073741824:=by simpa[roomy]using hroom
   rcases append_run (ty:=ty) (base:=a) (n:=0) (cap:=0) (olds:=[]) ht (by simp) (.inl rfl) hy hroom' with⟨hc,hrun⟩|⟨hc,el,newcap,arr,h1,h2,h3,hrun⟩
   ·have h0:ys=[]:=List.eq_nil_of_length_eq_zero (by omega);subst h0;have hn0:news=[]:=List.eq_nil_of_length_eq_zero (by simpa using hys);subst hn0;have:=hrun g.w (by cases a<;>simp[storeCells]);have hn:=r.new (s:=slot) (ob:=.buf 0 e []) (p:=none) (w':=g.w) hf (Nat.le_refl _) rfl rfl rfl (fun _ _=>rfl) (fun b h=>by cases h) fun _=>.inl ⟨updφ_same _ _ _,rfl⟩
    refine⟨{ g with φ:=updφ g.φ slot none,h:=set g.h slot (.buf 0 e []) },_,this,rfl,hn.1,hn.2,.own rfl ?_⟩;unfold OwnAt;simp only[get_set_same,updφ_same];exact⟨Nat.le_refl _,fun _=>⟨⟨a,rfl⟩,rfl⟩⟩
   ·simp only[Nat.zero_add]at *;have hn:=r.new (s:=slot) (ob:=.buf 0 e ys) (p:=some g.w.heap.size) (w':=g.w.drew.alloc (.cells arr el)) hf (by simp) rfl rfl rfl (fun b hb=>alloc_old g.w.drew _ _ hb)
     (fun b h=>by cases h;exact Nat.le_refl _) fun _=>by
      have hRI:∀u x,RI ν g.I g.w u x->RI ν g.I (g.w.drew.alloc (.cells arr el)) u x:=fun u x h=>h.mono (fun _ h=>h) fun b off w hb hc=>by
       rw[cell_of_same (alloc_old g.w.drew _ _ (r.small b hb))];exact hc
      refine .inr ⟨g.w.heap.size,updφ_same _ _ _,fun hi'=>Nat.lt_irrefl _ (r.small _ hi'),⟨by simp,fun o=>World.frozen?_alloc_new g.w.drew _ _ _⟩,hye,fun i j c x hi hj=>?_⟩;obtain⟨u,hu,hR⟩:=hyr i j c x hi hj;exact⟨u,by simp only[];rw[show(g.w.drew.alloc (.cells arr el)).cell? ⟨g.w.heap.size,i*e+j,none⟩=arr[i*e+j]? from World.cell?_alloc_new g.w.drew _ _ _];exact h3 _ _ (by simpa using hu),hRI _ _ hR⟩
    refine⟨_,_,hrun,rfl,hn.1,hn.2,.own rfl ?_⟩;unfold OwnAt;simp only[get_set_same,updφ_same];refine⟨Nat.le_refl _,fun _=>⟨0,newcap,rfl,by omega,h1,.inl (by simp),fun _ c hc=>?_⟩⟩;rw[show(g.w.drew.alloc (.cells arr el)).cell? ⟨g.w.heap.size,c,none⟩=arr[c]? from World.cell?_alloc_new g.w.drew _ _ _,Array.getElem?_eq_getElem (by rw[h2];simpa using hc)];rfl
  |_=>exact(M.fail_some e2).elim
 |@own _ id o n ver ho1 ho=>
  obtain⟨ob,h2,e3,e4⟩:=M.bind_some e2;obtain⟨hg,rfl⟩:=M.look_some e3;unfold OwnAt at ho;rw[hg]at ho;cases ob with
  |cells _=>exact ho.elim
  |imm _ _ _=>exact(M.fail_some e4).elim
  |map _=>exact(M.fail_some e4).elim
  |buf v' e'' es=>
   obtain⟨_,h3,e5,e6⟩:=M.bind_some e4;obtain⟨hok,rfl⟩:=M.ok_some e5;simp only[Bool.and_eq_true,beq_iff_eq]at hok;obtain⟨⟨⟨rfl,rfl⟩,rfl⟩,hroom⟩:=hok;obtain⟨_,h4,e7,e8⟩:=M.bind_some e6;obtain rfl:=M.write_some e7;obtain⟨rfl,rfl⟩:=M.ret_some e8;have hroom':n+ys.length<=1073741824:=by simpa[roomy]using hroom
   have hs:=ho.2 rfl;have grow:∀{cap:Nat} {base:Option Addr} {olds:List Value} {el newcap:Nat} {arr:Array Value},v = .slice base n cap->olds.length=n*e''->(∀c ∈ es.take n,c.length=e'')->n<=es.length->
     (∀(i j:Nat) (c:List IV) (x:IV),(es.take n)[i]?=some c->c[j]?=some x->∃u,olds[i*e''+j]?=some u/\RI ν g.I g.w u x)->
     n+ys.length<=newcap->arr.size=newcap*e''->(∀(p:Nat) (x:Value),(olds++news)[p]?=some x->arr[p]?=some x)->
     (Builtin.append_ #[t,u] ty #[v,yv]).run P g.w = .ok (.slice (some ⟨g.w.heap.size,0,none⟩) (n+ys.length) newcap) (g.w.drew.alloc (.cells arr el))->
     Done ν k g (set g.h id (.buf (v'+1) e'' (es.take n++ys))) (.own id 0 (n+ys.length) (v'+1)) ((Builtin.append_ #[t,u] ty #[v,yv]).run P g.w):=by
    intro cap base olds el newcap arr _ hol htl hn hold h1 h2 h3 hrun;have hnI:∀b,g.φ id=some b->¬g.I b:=by
     intro b hφ;rcases r.ob id _ hg with⟨h1,_⟩|⟨b',h1,h2,_⟩
     ·rw[hφ]at h1;cases h1
     ·rw[hφ]at h1;cases h1;exact h2
    have hRI:∀u x,RI ν g.I g.w u x->RI ν g.I (g.w.drew.alloc (.cells arr el)) u x:=fun u x h=>h.mono (fun _ h=>h) fun b off w hb hc=>by
     rw[cell_of_same (alloc_old g.w.drew _ _ (r.small b hb))];exact hc
    have ht:=r.turn (s:=id) (ob:=.buf (v'+1) e'' (es.take n++ys)) (p:=some g.w.heap.size) (w':=g.w.drew.alloc (.cells arr el)) (I':=g.I) hg hnI (by simp) rfl rfl rfl
     (fun b hb _=>alloc_old g.w.drew _ _ hb) (fun _ h=>h) (fun _ h=>.inl h) (.inr ⟨_,rfl,Nat.le_refl _⟩)
     (fun w o n ver h=>by
      unfold OwnAt at h ⊢;rw[hg]at h;simp only[get_set_same,updφ_same];have:=h.1;exact⟨by omega,fun he=>by omega⟩)
     (fun w ver i j h=>by
      unfold RefAt at h ⊢;rw[hg]at h;simp only[get_set_same,updφ_same];have:=h.1;exact⟨by omega,fun he=>by omega⟩)
     (fun _ _=>by
      refine .inr ⟨g.w.heap.size,updφ_same _ _ _,fun hi'=>Nat.lt_irrefl _ (r.small _ hi'),⟨by simp,fun o=>World.frozen?_alloc_new g.w.drew _ _ _⟩,fun c hc=>?_,fun i j c x hi hj=>?_⟩
      ·rcases List.mem_append.1 hc with h | h
       ·exact htl c h
       ·exact hye c h
      ·rw[List.getElem?_append]at hi;simp only[List.length_take,Nat.min_eq_left hn]at hi;have key:∃u,(olds++news)[i*e''+j]?=some u/\RI ν g.I g.w u x:=by
        split at hi
        ·obtain⟨u,hu,hR⟩:=hold i j c x hi hj;exact⟨u,by rw[List.getElem?_append_left (lt_of_some hu)];exact hu,hR⟩
        ·rename_i hin;obtain⟨u,hu,hR⟩:=hyr (i - n) j c x hi hj;refine⟨u,?_,hR⟩;have:n*e''+(i - n)*e''=i*e'':=by rw[<-Nat.add_mul];congr 1;omega
         rw[List.getElem?_append_right (by omega),show i*e''+j - olds.length=(i - n)*e''+j by omega];exact hu
       obtain⟨u,hu,hR⟩:=key;exact⟨u,by simp only[];rw[show(g.w.drew.alloc (.cells arr el)).cell? ⟨g.w.heap.size,i*e''+j,none⟩=arr[i*e''+j]? from World.cell?_alloc_new g.w.drew _ _ _];exact h3 _ _ hu,hRI _ _ hR⟩)
    refine⟨_,_,hrun,rfl,ht.1,ht.2,.own rfl ?_⟩;unfold OwnAt;simp only[get_set_same,updφ_same];refine⟨Nat.le_refl _,fun _=>⟨0,newcap,rfl,by simp;omega,h1,.inl (by simp),fun _ c hc=>?_⟩⟩;rw[show(g.w.drew.alloc (.cells arr el)).cell? ⟨g.w.heap.size,c,none⟩=arr[c]? from World.cell?_alloc_new g.w.drew _ _ _,Array.getElem?_eq_getElem (by rw[h2];simpa using hc)];rfl
   cases hφ:g.φ id with
   |none=>
    rw[hφ]at hs;obtain⟨⟨a,rfl⟩,rfl⟩:=hs;rcases append_run (ty:=ty) (base:=a) (n:=0) (cap:=0) (olds:=[]) ht (by simp) (.inl rfl) hy hroom' with⟨hc,hrun⟩|⟨hc,el,newcap,arr,h1,h2,h3,hrun⟩
    ·have h0:ys=[]:=List.eq_nil_of_length_eq_zero (by omega);subst h0;have hn0:news=[]:=List.eq_nil_of_length_eq_zero (by simpa using hys);subst hn0;have hrun':=hrun g.w (by cases a<;>simp[storeCells]);have ht':=r.turn (s:=id) (ob:=.buf (v'+1) e'' []) (p:=g.φ id) (w':=g.w) (I':=g.I) hg (fun b h=>by rw[hφ]at h;cases h) (Nat.le_refl _) rfl rfl rfl
      (fun _ _ _=>rfl) (fun _ h=>h) (fun _ h=>.inl h) (.inl rfl)
      (fun w o n ver h=>by
       unfold OwnAt at h ⊢;rw[hg]at h;simp only[get_set_same,updφ_same];have:=h.1;exact⟨by omega,fun he=>by omega⟩)
      (fun w ver i j h=>by
       unfold RefAt at h ⊢;rw[hg]at h;simp only[get_set_same,updφ_same];have:=h.1;exact⟨by omega,fun he=>by omega⟩)
      (fun _ _=>.inl ⟨(updφ_same _ _ _).trans hφ,rfl⟩)
     simp only[List.take_zero,List.append_nil]at *;refine⟨⟨g.I,updφ g.φ id (g.φ id),g.w,set g.h id (.buf (v'+1) e'' [])⟩,_,hrun',rfl,ht'.1,ht'.2,.own rfl ?_⟩;unfold OwnAt;simp only[get_set_same,updφ_same,hφ];exact⟨Nat.le_refl _,fun _=>⟨⟨a,rfl⟩,rfl⟩⟩
    ·exact grow rfl (olds:=[]) (by simp) (fun c h=>by simp at h) (Nat.zero_le _) (fun i j c x h=>by simp at h) h1 h2 h3 hrun
   |some b=>
    rw[hφ]at hs;obtain⟨x,cap,rfl,q2,q3,q4,q5⟩:=hs;have hx:x=0:=by
     rcases q4 with h | h
     ·simpa using h
     ·exact absurd rfl h.2
    subst hx;have q5:=q5 (by simp);rcases r.ob id _ hg with⟨h1,_⟩|⟨b',h1,hnI,hsoft,hrow⟩
    ·rw[hφ]at h1;cases h1
    rw[hφ]at h1;cases h1;have hlies:=lies_row (ν:=ν) (g:=g) (b:=b) (off:=0) (a0:=0) (e:=e'') (m:=n) (cap:=cap) (ys:=es.take n) (by simp;omega) (fun c hc=>hrow.1 c (List.mem_of_mem_take hc)) (fun i j c x h1 h2=>by
     rw[List.getElem?_take]at h1;split at h1
     ·obtain⟨w,hw,hR⟩:=hrow.2 i j c x h1 h2;exact⟨w,by rw[Nat.zero_add];exact hw,hR⟩
     ·cases h1) rfl
    obtain⟨olds,⟨a,c,ha,hac⟩,hol,htl,hone,hold⟩:=hlies;simp only[Value.slice.injEq]at ha;obtain⟨rfl, -,rfl⟩:=ha;have htn:(es.take n).length=n:=by simp;omega
    rw[htn]at hol;have hcell:n=0\/∃b',some (⟨b,0,none⟩:Addr)=some ⟨b',0,none⟩/\∀(p:Nat) (x:Value),olds[p]?=some x->g.w.cell? ⟨b',p,none⟩=some x:=by
     rcases hac with h | ⟨b'',off,hb,hh⟩
     ·exact .inl (by omega)
     ·cases hb;exact .inr ⟨b,rfl,fun p x hp=>by have:=hh p x hp;rwa [Nat.zero_add]at this⟩
    rcases append_run (ty:=ty) (base:=some ⟨b,0,none⟩) (n:=n) (cap:=cap) (olds:=olds) ht hol hcell hy hroom' with⟨hc,hrun⟩|⟨hc,el,newcap,arr,h1,h2,h3,hrun⟩
    ·
     have hex:∀j,j<news.length->(g.w.cell? ⟨b,n*e''+j,none⟩).isSome=true:=fun j hj=>q5 _ (by
      have:n*e''+ys.length*e''<=cap*e'':=by rw[<-Nat.add_mul];exact Nat.mul_le_mul_right _ hc
      rw[Nat.zero_add];omega)
     have hst:=run_storeCells_cells (P:=P) b (n*e'') news 0 g.w (by simpa using hex) (fun _ _=>hsoft.2 _) hy.2.2.2.1;have hrun':=hrun (g.w.setCells b (n*e'') news) (by simpa[Addr.add_lit]using hst);have hput:=r.put (id:=id) (v:=v') (e:=e'') (b:=b) (off:=n*e'') (v':=v'+1) (es:=es) (es':=es.take n++ys) (vs:=news) hg hφ hex (.inr rfl) (fun hRI=>by
      refine⟨fun c hc=>?_,fun i j c x hi hj=>?_⟩
      ·rcases List.mem_append.1 hc with h | h
       ·exact hrow.1 c (List.mem_of_mem_take h)
       ·exact hye c h
      ·rw[setCells_cell _ _ _ _ hex];rw[List.getElem?_append]at hi;simp only[htn]at hi;split at hi
       ·rename_i hin;rw[List.getElem?_take,if_pos hin]at hi;have hj':j<e'':=by have:=lt_of_some hj;rwa [hrow.1 c (List.mem_of_getElem? hi)]at this
        have:i*e''+e''<=n*e'':=by rw[<-Nat.succ_mul];exact Nat.mul_le_mul_right _ hin
        rw[if_neg (by omega)];obtain⟨w,hw,hR⟩:=hrow.2 i j c x hi hj;exact⟨w,hw,hRI _ _ hR⟩
       ·rename_i hin;obtain⟨w,hw,hR⟩:=hyr (i - n) j c x hi hj;have hlt:=lt_of_some hw;have:n*e''+(i - n)*e''=i*e'':=by rw[<-Nat.add_mul];congr 1;omega
        rw[if_pos (by omega),show i*e''+j - n*e''=(i - n)*e''+j by omega];exact⟨w,hw,hRI _ _ hR⟩)
     refine⟨_,_,hrun',rfl,hput.1,hput.2,.own rfl ?_⟩;unfold OwnAt;simp only[get_set_same,hφ];refine⟨Nat.le_refl _,fun _=>⟨0,cap,rfl,by simp;omega,hc,.inl (by simp),fun _ c hc=>setCells_some _ _ _ _ hex _ (q5 c hc)⟩⟩
    ·exact grow rfl hol (fun c hc=>hrow.1 c (List.mem_of_mem_take hc)) (by omega) hold h1 h2 h3 hrun
def clrB (P:Program) (t:TypeId) (e:Nat) (z:List IV):Bool:=
 match P.underlying t with
 |some (.slice el)=>sizeB P el e&&zeroB P el z
 |_=>false
theorem clr_ok (r:Rel ν k g) {t ty:TypeId} {e:Nat} {z:List IV} (ht:clrB P t e z=true) {v:Value} {x y:AV} (hv:RA ν g v x) {h':Hp} (e':(clr e z x).run g.h=some (y,h')) :
  Done ν k g h' y ((Builtin.clear_ #[t] ty #[v]).run P g.w):=by
 unfold clrB at ht;split at ht
 case h_2=>cases ht
 rename_i el hu;simp only[Bool.and_eq_true]at ht;obtain⟨hsz,hz⟩:=ht;obtain⟨i,hi,rfl⟩:=sizeB_spec hsz;obtain⟨i',zv,hi',hzv,hcv⟩:=zeroB_spec hz;rw[hi]at hi';cases hi';cases hv with
 |undef=>exact(M.fail_some e').elim
 |agg=>exact(M.fail_some e').elim
 |tup=>exact(M.fail_some e').elim
 |ref=>exact(M.fail_some e').elim
 |clo=>exact(M.fail_some e').elim
 |iv=>exact(M.fail_some e').elim
 |@own _ id o n ver ho1 ho=>
  obtain⟨ob,h2,e3,e4⟩:=M.bind_some e';obtain⟨hg,rfl⟩:=M.look_some e3;unfold OwnAt at ho;rw[hg]at ho;cases ob with
  |cells _=>exact ho.elim
  |imm _ _ _=>exact(M.fail_some e4).elim
  |map _=>exact(M.fail_some e4).elim
  |buf v' e'' es=>
   obtain⟨_,h3,e5,e6⟩:=M.bind_some e4;obtain⟨hok,rfl⟩:=M.ok_some e5;simp only[Bool.and_eq_true,beq_iff_eq]at hok;obtain⟨⟨rfl,rfl⟩,hzl⟩:=hok;obtain⟨_,h4,e7,e8⟩:=M.bind_some e6;obtain rfl:=M.write_some e7;obtain⟨rfl,rfl⟩:=M.ret_some e8;have hs:=ho.2 rfl;have hzs:zv.cells.size=i.size:=by have:=(cVals_ok hcv).1;simp at this;omega
   have hu0:RA ν g (.tuple #[]) (.tup []):=.tup rfl fun j v c h=>by simp at h
   cases hφ:g.φ id with
   |none=>
    rw[hφ]at hs;obtain⟨⟨a,rfl⟩,rfl⟩:=hs;have hes:es=[]:=by
     rcases r.ob id _ hg with⟨_,h2⟩|⟨b',h1,_⟩
     ·exact h2
     ·rw[hφ]at h1;cases h1
    subst hes;have hset:set g.h id (.buf v' i.size ([].take o++List.replicate 0 z++[].drop (o+0)))=set g.h id (.buf v' i.size []):=by simp
    rw[hset];have hrun:(Builtin.clear_ #[t] ty #[.slice a 0 0]).run P g.w = .ok (.tuple #[]) g.w:=by
     cases a<;>simp[Builtin.clear_,run_underlying hu]
    have ht':=r.turn (s:=id) (ob:=.buf v' i.size []) (p:=g.φ id) (w':=g.w) (I':=g.I) hg (fun b h=>by rw[hφ]at h;cases h) (Nat.le_refl _) rfl rfl rfl
     (fun _ _ _=>rfl) (fun _ h=>h) (fun _ h=>.inl h) (.inl rfl)
     (fun w o n ver h=>by
      unfold OwnAt at h ⊢;rw[hg]at h;simp only[get_set_same,updφ_same];exact h)
     (fun w ver i j h=>by
      unfold RefAt at h ⊢;rw[hg]at h;simp only[get_set_same,updφ_same];exact h)
     (fun _ _=>.inl ⟨(updφ_same _ _ _).trans hφ,rfl⟩)
    exact⟨⟨g.I,updφ g.φ id (g.φ id),g.w,set g.h id (.buf v' i.size [])⟩,_,hrun,rfl,ht'.1,ht'.2,ht'.2 _ _ hu0⟩
   |some b=>
    rw[hφ]at hs;obtain⟨x,cap,rfl,q2,q3,q4,q5⟩:=hs;rcases r.ob id _ hg with⟨h1,_⟩|⟨b',h1,hnI,hsoft,hrow⟩
    ·rw[hφ]at h1;cases h1
    rw[hφ]at h1;cases h1;generalize hvs:(Builtin.zeroCells zv.cells n).toList=vs;have hvl:vs.length=n*i.size:=by rw[<-hvs];simp[size_zeroCells,hzs]
    have hone:∀u ∈ vs,u.oneCell'=true:=by
     intro u hu';rw[<-hvs]at hu';simp only[Builtin.zeroCells,Array.toList_map,List.mem_map]at hu';obtain⟨p,hp,rfl⟩:=hu';simp only[Array.toList_range,List.mem_range]at hp;have hlt:p % zv.cells.size<zv.cells.size:=Nat.mod_lt _ (by
      rcases Nat.eq_zero_or_pos zv.cells.size with h0 | h0
      ·rw[h0]at hp;simp at hp
      ·exact h0)
     rw[getElem!_pos zv.cells _ hlt];obtain⟨hl,hall⟩:=cVals_ok hcv;obtain⟨w,hw,hc⟩:=hall (p % zv.cells.size) _ (List.getElem?_eq_getElem (by simp at hl;omega));have:w=zv.cells[p % zv.cells.size]:=by
      have h':zv.cells[p % zv.cells.size]?=some w:=by simpa using hw
      rw[Array.getElem?_eq_getElem hlt]at h';exact(Option.some.inj h').symm
     rw[<-this];exact(cVal_ok (ν:=ν) hc g.I g.w).one
    have hex:∀j,j<vs.length->(g.w.cell? ⟨b,o*i.size+j,none⟩).isSome=true:=by
     intro j hj;have hn0:n≠0:=fun h=>by rw[hvl,h]at hj;simp at hj
     have hx:x=o*i.size:=q4.resolve_right fun h=>hn0 h.1
     refine q5 hx _ ?_;have:n*i.size<=cap*i.size:=Nat.mul_le_mul_right _ q3;rw[Nat.add_mul];omega
    have hrun:(Builtin.clear_ #[t] ty #[.slice (some ⟨b,x,none⟩) n cap]).run P g.w = .ok (.tuple #[]) (g.w.setCells b (o*i.size) vs):=by
     by_cases hn0:n=0
     ·subst hn0;have:vs=[]:=List.eq_nil_of_length_eq_zero (by simpa using hvl);subst this;simp[Builtin.clear_,run_underlying hu,World.setCells]
     ·have hx:x=o*i.size:=q4.resolve_right fun h=>hn0 h.1
      subst hx;have hst:=run_storeCells_cells (P:=P) b (o*i.size) vs 0 g.w (by simpa using hex) (fun _ _=>hsoft.2 _) hone;simp only[Nat.add_zero]at hst;have hmk:∀m,n=m+1->(Builtin.clear_ #[t] ty #[.slice (some ⟨b,o*i.size,none⟩) n cap]).run P g.w = .ok (.tuple #[]) (g.w.setCells b (o*i.size) vs):=by
       intro m hm;subst hm;simp[Builtin.clear_,run_underlying hu,zeroValue,typeInfo,hi,hzv,hvs,hst]
      exact hmk (n - 1) (by omega)
    have hput:=r.put (id:=id) (v:=v') (e:=i.size) (b:=b) (off:=o*i.size) (v':=v') (es:=es) (es':=es.take o++List.replicate n z++es.drop (o+n)) (vs:=vs) hg hφ hex (.inl ⟨rfl,by simp;omega⟩) (fun hRI=>by
     have hto:(es.take o).length=o:=by simp;omega
     refine⟨fun c hc=>?_,fun a j c y ha hj=>?_⟩
     ·simp only[List.mem_append]at hc;rcases hc with(h | h) | h
      ·exact hrow.1 c (List.mem_of_mem_take h)
      ·rw[List.eq_of_mem_replicate h];exact hzl
      ·exact hrow.1 c (List.mem_of_mem_drop h)
     ·rw[setCells_cell _ _ _ _ hex,hvl];rw[List.getElem?_append,List.getElem?_append]at ha;simp only[List.length_append,List.length_replicate,hto]at ha;have mul1:∀{p q:Nat},p<q->p*i.size+i.size<=q*i.size:=fun h=>by rw[<-Nat.succ_mul];exact Nat.mul_le_mul_right _ h
      split at ha
      ·rename_i h1;split at ha
       ·rename_i h2;rw[List.getElem?_take,if_pos h2]at ha;have hj':j<i.size:=by have:=lt_of_some hj;rwa [hrow.1 c (List.mem_of_getElem? ha)]at this
        have:=mul1 h2;rw[if_neg (by omega)];obtain⟨w,hw,hR⟩:=hrow.2 a j c y ha hj;exact⟨w,hw,hRI _ _ hR⟩
       ·rename_i h2;rw[List.getElem?_replicate,if_pos (by omega)]at ha;cases ha;have hj':j<i.size:=by have:=lt_of_some hj;omega
        have e1:o*i.size+(a - o)*i.size=a*i.size:=by rw[<-Nat.add_mul];congr 1;omega
        have e2:(a - o)*i.size+i.size<=n*i.size:=mul1 (by omega);rw[if_pos (by omega),show a*i.size+j - o*i.size=(a - o)*i.size+j by omega];obtain⟨hl,hall⟩:=cVals_ok hcv;obtain⟨w,hw,hc⟩:=hall j y hj;refine⟨w,?_,cVal_ok hc _ _⟩;rw[<-hvs];have hp:(a - o)*i.size+j<n*i.size:=by omega
        have hmod:((a - o)*i.size+j) % i.size=j:=by rw[Nat.add_comm,Nat.add_mul_mod_self_right,Nat.mod_eq_of_lt hj']
        simp only[Builtin.zeroCells,Array.getElem?_toList,Array.getElem?_map,Array.getElem?_range,if_pos hp,Option.map_some,hzs,hmod];rw[getElem!_pos zv.cells j (by omega)];have h':zv.cells[j]?=some w:=by simpa using hw
        rw[Array.getElem?_eq_getElem (by omega)]at h';exact h'
      ·rename_i h1;rw[List.getElem?_drop,show o+n+(a - (o+n))=a by omega]at ha;have hj':j<i.size:=by have:=lt_of_some hj;rwa [hrow.1 c (List.mem_of_getElem? ha)]at this
       have:o*i.size+n*i.size<=a*i.size:=by rw[<-Nat.add_mul];exact Nat.mul_le_mul_right _ (by omega)
       rw[if_neg (by omega)];obtain⟨w,hw,hR⟩:=hrow.2 a j c y ha hj;exact⟨w,hw,hRI _ _ hR⟩)
    exact⟨_,_,hrun,rfl,hput.1,hput.2,hput.2 _ _ hu0⟩
end
def keyB (P:Program) (t:TypeId) (qs:List Nat):Bool:=
 match P.underlying t with
 |some (.array n e)=>qs.length==n&&qs.length != 1&&tyB P e 1 false&&qs.all fun q=>qtyB q (P.underlying e)
 |d=>(match qs with | [q]=>qtyB q d | _=>false)
section
variable {ν:Nat->Nat} {P:Program} {k:Cx} {g:Gh}
def FindR (es:List MapEntry) (i:Nat):Option (Nat×AV)->Option (Nat×Value)->Prop
 |none,r=>r=none
 |some p,r=>∃e,i<=p.1/\es[p.1 - i]?=some e/\r=some (p.1,e.val)
theorem FindR.up {es:List MapEntry} {e:MapEntry} {i:Nat} {a:Option (Nat×AV)} {r:Option (Nat×Value)} (h:FindR es (i+1) a r):FindR (e::es) i a r:=by
 cases a with
 |none=>exact h
 |some p=>
  obtain⟨e',h1,h2,h3⟩:=h;refine⟨e',by omega,?_,h3⟩;rw[show p.1 - i=(p.1 - (i+1))+1 by omega];simpa using h2
def KeysR (ν:Nat->Nat) (g:Gh) (es:List MapEntry) (kvs:List (AV×AV)):Prop:=es.length=kvs.length/\∀(j:Nat) (e:MapEntry) (p:AV×AV),es[j]?=some e->kvs[j]?=some p->RA ν g e.key p.1
theorem KeysR.cons {e:MapEntry} {es:List MapEntry} {p:AV×AV} {kvs:List (AV×AV)} (h:KeysR ν g (e::es) (p::kvs)):RA ν g e.key p.1/\KeysR ν g es kvs:=
 ⟨h.2 0 e p rfl rfl,by have:=h.1;simpa using this,fun j e p h1 h2=>h.2 (j+1) e p (by simpa using h1) (by simpa using h2)⟩
end
def mapB (P:Program) (t:TypeId) (qs:List Nat):Bool:=match P.underlying t with | some (.map kt _)=>keyB P kt qs | _=>false
theorem mapB_spec {P:Program} {t:TypeId} {qs:List Nat} (h:mapB P t qs=true):∃kt et,P.underlying t=some (.map kt et)/\keyB P kt qs=true:=by
 unfold mapB at h;split at h
 ·exact⟨_,_,by assumption,h⟩
 ·cases h
section
variable {ν:Nat->Nat} {P:Program} {k:Cx} {g:Gh}
end
def cOpd (ν:Nat->Nat):Operand->Opd->Bool
 |.tmp t,.t n=>t==n
 |.const v,.c x=>cVal v x
 |.func f,.c (.fn h [])=>f==ν h
 |_,_=>false
def cOpds (ν:Nat->Nat):List Operand->List Opd->Bool
 |[],[]=>true
 |x::xs,y::ys=>cOpd ν x y&&cOpds ν xs ys
 |_,_=>false
def cOpt (ν:Nat->Nat):Option Operand->Option Opd->Bool
 |none,none=>true
 |some x,some y=>cOpd ν x y
 |_,_=>false
def cParts (ν:Nat->Nat):List (Nat×Operand)->List (Nat×Opd)->Bool
 |[],[]=>true
 |x::xs,y::ys=>x.1==y.1&&cOpd ν x.2 y.2&&cParts ν xs ys
 |_,_=>false
def placesOf (P:Program) (t:TypeId):Option (Nat->Option (Nat×Nat)):=
 match P.underlying t with
 |some (.array _ e)=>(P.info? e).map fun ie=>fun i=>some (i*ie.size,ie.size)
 |some (.struct fields)=>(fields.toList.mapM (fun f=>(P.info? f.type).map fun i=>(f.offset,i.size))).map fun places=>(places.toArray[·]?)
 |_=>none
def cPlaced (ν:Nat->Nat) (pl:Nat->Option (Nat×Nat)):List (Nat×Operand)->List (Nat×Nat×Opd)->Bool
 |[],[]=>true
 |x::xs,y::ys=>pl x.1==some (y.1,y.2.1)&&cOpd ν x.2 y.2.2&&cPlaced ν pl xs ys
 |_,_=>false
def isStr (P:Program) (t:TypeId):Bool:=match P.underlying t with | some .string=>true | _=>false
theorem isStr_spec {P:Program} {t:TypeId} (h:isStr P t=true):P.underlying t=some .string:=by
 unfold isStr at h;split at h<;>first | assumption | cases h
def cOp (P:Program) (ν:Nat->Nat) (op:Op) (io:IOp):Bool:=
 match io with
 |.mov y=>(match op with | .move x | .assign x=>cOpd ν x y | _=>false)
 |.nil0 _=>(match op with | .move (.const (.slice none 0 0)) | .assign (.const (.slice none 0 0))=>true | _=>false)
 |.pick c' a' b'=>(match op with | .pick c a b=>cOpd ν c c'&&cOpd ν a a'&&cOpd ν b b' | _=>false)
 |.alloc z=>(match op with | .alloc t=>zeroB P t z | _=>false)
 |.box y=>(match op with | .box _ x=>cOpd ν x y | _=>false)
 |.build z qs=>(match op with | .build t ps=>zeroB P t z&&(match placesOf P t with | some pl=>cPlaced ν pl ps.toList qs | none=>false) | _=>false)
 |.bsl e z n' qs=>(match op with | .buildSlice t n ps=>n==n'&&bslB P t n e z&&cParts ν ps.toList qs | _=>false)
 |.load agg sz a'=>(match op with | .load t a=>tyB P t sz agg&&cOpd ν a a' | _=>false)
 |.store sz a' x'=>(match op with | .store t a x=>sizeB P t sz&&cOpd ν a a'&&cOpd ν x x' | _=>false)
 |.fadr off x'=>(match op with | .fieldAddr s x f=>fadrB P s f off&&cOpd ν x x' | _=>false)
 |.fld _ _ _ _=>false
 |.iarr len e x' i'=>(match op with | .indexAddr t x i=>iarrB P t len e&&cOpd ν x x'&&cOpd ν i i' | _=>false)
 |.isl e x' i'=>(match op with | .indexAddr t x i=>sliceB P t e&&cOpd ν x x'&&cOpd ν i i' | _=>false)
 |.xarr agg len e x' i'=>(match op with | .index t x i=>xarrB P t agg len e&&cOpd ν x x'&&cOpd ν i i' | _=>false)
 |.xstr x' i'=>(match op with | .index t x i=>isStr P t&&cOpd ν x x'&&cOpd ν i i' | _=>false)
 |.bin bo q x' y'=>(match op with | .binOp b t x y _=>b==bo&&qOf P b t q&&cOpd ν x x'&&cOpd ν y y' | _=>false)
 |.eqc neg qs x' y'=>(match op with | .binOp b t x y _=>b==(if neg then .neq else .eql)&&eqcB P t qs&&cOpd ν x x'&&cOpd ν y y' | _=>false)
 |.un uo x'=>(match op with | .unOp u _ x=>u==uo&&cOpd ν x x' | _=>false)
 |.cvi kk x'=>(match op with | .convert s d x=>cviB P s d kk&&cOpd ν x x' | _=>false)
 |.cvs _=>false
 |.slc e x' lo' hi'=>(match op with | .slice t x lo hi none=>sliceB P t e&&cOpd ν x x'&&cOpt ν lo lo'&&cOpt ν hi hi' | _=>false)
 |.slcs _ _ _=>false
 |.slz _ _=>false
 |.clr e z x'=>(match op with | .call { callee:=.builtin .clear,args,argTypes }=>(match args.toList,argTypes.toList with | [x],[t]=>clrB P t e z&&cOpd ν x x' | _,_=>false) | _=>false)
 |.len str x'=>(match op with | .call { callee:=.builtin .len,args,argTypes }=>(match args.toList,argTypes.toList with | [x],[t]=>lenB P t str&&cOpd ν x x' | _,_=>false) | _=>false)
 |.app e x' y'=>(match op with | .call { callee:=.builtin .append,args,argTypes }=>(match args.toList,argTypes.toList with | [x,y],[t,u]=>appB P t u e&&cOpd ν x x'&&cOpd ν y y' | _,_=>false) | _=>false)
 |.mn x' ys=>(match op with | .call { callee:=.builtin .min,args,.. }=>cOpds ν args.toList (x'::ys) | _=>false)
 |.mx x' ys=>(match op with | .call { callee:=.builtin .max,args,.. }=>cOpds ν args.toList (x'::ys) | _=>false)
 |.ext x' i'=>(match op with | .extract x i=>i==i'&&cOpd ν x x' | _=>false)
 |.nchk x'=>(match op with | .nilCheck x=>cOpd ν x x' | _=>false)
 |.mkf f' caps'=>(match op with | .makeFunc (.func f) first caps=>f==ν f'&&first.isEmpty&&cOpds ν caps.toList caps' | _=>false)
 |.call _ f' args'=>(match op with | .call { callee:=.value f,args,.. }=>cOpd ν f f'&&cOpds ν args.toList args' | _=>false)
 |.cvb _=>false
 |.mmk=>false
 |.mget _ _ _ _ _ _=>false
 |.mput _ _ _ _=>false
 |.mdel _ _ _=>false
 |.mlen _=>false
def FrR (ν:Nat->Nat) (g:Gh) (tmps:Array Value) (fr:Fr):Prop:=∀(t:Nat) (x:AV),get fr t=some x->∃v,tmps[t]?=some v/\RA ν g v x
theorem FrR.mono {ν:Nat->Nat} {g g':Gh} {tmps:Array Value} {fr:Fr} (h:FrR ν g tmps fr) (hm:Mono ν g g'):FrR ν g' tmps fr:=
 fun t x ht=>let⟨v,h1,h2⟩:=h t x ht;⟨v,h1,hm _ _ h2⟩
section
variable {ν:Nat->Nat} {P:Program} {k:Cx} {g:Gh}
theorem eval_ok {a:Act} {fr:Fr} (hf:FrR ν g a.tmps fr) {x:Operand} {y:Opd} (h:cOpd ν x y=true):RA ν g (a.eval x) (ev fr y):=by
 unfold cOpd at h;split at h
 ·rename_i t n;have:=beq_iff_eq.1 h;subst this;simp only[ev];cases hg:get fr t with
  |none=>exact .undef _
  |some z=>
   obtain⟨v,hv,hR⟩:=hf t z hg;have:a.eval (.tmp t)=v:=by simp[Act.eval,Array.getD,(Array.getElem?_eq_some_iff.1 hv).1,(Array.getElem?_eq_some_iff.1 hv).2]
   rw[this];exact hR
 ·rename_i v x;exact .iv (cVal_ok h _ _)
 ·rename_i f h';have:=beq_iff_eq.1 h;subst this;exact .iv (.fn h' #[] [] rfl fun j v x h=>by simp at h)
 ·cases h
theorem evals_ok {a:Act} {fr:Fr} (hf:FrR ν g a.tmps fr):∀{xs:List Operand} {ys:List Opd},cOpds ν xs ys=true->
  (xs.map a.eval).length=(ys.map (ev fr)).length/\∀(j:Nat) (v:Value) (x:AV),(xs.map a.eval)[j]?=some v->(ys.map (ev fr))[j]?=some x->RA ν g v x
 |[],[],_=>⟨rfl,fun j v x h=>by simp at h⟩
 |x::xs,y::ys,h=>by
  simp only[cOpds,Bool.and_eq_true]at h;obtain⟨h1,h2⟩:=evals_ok hf h.2;refine⟨by simpa using h1,fun j v z hv hz=>?_⟩;cases j with
  |zero=>simp at hv hz;subst hv hz;exact eval_ok hf h.1
  |succ j=>exact h2 j v z (by simpa using hv) (by simpa using hz)
 |[],_::_,h=>by simp[cOpds]at h
 |_::_,[],h=>by simp[cOpds]at h
theorem evalo_ok {a:Act} {fr:Fr} (hf:FrR ν g a.tmps fr) {x:Option Operand} {y:Option Opd} (h:cOpt ν x y=true):RO ν g (x.map a.eval) (y.map (ev fr)):=by
 cases x<;>cases y<;>simp[cOpt]at h
 ·trivial
 ·exact eval_ok hf h
theorem fill_placed {a:Act} {fr:Fr} (hf:FrR ν g a.tmps fr) {pl:Nat->Option (Nat×Nat)}:∀(ps:List (Nat×Operand)) (qs:List (Nat×Nat×Opd)) (cells:Array Value) (cs:List AV) (n:Nat) (l:List (Nat×List AV)) (h h':Hp),
  cPlaced ν pl ps qs=true->RC ν g cells cs->cs.length=n->
  (M.mapL (fun p:Nat×Nat×Opd=>(cellsM (ev fr p.2.2)).bind fun l=>(M.ok (l.length==p.2.1&&Nat.ble (p.1+p.2.1) n)).bind fun _=>M.ret (p.1,l)) qs).run h=some (l,h')->
  h'=h/\∃cells',Instr.fill pl cells (ps.map fun p=>(p.1,a.eval p.2))=some cells'/\RC ν g cells' (putAll cs l):=by
 intro ps
 induction ps with
 |nil=>
  intro qs cells cs n l h h' hc hr _ e;cases qs with
  |cons=>simp[cPlaced]at hc
  |nil=>
   obtain⟨rfl,rfl⟩:=M.mapL_nil e;exact⟨rfl,cells,rfl,hr⟩
 |cons p ps ih=>
  intro qs cells cs n l h h' hc hr hn e;cases qs with
  |nil=>simp[cPlaced]at hc
  |cons q qs=>
   simp only[cPlaced,Bool.and_eq_true,beq_iff_eq]at hc;obtain⟨⟨hpl,hq⟩,hrest⟩:=hc;obtain⟨y,h1,zs,e1,e2,rfl⟩:=M.mapL_cons e;obtain⟨xs,h2,e3,e4⟩:=M.bind_some e1;obtain⟨rfl,hs,hcc⟩:=cells_run e3 (eval_ok hf hq);obtain⟨_,h3,e5,e6⟩:=M.bind_some e4;obtain⟨hok,rfl⟩:=M.ok_some e5;obtain⟨rfl,rfl⟩:=M.ret_some e6;simp only[Bool.and_eq_true,beq_iff_eq,Nat.ble_eq]at hok;have hfit:q.1+xs.length<=cs.length:=by omega
   have hsp:=hr.splice (us:=(a.eval p.2).cells) (l:=xs) (o:=q.1) ⟨hs,hcc⟩ hfit;obtain⟨rfl,c',hfill,hR⟩:=ih qs _ _ n zs h1 h' hrest hsp (by rw[splice_length _ _ _ hfit];exact hn) e2;refine⟨rfl,c',?_,hR⟩;rw[<-hfill];simp only[List.map_cons,Instr.fill,hpl];have hfit':¬(((a.eval p.2).cells.size≠q.2.1||q.1+(a.eval p.2).cells.size > cells.size)=true):=by
    have:=hr.1;simp;omega
   rw[if_neg hfit',<-Array.foldl_toList,Array.toList_zipIdx]
theorem built_ok {t:TypeId} {pl:Nat->Option (Nat×Nat)} (hp:placesOf P t=some pl) {parts:List (Nat×Value)} {zs:Array Value} {i:TypeInfo} {v:Value}
  (hi:P.info? t=some i) (hv:i.zero=some v) (hzs:zs=v.cells):P.built t parts=Instr.fill pl zs parts:=by
 subst hzs;unfold placesOf at hp;unfold Program.built;split at hp
 ·rename_i n e hu;simp only[Option.map_eq_some_iff]at hp;obtain⟨ie,hie,rfl⟩:=hp;simp[hi,hu,hv,hie]
 ·rename_i fields hu;simp only[Option.map_eq_some_iff]at hp;obtain⟨places,hpl,rfl⟩:=hp;simp[hi,hu,hv,hpl]
 ·cases hp
theorem build_ok (r:Rel ν k g) {a:Act} {fr:Fr} (hf:FrR ν g a.tmps fr) {t:TypeId} {z:List IV} {ps:Array (Nat×Operand)} {qs:List (Nat×Nat×Opd)} {pl:Nat->Option (Nat×Nat)}
  (hz:zeroB P t z=true) (hp:placesOf P t=some pl) (hc:cPlaced ν pl ps.toList qs=true) {y:AV} {h':Hp}
  (e:((M.mapL (fun p:Nat×Nat×Opd=>(cellsM (ev fr p.2.2)).bind fun l=>(M.ok (l.length==p.2.1&&Nat.ble (p.1+p.2.1) z.length)).bind fun _=>M.ret (p.1,l)) qs).bind fun l=>M.ret (.agg (putAll (z.map .iv) l))).run g.h=some (y,h')) :
  Done ν k g h' y ((Instr.build t (ps.map fun(i,x)=>(i,a.eval x))).run P g.w):=by
 obtain⟨l,h1,e1,e2⟩:=M.bind_some e;obtain⟨rfl,rfl⟩:=M.ret_some e2;obtain⟨i,v,hi,hzv,hcv⟩:=zeroB_spec hz;have hrc:=cVals_RC (ν:=ν) (g:=g) hcv;obtain⟨rfl,cells',hfill,hR⟩:=fill_placed hf ps.toList qs v.cells (z.map .iv) z.length l _ _ hc hrc (by simp) e1;refine .same r (run_build g.w t _ cells' ?_) hR.agg;rw[built_ok hp hi hzv rfl];simpa using hfill
end
def RC0 (ν:Nat->Nat) (I:Nat->Prop) (w:World) (v:Value) (x:AV):Prop:=RA ν ⟨I,fun _=>none,w,[]⟩ v x
theorem RC0.up {ν:Nat->Nat} {I:Nat->Prop} {w:World} {v:Value} {x:AV} (h:RC0 ν I w v x) {g:Gh} (hR:∀v x,RI ν I w v x->RI ν g.I g.w v x):RA ν g v x:=
 RA.mono (g:=⟨I,fun _=>none,w,[]⟩) hR (fun v id o n ver ho=>by simp[OwnAt,get]at ho) (fun v id ver i j hr=>by simp[RefAt,get]at hr) h
theorem RC0.mono {ν:Nat->Nat} {I J:Nat->Prop} {w w':World} {v:Value} {x:AV} (h:RC0 ν I w v x) (hR:∀v x,RI ν I w v x->RI ν J w' v x):RC0 ν J w' v x:=h.up hR
theorem fzC_list {w:Bool}:∀(cs:List AV) (h h':Hp) (l:List AV),(M.mapL (fzC w) cs).run h=some (l,h')->∃xs,(M.mapL (fz w 8) cs).run h=some (xs,h')/\l=xs.map .iv:=by
 intro cs
 induction cs with
 |nil=>
  intro h h' l e;obtain⟨rfl,rfl⟩:=M.mapL_nil e;exact⟨[],rfl,rfl⟩
 |cons c cs ih=>
  intro h h' l e;obtain⟨y,h1,zs,e1,e2,rfl⟩:=M.mapL_cons e;obtain⟨x,h2,e3,e4⟩:=M.bind_some e1;obtain⟨rfl,rfl⟩:=M.ret_some e4;obtain⟨xs,e5,rfl⟩:=ih _ _ _ e2;refine⟨x::xs,?_,rfl⟩;simp only[M.mapL,M.run_bind,e3,e5,M.run]
theorem agg_plain {ν:Nat->Nat} {I:Nat->Prop} {w:World} {vs:Array Value} {xs:List IV} (hn:vs.size=xs.length) (hr:∀(j:Nat) (v:Value) (x:IV),vs[j]?=some v->xs[j]?=some x->RI ν I w v x) :
  RC0 ν I w (.agg vs) (.agg (xs.map .iv)):=by
 refine .agg (by simpa using hn) (fun j v hv=>?_) fun j v c hv hc=>?_
 ·have hj:=(Array.getElem?_eq_some_iff.1 hv).1;exact(hr j v _ hv (List.getElem?_eq_getElem (by omega))).one
 ·simp only[List.getElem?_map,Option.map_eq_some_iff]at hc;obtain⟨x,hx,rfl⟩:=hc;exact .iv (hr j v x hv hx)
section
variable {ν:Nat->Nat} {P:Program} {k:Cx} {g:Gh}
theorem fz1T (r:Rel ν k g) {a y:AV} {h':Hp} (e:(fz1 true a).run g.h=some (y,h')) {v:Value} (hv:RA ν g v a):∃I',Froze ν k g h' I'/\RC0 ν I' g.w v y:=by
 have plain:∀{a:AV},(fzC true a).run g.h=some (y,h')->RA ν g v a->∃I',Froze ν k g h' I'/\RC0 ν I' g.w v y:=by
  intro a e hv;obtain⟨x,h1,e1,e2⟩:=M.bind_some e;obtain⟨rfl,rfl⟩:=M.ret_some e2;obtain⟨I',f,hR⟩:=fzT_spec ν 8 k g a x _ e1 r v hv;exact⟨I',f,.iv hR⟩
 cases a with
 |agg cs=>
  obtain⟨l,h1,e1,e2⟩:=M.bind_some e;obtain⟨rfl,rfl⟩:=M.ret_some e2;obtain⟨xs,e3,rfl⟩:=fzC_list cs _ _ _ e1;obtain⟨vs,rfl⟩:=hv.aggv;obtain⟨V,hV⟩:=pick fun j c hc=>hv.agg_get j c hc
  obtain⟨I',f,hl,hx⟩:=(fzT_spec ν 8).list cs k g xs _ e3 r V fun j c hc=>(hV j c hc).2
  refine⟨I',f,agg_plain ?_ fun j v x h1 h2=>?_⟩
  ·cases hv with
   |agg hn _ _=>omega
  ·have hlt:=lt_of_some h2;have:=(hV j _ (List.getElem?_eq_getElem (show j<cs.length by omega))).1;rw[h1]at this;cases this;exact hx j x h2
 |undef=>exact plain e hv
 |iv x=>exact plain e hv
 |tup vs=>exact plain e hv
 |own id o n v=>exact plain e hv
 |ref id v i j=>exact plain e hv
 |clo f caps=>exact plain e hv
theorem fz1F (r:Rel ν k g) {a y:AV} {h':Hp} (e:(fz1 false a).run g.h=some (y,h')) {v:Value} (hv:RA ν g v a) :
  h'=g.h/\∀J:Nat->Prop,(∀b,g.I b->J b)->(∀id o b,get g.h id=some o->g.φ id=some b->J b)->RC0 ν J g.w v y:=by
 have plain:∀{a:AV},(fzC false a).run g.h=some (y,h')->RA ν g v a->h'=g.h/\∀J:Nat->Prop,(∀b,g.I b->J b)->(∀id o b,get g.h id=some o->g.φ id=some b->J b)->RC0 ν J g.w v y:=by
  intro a e hv;obtain⟨x,h1,e1,e2⟩:=M.bind_some e;obtain⟨rfl,rfl⟩:=M.ret_some e2;obtain⟨rfl,hR⟩:=fzF_spec ν 8 k g a x _ e1 r v hv;exact⟨rfl,fun J h1 h2=>.iv (hR J h1 h2)⟩
 cases a with
 |agg cs=>
  obtain⟨l,h1,e1,e2⟩:=M.bind_some e;obtain⟨rfl,rfl⟩:=M.ret_some e2;obtain⟨xs,e3,rfl⟩:=fzC_list cs _ _ _ e1;obtain⟨vs,rfl⟩:=hv.aggv;obtain⟨V,hV⟩:=pick fun j c hc=>hv.agg_get j c hc
  obtain⟨rfl,hl,hx⟩:=(fzF_spec ν 8).list k g r cs xs _ e3 V fun j c hc=>(hV j c hc).2
  refine⟨rfl,fun J h1 h2=>agg_plain ?_ fun j v x h3 h4=>?_⟩
  ·cases hv with
   |agg hn _ _=>omega
  ·have hlt:=lt_of_some h4;have:=(hV j _ (List.getElem?_eq_getElem (show j<cs.length by omega))).1;rw[h3]at this;cases this;exact hx J h1 h2 j x h4
 |undef=>exact plain e hv
 |iv x=>exact plain e hv
 |tup vs=>exact plain e hv
 |own id o n v=>exact plain e hv
 |ref id v i j=>exact plain e hv
 |clo f caps=>exact plain e hv
def RL (ν:Nat->Nat) (g:Gh) (vs:List Value) (xs:List AV):Prop:=vs.length=xs.length/\∀(j:Nat) (v:Value) (x:AV),vs[j]?=some v->xs[j]?=some x->RA ν g v x
theorem RL.nil:RL ν g [] []:=⟨rfl,fun j v x h=>by simp at h⟩
theorem RL.cons {v:Value} {x:AV} {vs:List Value} {xs:List AV} (h:RA ν g v x) (hl:RL ν g vs xs):RL ν g (v::vs) (x::xs):=
 ⟨by simp[hl.1],fun j v' x' h1 h2=>by
  cases j with
  |zero=>simp at h1 h2;subst h1 h2;exact h
  |succ j=>exact hl.2 j v' x' (by simpa using h1) (by simpa using h2)⟩
theorem RL.tail {v:Value} {x:AV} {vs:List Value} {xs:List AV} (h:RL ν g (v::vs) (x::xs)):RA ν g v x/\RL ν g vs xs:=
 ⟨h.2 0 v x rfl rfl,by have:=h.1;simpa using this,fun j v' x' h1 h2=>h.2 (j+1) v' x' (by simpa using h1) (by simpa using h2)⟩
theorem RL.mono {g':Gh} {vs:List Value} {xs:List AV} (h:RL ν g vs xs) (hm:∀v x,RA ν g v x->RA ν g' v x):RL ν g' vs xs:=⟨h.1,fun j v x h1 h2=>hm _ _ (h.2 j v x h1 h2)⟩
theorem RL.append {vs us:List Value} {xs ys:List AV} (h:RL ν g vs xs) (h':RL ν g us ys):RL ν g (vs++us) (xs++ys):=
 ⟨by simp[h.1,h'.1],fun j v x h1 h2=>by
  rw[List.getElem?_append]at h1 h2;rw[<-h.1]at h2;split at h1
  ·rename_i hj;rw[if_pos hj]at h2;exact h.2 j v x h1 h2
  ·rename_i hj;rw[if_neg hj]at h2;exact h'.2 _ v x h1 h2⟩
theorem fz1T_list:∀(U:List AV) (k:Cx) (g:Gh) (ys:List AV) (h':Hp),(M.mapL (fz1 true) U).run g.h=some (ys,h')->Rel ν k g->∀vs:List Value,RL ν g vs U->
  ∃I',Froze ν k g h' I'/\RL ν ⟨I',fun _=>none,g.w,[]⟩ vs ys:=by
 intro U
 induction U with
 |nil=>
  intro k g ys h' e r vs hv;obtain⟨rfl,rfl⟩:=M.mapL_nil e;have:vs=[]:=List.eq_nil_of_length_eq_zero hv.1;subst this;exact⟨g.I,.refl r,.nil⟩
 |cons a U ih=>
  intro k g ys h' e r vs hv;cases vs with
  |nil=>have:=hv.1;simp at this
  |cons v vs=>
   obtain⟨y,h1,zs,e1,e2,rfl⟩:=M.mapL_cons e;obtain⟨I1,f1,hR⟩:=fz1T r e1 hv.tail.1;obtain⟨I2,f2,hRL⟩:=ih k _ zs h' e2 f1.rel vs (hv.tail.2.mono f1.mono);exact⟨I2,f1.trans f2,.cons (hR.mono fun v x h=>h.mono f2.sub fun _ _ _ _ h=>h) hRL⟩
theorem fz1F_list (r:Rel ν k g):∀(U:List AV) (ys:List AV) (h':Hp),(M.mapL (fz1 false) U).run g.h=some (ys,h')->∀vs:List Value,RL ν g vs U->
  h'=g.h/\∀J:Nat->Prop,(∀b,g.I b->J b)->(∀id o b,get g.h id=some o->g.φ id=some b->J b)->RL ν ⟨J,fun _=>none,g.w,[]⟩ vs ys:=by
 intro U
 induction U with
 |nil=>
  intro ys h' e vs hv;obtain⟨rfl,rfl⟩:=M.mapL_nil e;have:vs=[]:=List.eq_nil_of_length_eq_zero hv.1;subst this;exact⟨rfl,fun _ _ _=>.nil⟩
 |cons a U ih=>
  intro ys h' e vs hv;cases vs with
  |nil=>have:=hv.1;simp at this
  |cons v vs=>
   obtain⟨y,h1,zs,e1,e2,rfl⟩:=M.mapL_cons e;obtain⟨rfl,hR⟩:=fz1F r e1 hv.tail.1;obtain⟨rfl,hRL⟩:=ih zs h' e2 vs hv.tail.2;exact⟨rfl,fun J h1 h2=>.cons (hR J h1 h2) (hRL J h1 h2)⟩
theorem flatI_any {x:IV} (hx:flatI x=true) {v:Value} {I J:Nat->Prop} {w w':World} (h:RI ν I w v x):RI ν J w' v x:=by
 cases h with
 |bool b=>exact .bool b
 |int kk n=>exact .int kk n
 |str s=>exact .str s
 |nilp=>exact .nilp
 |_=>simp[flatI]at hx
theorem flat0_any {x:AV} (hx:flat0 x=true) {v:Value} {g':Gh} (h:RA ν g v x):RA ν g' v x:=by
 cases h with
 |iv h=>exact .iv (flatI_any hx h)
 |_=>simp[flat0]at hx
theorem flat1_any {x:AV} (hx:flat1 x=true) {v:Value} {g':Gh} (h:RA ν g v x):RA ν g' v x:=by
 cases h with
 |agg hn h1 hr=>
  simp only[flat1,List.all_eq_true]at hx;exact .agg hn h1 fun j v c hv hc=>flat0_any (hx c (List.mem_of_getElem? hc)) (hr j v c hv hc)
 |iv h=>exact flat0_any (by simpa[flat1]using hx) (.iv h)
 |_=>simp[flat1,flat0]at hx
theorem flat_any {x:AV} (hx:flat x=true) {v:Value} {g':Gh} (h:RA ν g v x):RA ν g' v x:=by
 cases h with
 |tup hn hr=>
  simp only[flat,List.all_eq_true]at hx;exact .tup hn fun j v c hv hc=>flat1_any (hx c (List.mem_of_getElem? hc)) (hr j v c hv hc)
 |agg hn h1 hr=>exact flat1_any (by simpa[flat]using hx) (.agg hn h1 hr)
 |iv h=>exact flat1_any (by simpa[flat]using hx) (.iv h)
 |_=>simp[flat,flat1,flat0]at hx
theorem fzA_list_tup:∀(vs:List AV) (k:Cx) (g:Gh) (ys:List AV) (h':Hp),(M.mapL (fz1 true) vs).run g.h=some (ys,h')->Rel ν k g->∀us:Array Value,RA ν g (.tuple us) (.tup vs)->
  ∃I',Froze ν k g h' I'/\RC0 ν I' g.w (.tuple us) (.tup ys):=by
 intro vs k g ys h' e r us hu;have hRL:RL ν g us.toList vs:=by
  cases hu with
  |tup hn hr=>exact⟨by simpa using hn,fun j v x h1 h2=>hr j v x (by simpa using h1) h2⟩
 obtain⟨I',f,hR⟩:=fz1T_list vs k g ys h' e r us.toList hRL;exact⟨I',f,.tup (by have:=hR.1;simpa using this) fun j v c h1 h2=>hR.2 j v c (by simpa using h1) h2⟩
theorem shut_ok (r:Rel ν k g) {p y:AV} (e:shut (p,g.h)=some y) {v:Value} (hv:RA ν g v p):∃I' h',Froze ν k g h' I'/\RC0 ν I' g.w v y:=by
 unfold shut at e;simp only[Option.map_eq_some_iff]at e;obtain⟨⟨y',h'⟩,e,rfl⟩:=e;cases p with
 |tup vs=>
  obtain⟨l,h1,e1,e2⟩:=M.bind_some e;obtain⟨rfl,rfl⟩:=M.ret_some e2;obtain⟨us,rfl⟩:∃us,v = .tuple us:=by cases hv;exact⟨_,rfl⟩
  obtain⟨I',f,hR⟩:=fzA_list_tup vs k g l _ e1 r us hv;exact⟨I',_,f,hR⟩
 |undef=>obtain⟨I',f',hR⟩:=fz1T (a:=.undef) r e hv;exact⟨I',_,f',hR⟩
 |iv x=>obtain⟨I',f',hR⟩:=fz1T (a:=(.iv x)) r e hv;exact⟨I',_,f',hR⟩
 |agg cs=>obtain⟨I',f',hR⟩:=fz1T (a:=(.agg cs)) r e hv;exact⟨I',_,f',hR⟩
 |own id o n v=>obtain⟨I',f',hR⟩:=fz1T (a:=(.own id o n v)) r e hv;exact⟨I',_,f',hR⟩
 |ref id v i j=>obtain⟨I',f',hR⟩:=fz1T (a:=(.ref id v i j)) r e hv;exact⟨I',_,f',hR⟩
 |clo f caps=>obtain⟨I',f',hR⟩:=fz1T (a:=(.clo f caps)) r e hv;exact⟨I',_,f',hR⟩
structure MonoL (g g':Gh):Prop where
 own:∀v id o n ver,id<1000->v.oneCell'=true->OwnAt g v id o n ver->OwnAt g' v id o n ver
 ref:∀v id ver i j,id<1000->v.oneCell'=true->RefAt g v id ver i j->RefAt g' v id ver i j
theorem MonoL.refl (g:Gh):MonoL g g:=⟨fun _ _ _ _ _ _ _ h=>h,fun _ _ _ _ _ _ _ h=>h⟩
theorem MonoL.trans {a b c:Gh} (h:MonoL a b) (h':MonoL b c):MonoL a c:=⟨fun _ _ _ _ _ hi h1 x=>h'.own _ _ _ _ _ hi h1 (h.own _ _ _ _ _ hi h1 x),fun _ _ _ _ _ hi h1 x=>h'.ref _ _ _ _ _ hi h1 (h.ref _ _ _ _ _ hi h1 x)⟩
theorem Mono.low {g g':Gh} (h:Mono ν g g'):MonoL g g':=
 ⟨fun v id o n ver _ h1 x=>by cases h v _ (.own h1 x)with | own _ y=>exact y,fun v id ver i j _ h1 x=>by cases h v _ (.ref h1 x)with | ref _ y=>exact y⟩
theorem RA.mono1 {g g':Gh} (hI:∀v x,RI ν g.I g.w v x->RI ν g'.I g'.w v x) (ho:∀v id o n ver,v.oneCell'=true->OwnAt g v id o n ver->OwnAt g' v id o n ver)
  (hr:∀v id ver i j,v.oneCell'=true->RefAt g v id ver i j->RefAt g' v id ver i j) {v:Value} {x:AV} (h:RA ν g v x):RA ν g' v x:=by
 induction h with
 |undef v=>exact .undef v
 |iv h=>exact .iv (hI _ _ h)
 |agg hn h1 _ ih=>exact .agg hn h1 ih
 |tup hn _ ih=>exact .tup hn ih
 |own h1 h=>exact .own h1 (ho _ _ _ _ _ h1 h)
 |ref h1 h=>exact .ref h1 (hr _ _ _ _ _ h1 h)
 |clo hn _ ih=>exact .clo hn ih
def CallOK (ν:Nat->Nat) (P:Program) (f:Nat) (args:List AV) (hp:Hp) (r:AV) (hp':Hp):Prop:=
 ∀(k0:Cx) (g0:Gh) (cargs:Array Value),g0.h=hp->k0.w=g0.w->k0.I=g0.I->Rel ν k0 g0->RL ν g0 cargs.toList args->
  Calls P (ν f) cargs g0.w fun e w'=>∃v g',e = .returned v/\g'.w=w'/\g'.h=hp'/\Rel ν k0 g'/\MonoL g0 g'/\RA ν g' v r
def CallSound (ν:Nat->Nat) (P:Program) (call:Nat->List AV->Hp->Option (AV×Hp)):Prop:=
 ∀f args hp r hp',call f args hp=some (r,hp')->(∃fn,P.funcs[ν f]?=some fn/\fn.body.isSome=true/\(fn.name=="runtime.NumGoroutine")=false)/\CallOK ν P f args hp r hp'
theorem callee_ok {x:AV} {q:Nat×List AV} (e:callee x=some q) {v:Value} (hv:RA ν g v x):∃caps,v = .func (.func (ν q.1)) #[] caps/\RL ν g caps.toList q.2:=by
 unfold callee at e;split at e
 ·cases e;cases hv with
  |iv h=>
   cases h with
   |fn f caps cs hn hr=>
    refine⟨caps,rfl,by simpa using hn,fun j v x h1 h2=>?_⟩;simp only[List.getElem?_map,Option.map_eq_some_iff]at h2;obtain⟨y,hy,rfl⟩:=h2;exact .iv (hr j v y (by simpa using h1) hy)
 ·cases e;cases hv with
  |clo hn hr=>exact⟨_,rfl,by simpa using hn,fun j v x h1 h2=>hr j v x (by simpa using h1) h2⟩
 ·cases e
theorem enter_run {ρ:Operand->Value} {o:Oper} {fo:Operand} {cargs:Array Operand} {tys:Array TypeId} (ho:o.op = .call { callee:=.value fo,args:=cargs,argTypes:=tys }) {f:Nat} {caps:Array Value}
  (hf:ρ fo = .func (.func (ν f)) #[] caps) {fn:Func} (hfn:P.funcs[ν f]?=some fn) (hb:fn.body.isSome=true) (hn:(fn.name=="runtime.NumGoroutine")=false) (w:World) :
  (execOp ρ o).run P w = .ok (.enter (ν f) (cargs.map ρ++caps)) w:=by
 have hb':¬fn.body=none:=fun h=>by rw[h]at hb;cases hb
 have hn':¬fn.name="runtime.NumGoroutine":=by simpa using hn
 simp[execOp,ho,resolve,hf,Deferred.ofValue,invoke,callFunc,hfn,hb',hn']
def CallDone (ν:Nat->Nat) (P:Program) (k:Cx) (g:Gh) (h':Hp) (y:AV) (fv:Value) (cargs:Array Value):Prop:=
 ∃q caps fn,fv = .func (.func (ν q)) #[] caps/\P.funcs[ν q]?=some fn/\fn.body.isSome=true/\(fn.name=="runtime.NumGoroutine")=false/\
  Calls P (ν q) (cargs++caps) g.w fun e w'=>∃v g',e = .returned v/\g'.w=w'/\g'.h=h'/\Rel ν k g'/\Mono ν g g'/\RA ν g' v y
theorem rel_none {J:Nat->Prop} (hs:∀b,J b->b<g.w.heap.size):Rel ν ⟨g.w,J,fun _=>False⟩ ⟨J,fun _=>none,g.w,[]⟩:=
 ⟨fun id o h=>by simp[get]at h,fun id id' o o' b h=>by simp[get]at h,hs,fun _ h=>h,fun _ h=>.inl h,fun id o b h=>by simp[get]at h,Nat.le_refl _,rfl,rfl,rfl,fun _ _ _=>rfl⟩
theorem world_next (r:Rel ν k g) {J:Nat->Prop} {g':Gh} (r':Rel ν ⟨g.w,J,fun _=>False⟩ g'):Rel ν k { g with w:=g'.w }/\Mono ν g { g with w:=g'.w }:=
 r.world (I':=g.I) (fun _ h=>h) (fun _ h=>.inl h) r'.size r'.os r'.tape r'.output fun b hb=>r'.old b hb (.inl fun h=>h)
theorem callM_ok {call:Nat->List AV->Hp->Option (AV×Hp)} (hs:CallSound ν P call) (r:Rel ν k g) {f y:AV} {args:List AV} {h':Hp} (e:(callM call f args).run g.h=some (y,h')) {fv:Value} {cargs:Array Value}
  (hf:RA ν g fv f) (ha:RL ν g cargs.toList args):CallDone ν P k g h' y fv cargs:=by
 obtain⟨q,h1,e1,e2⟩:=M.bind_some e;obtain⟨hq,rfl⟩:=M.lift_some e1;obtain⟨caps,rfl,hcaps⟩:=callee_ok hq hf;obtain⟨U,h2,e3,e4⟩:=M.bind_some e2;obtain⟨rfl,hJ⟩:=fz1F_list r _ _ _ e3 (cargs.toList++caps.toList) (ha.append hcaps);obtain⟨y',h3,e5,e6⟩:=M.bind_some e4;obtain⟨hc,rfl⟩:=M.lift_some e5;obtain⟨_,h4,e7,e8⟩:=M.bind_some e6;obtain⟨hfl,rfl⟩:=M.ok_some e7;obtain⟨rfl,rfl⟩:=M.ret_some e8;obtain⟨⟨rr,hh⟩,hcall,hshut⟩:=Option.bind_eq_some_iff.1 hc;obtain⟨⟨fn,hfn,hb,hn⟩,hok⟩:=hs _ _ _ _ _ hcall;have hsm:∀b,(g.I b\/∃id o,get g.h id=some o/\g.φ id=some b)->b<g.w.heap.size:=by
  rintro b (h | ⟨id,o,ho,hφ⟩)
  ·exact r.small b h
  ·exact(r.ob id o ho).block hφ r.small
 have hRL:=hJ (fun b=>g.I b\/∃id o,get g.h id=some o/\g.φ id=some b) (fun _ h=>.inl h) fun id o b h1 h2=>.inr ⟨id,o,h1,h2⟩
 refine⟨q.1,caps,fn,rfl,hfn,hb,hn,(hok _ _ (cargs++caps) rfl rfl rfl (rel_none hsm) (by simpa using hRL)).mono ?_⟩;rintro e w' ⟨v,g',rfl,rfl,rfl,r', -,hR⟩;obtain⟨I',h'', -,hR'⟩:=shut_ok r' hshut hR;obtain⟨r2,m2⟩:=world_next r r';exact⟨v,{ g with w:=g'.w },rfl,rfl,rfl,r2,m2,flat_any hfl hR'⟩
theorem fcallM_ok {call:Nat->List AV->Hp->Option (AV×Hp)} (hs:CallSound ν P call) (r:Rel ν k g) {f y:AV} {args:List AV} {h':Hp} (e:(fcallM call f args).run g.h=some (y,h')) {fv:Value} {cargs:Array Value}
  (hf:RA ν g fv f) (ha:RL ν g cargs.toList args):CallDone ν P k g h' y fv cargs:=by
 obtain⟨q,h1,e1,e2⟩:=M.bind_some e;obtain⟨hq,rfl⟩:=M.lift_some e1;obtain⟨caps,rfl,hcaps⟩:=callee_ok hq hf;obtain⟨U,h2,e3,e4⟩:=M.bind_some e2;obtain⟨I1,f1,hRL⟩:=fz1T_list _ k g U _ e3 r (cargs.toList++caps.toList) (ha.append hcaps);obtain⟨hc,rfl⟩:=M.lift_some e4;obtain⟨⟨rr,hh⟩,hcall,hshut⟩:=Option.bind_eq_some_iff.1 hc;obtain⟨⟨fn,hfn,hb,hn⟩,hok⟩:=hs _ _ _ _ _ hcall;refine⟨q.1,caps,fn,rfl,hfn,hb,hn,(hok _ _ (cargs++caps) rfl rfl rfl (rel_none f1.rel.small) (by simpa using hRL)).mono ?_⟩;rintro e w' ⟨v,g',rfl,rfl,rfl,r', -,hR⟩;obtain⟨I2,h'',f2,hR'⟩:=shut_ok r' hshut hR;have hup:∀b,I2 b->I1 b\/g.w.heap.size<=b/\b<g'.w.heap.size:=by
  intro b hb;have hlt:=f2.rel.small b hb;rcases f2.rel.i1 b hb with h | h | h
  ·exact .inl h
  ·exact h.elim
  ·exact .inr ⟨h,hlt⟩
 have hw:=f1.rel.world (w':=g'.w) (I':=I2) (fun b h=>f2.sub b (r'.i0 b h)) hup r'.size r'.os r'.tape r'.output fun b hb=>r'.old b hb (.inl fun h=>h)
 exact⟨v,⟨I2,g.φ,g'.w,_⟩,rfl,rfl,rfl,hw.1,f1.mono.trans hw.2,hR'.up fun v x h=>h⟩
theorem ocallM_ok {call:Nat->List AV->Hp->Option (AV×Hp)} (hs:CallSound ν P call) (r:Rel ν k g) {slot:Nat} {f y:AV} {args:List AV} {h':Hp} (e:(ocallM call slot f args).run g.h=some (y,h')) {fv:Value} {cargs:Array Value}
  (hf:RA ν g fv f) (ha:RL ν g cargs.toList args):CallDone ν P k g h' y fv cargs:=by
 obtain⟨q,h1,e1,e2⟩:=M.bind_some e;obtain⟨hq,rfl⟩:=M.lift_some e1;obtain⟨caps,rfl,hcaps⟩:=callee_ok hq hf;obtain⟨U,h2,e3,e4⟩:=M.bind_some e2;obtain⟨I1,f1,hRL⟩:=fz1T_list _ k g U _ e3 r (cargs.toList++caps.toList) (ha.append hcaps);obtain⟨⟨rr,hh⟩,h3,e5,e6⟩:=M.bind_some e4;obtain⟨hcall,rfl⟩:=M.lift_some e5;obtain⟨⟨fn,hfn,hb,hn⟩,hok⟩:=hs _ _ _ _ _ hcall;refine⟨q.1,caps,fn,rfl,hfn,hb,hn,(hok _ _ (cargs++caps) rfl rfl rfl (rel_none f1.rel.small) (by simpa using hRL)).mono ?_⟩;rintro e w' ⟨v,g',rfl,rfl,rfl,r', -,hR⟩;have hup:∀b,g'.I b->I1 b\/g.w.heap.size<=b/\b<g'.w.heap.size:=by
  intro b hb;have hlt:=r'.small b hb;rcases r'.i1 b hb with h | h | h
  ·exact .inl h
  ·exact h.elim
  ·exact .inr ⟨h,hlt⟩
 have hw:=f1.rel.world (w':=g'.w) (I':=g'.I) (fun b h=>r'.i0 b h) hup r'.size r'.os r'.tape r'.output fun b hb=>r'.old b hb (.inl fun h=>h)
 unfold takeR at e6;split at e6
 case h_2=>exact(M.fail_some e6).elim
 rename_i i o n ver hrr;simp only at hrr;subst hrr;obtain⟨ob,h4,e7,e8⟩:=M.bind_some e6;obtain⟨hgi,rfl⟩:=M.lift_some e7;cases ob with
 |cells _=>exact(M.fail_some e8).elim
 |imm _ _ _=>exact(M.fail_some e8).elim
 |map _=>exact(M.fail_some e8).elim
 |buf v' e' es=>
  obtain⟨_,h5,e9,e10⟩:=M.bind_some e8;obtain⟨hok',rfl⟩:=M.ok_some e9;obtain⟨_,h6,e11,e12⟩:=M.bind_some e10;obtain⟨hfr,rfl⟩:=M.fresh_some e11;obtain⟨_,h7,e13,e14⟩:=M.bind_some e12;obtain rfl:=M.write_some e13;obtain⟨rfl,rfl⟩:=M.ret_some e14;simp only[Bool.and_eq_true,beq_iff_eq]at hok';obtain⟨rfl,rfl⟩:=hok';cases hR with
  |own hone ho=>
   unfold OwnAt at ho;simp only[hgi]at ho;have hsl:=ho.2 (by trivial);have hnew:∀b,g'.φ i=some b->g.w.heap.size<=b:=fun b hb=>(r'.own i _ b hgi hb).resolve_left fun h=>h
   have hn:=hw.1.new' (s:=slot) (ob:=.buf 0 e' es) (p:=g'.φ i) (w':=g'.w) hfr (Nat.le_refl _) rfl rfl rfl (fun _ _=>rfl)
    (fun b hb id o ho hφ=>by have:=(f1.rel.ob id o ho).block hφ f1.rel.small;have:=hnew b hb;simp only[]at *;omega)
    (fun b hb=>.inr (Nat.le_trans r.size (hnew b hb))) fun hm=>?_
   ·refine⟨v,⟨g'.I,updφ g.φ slot (g'.φ i),g'.w,set _ slot (.buf 0 e' es)⟩,rfl,rfl,rfl,hn.1,(f1.mono.trans hw.2).trans hn.2,.own hone ?_⟩;unfold OwnAt;simp only[get_set_same,updφ_same];exact⟨Nat.le_refl _,fun _=>hsl⟩
   ·rcases r'.ob i _ hgi with⟨h1,h2⟩|⟨b,h1,h2,h3,h4⟩
    ·exact .inl ⟨(updφ_same _ _ _).trans h1,h2⟩
    ·exact .inr ⟨b,(updφ_same _ _ _).trans h1,h2,h3,h4⟩
end
theorem place_some:∀{ids:List Nat} {id i:Nat},place ids id=some i->ids[i]?=some id:=by
 intro ids
 induction ids with
 |nil=>intro id i h;simp[place]at h
 |cons x ids ih=>
  intro id i h;simp only[place]at h;split at h
  ·rename_i hx;cases h;simp[hx]
  ·simp only[Option.map_eq_some_iff]at h;obtain⟨j,hj,rfl⟩:=h;simpa using ih hj
theorem place_none:∀{ids:List Nat} {id:Nat},place ids id=none->∀i:Nat,ids[i]?≠some id:=by
 intro ids
 induction ids with
 |nil=>intro id _ i h;simp at h
 |cons x ids ih=>
  intro id h i hi;simp only[place]at h;split at h
  ·cases h
  ·rename_i hx;cases i with
   |zero=>simp at hi;exact hx hi
   |succ i=>exact ih (by simpa using h) i (by simpa using hi)
theorem nodup_place:∀{ids:List Nat},nodupB ids=true->∀{i id:Nat},ids[i]?=some id->place ids id=some i:=by
 intro ids
 induction ids with
 |nil=>intro _ i id h;simp at h
 |cons x ids ih=>
  intro hn i id h;simp only[nodupB,Bool.and_eq_true,Bool.not_eq_true',List.contains_eq_mem,decide_eq_false_iff_not]at hn;simp only[place];cases i with
  |zero=>simp at h;rw[if_pos h]
  |succ i=>
   have h':ids[i]?=some id:=by simpa using h
   rw[if_neg (fun e:x=id=>hn.1 (by rw[e];exact List.mem_of_getElem? h')),ih hn.2 h'];rfl
theorem withPlaces_get {α:Type}:∀(l:List α) (s i:Nat),get (withPlaces l s) i=if s<=i then l[i - s]? else none:=by
 intro l
 induction l with
 |nil=>intro s i;simp[withPlaces,get]
 |cons x l ih=>
  intro s i;simp only[withPlaces,get,ih];by_cases h:s=i
  ·subst h;simp
  ·rw[if_neg h];by_cases h':s<=i
   ·rw[if_pos (by omega),if_pos h',show i - s=(i - (s+1))+1 by omega];simp
   ·rw[if_neg (by omega),if_neg h']
section
variable {ν:Nat->Nat} {P:Program} {k:Cx} {g:Gh}
inductive Sent (ν:Nat->Nat) (g:Gh) (ids:List Nat) (v:Value):AV->Prop
 |own {id i o n ver:Nat} (h1:v.oneCell'=true) (h:OwnAt g v id o n ver) (hi:place ids id=some i):Sent ν g ids v (.own i o n ver)
 |ref {id p ver i j:Nat} (h1:v.oneCell'=true) (h:RefAt g v id ver i j) (hp:place ids id=some p):Sent ν g ids v (.ref p ver i j)
 |shut {x:AV} (h:RC0 ν g.I g.w v x):Sent ν g ids v x
theorem lend_list {ids:List Nat}:∀(U:List AV) (k:Cx) (g:Gh) (ys:List AV) (h':Hp),(M.mapL (lendA ids) U).run g.h=some (ys,h')->Rel ν k g->∀vs:List Value,RL ν g vs U->
  ∃I',Froze ν k g h' I'/\ys.length=vs.length/\∀(j:Nat) (v:Value) (y:AV),vs[j]?=some v->ys[j]?=some y->Sent ν { g with I:=I',h:=h' } ids v y:=by
 intro U
 induction U with
 |nil=>
  intro k g ys h' e r vs hv;obtain⟨rfl,rfl⟩:=M.mapL_nil e;have:vs=[]:=List.eq_nil_of_length_eq_zero hv.1;subst this;exact⟨g.I,.refl r,rfl,fun j v y h=>by simp at h⟩
 |cons a U ih=>
  intro k g ys h' e r vs hv;cases vs with
  |nil=>have:=hv.1;simp at this
  |cons v vs=>
   obtain⟨y,h1,zs,e1,e2,rfl⟩:=M.mapL_cons e;have key:∃I1,Froze ν k g h1 I1/\∀(g2:Gh),Mono ν { g with I:=I1,h:=h1 } g2->(∀v x,RI ν I1 g.w v x->RI ν g2.I g2.w v x)->Sent ν g2 ids v y:=by
    have ha:=hv.tail.1;have plain:∀{a:AV},(fz1 true a).run g.h=some (y,h1)->RA ν g v a->∃I1,Froze ν k g h1 I1/\∀(g2:Gh),Mono ν { g with I:=I1,h:=h1 } g2->(∀v x,RI ν I1 g.w v x->RI ν g2.I g2.w v x)->Sent ν g2 ids v y:=by
     intro a e ha;obtain⟨I1,f1,hR⟩:=fz1T r e ha;exact⟨I1,f1,fun g2 _ hRI=>.shut (hR.mono hRI)⟩
    cases a with
    |own id o n ver=>
     obtain⟨i,h2,e3,e4⟩:=M.bind_some e1;obtain⟨hi,rfl⟩:=M.lift_some e3;obtain⟨rfl,rfl⟩:=M.ret_some e4;refine⟨g.I,.refl r,fun g2 hm _=>?_⟩;have:=hm _ _ ha;cases this with
     |own h1 h=>exact .own h1 h hi
    |ref id ver i j=>
     obtain⟨p,h2,e3,e4⟩:=M.bind_some e1;obtain⟨hi,rfl⟩:=M.lift_some e3;obtain⟨rfl,rfl⟩:=M.ret_some e4;refine⟨g.I,.refl r,fun g2 hm _=>?_⟩;have:=hm _ _ ha;cases this with
     |ref h1 h=>exact .ref h1 h hi
    |undef=>exact plain (a:=.undef) e1 ha
    |iv x=>exact plain (a:=(.iv x)) e1 ha
    |agg cs=>exact plain (a:=(.agg cs)) e1 ha
    |tup vs=>exact plain (a:=(.tup vs)) e1 ha
    |clo f caps=>exact plain (a:=(.clo f caps)) e1 ha
   obtain⟨I1,f1,hS⟩:=key;obtain⟨I2,f2,hl,hR⟩:=ih k _ zs h' e2 f1.rel vs (hv.tail.2.mono f1.mono);refine⟨I2,f1.trans f2,by simp[hl],fun j v' y' h1 h2=>?_⟩;cases j with
   |zero=>simp at h1 h2;subst h1 h2;exact hS _ f2.mono fun v x h=>h.mono f2.sub fun _ _ _ _ h=>h
   |succ j=>exact hR j v' y' (by simpa using h1) (by simpa using h2)
theorem looks_list:∀(ids:List Nat) (os:List Ob) (h h':Hp),(M.mapL (fun id=>(M.look id).bind fun o=>(M.ok (lentOk o)).bind fun _=>M.ret o) ids).run h=some (os,h')->
  h'=h/\os.length=ids.length/\∀(i id:Nat),ids[i]?=some id->∃v e es,os[i]?=some (.buf v e es)/\get h id=some (.buf v e es):=by
 intro ids
 induction ids with
 |nil=>
  intro os h h' e;obtain⟨rfl,rfl⟩:=M.mapL_nil e;exact⟨rfl,rfl,fun i id h=>by simp at h⟩
 |cons x ids ih=>
  intro os h h' e;obtain⟨y,h1,zs,e1,e2,rfl⟩:=M.mapL_cons e;obtain⟨o,h2,e3,e4⟩:=M.bind_some e1;obtain⟨hg,rfl⟩:=M.look_some e3;obtain⟨_,h3,e5,e6⟩:=M.bind_some e4;obtain⟨hok,rfl⟩:=M.ok_some e5;obtain⟨rfl,rfl⟩:=M.ret_some e6;obtain⟨rfl,hl,hr⟩:=ih zs _ _ e2;refine⟨rfl,by simp[hl],fun i id hi=>?_⟩;cases i with
  |zero=>
   simp at hi;subst hi;cases o with
   |buf v ee es=>exact⟨v,ee,es,rfl,hg⟩
   |cells _=>simp[lentOk]at hok
   |imm _ _ _=>simp[lentOk]at hok
   |map _=>simp[lentOk]at hok
  |succ i=>simpa using hr i id (by simpa using hi)
theorem backAll_get:∀(ids:List Nat) (s:Nat) (hc h h':Hp) (u:Unit),(backAll ids s hc).run h=some (u,h')->nodupB ids=true->
  (∀(i id:Nat),ids[i]?=some id->∃o,get hc (s+i)=some o/\get h' id=some o/\(∀cs,o≠.cells cs)/\∀kvs,o≠.map kvs)/\∀id,place ids id=none->get h' id=get h id:=by
 intro ids
 induction ids with
 |nil=>
  intro s hc h h' u e _;obtain⟨-,rfl⟩:=M.ret_some e;exact⟨fun i id h=>by simp at h,fun _ _=>rfl⟩
 |cons x ids ih=>
  intro s hc h h' u e hn;have hn':=hn;simp only[nodupB,Bool.and_eq_true,Bool.not_eq_true',List.contains_eq_mem,decide_eq_false_iff_not]at hn;obtain⟨o,h1,e1,e2⟩:=M.bind_some e;obtain⟨ho,rfl⟩:=M.lift_some e1;obtain⟨_,h2,e3,e4⟩:=M.bind_some e2;obtain⟨hok,rfl⟩:=M.ok_some e3;obtain⟨_,h3,e5,e6⟩:=M.bind_some e4;obtain rfl:=M.write_some e5;obtain⟨q1,q2⟩:=ih (s+1) hc _ h' u e6 hn.2;have hx:place ids x=none:=by
   cases hp:place ids x with
   |none=>rfl
   |some i=>exact absurd (List.mem_of_getElem? (place_some hp)) hn.1
  refine⟨fun i id hi=>?_,fun id hid=>?_⟩
  ·cases i with
   |zero=>
    simp at hi;subst hi;refine⟨o,ho,?_,⟨fun cs hcs=>(by subst hcs;cases hok),fun cs hcs=>(by subst hcs;cases hok)⟩⟩;rw[q2 _ hx];exact get_set_same _ _ _
   |succ i=>
    have:=q1 i id (by simpa using hi)
    rwa [show s+1+i=s+(i+1) by omega]at this
  ·simp only[place]at hid;split at hid
   ·cases hid
   ·rename_i hne;rw[q2 id (by simpa using hid)];exact get_set_ne _ _ hne
theorem lcallM_ok {call:Nat->List AV->Hp->Option (AV×Hp)} (hs:CallSound ν P call) (r:Rel ν k g) {f y:AV} {args:List AV} {h':Hp} (e:(lcallM call f args).run g.h=some (y,h')) {fv:Value} {cargs:Array Value}
  (hf:RA ν g fv f) (ha:RL ν g cargs.toList args):CallDone ν P k g h' y fv cargs:=by
 obtain⟨q,h1,e1,e2⟩:=M.bind_some e;obtain⟨hq,rfl⟩:=M.lift_some e1;obtain⟨caps,rfl,hcaps⟩:=callee_ok hq hf;simp only[]at e2;generalize hids:dedup ((args++q.2).flatMap idsOf) []=ids at e2;obtain⟨_,h2,e3,e4⟩:=M.bind_some e2;obtain⟨hnd,rfl⟩:=M.ok_some e3;simp only[Bool.and_eq_true,Nat.ble_eq]at hnd;obtain⟨hnd,hlen⟩:=hnd;obtain⟨U,h3,e5,e6⟩:=M.bind_some e4;obtain⟨I1,f1,hal,hsent⟩:=lend_list (ids:=ids) _ k g U _ e5 r (cargs.toList++caps.toList) (ha.append hcaps);obtain⟨os,h4,e7,e8⟩:=M.bind_some e6;obtain⟨rfl,hol,hos⟩:=looks_list ids os _ _ e7;obtain⟨p,h5,e9,e10⟩:=M.bind_some e8;obtain⟨hcall,rfl⟩:=M.lift_some e9
 obtain⟨rr,h6,e11,e12⟩:=M.bind_some e10;obtain⟨hrr,rfl⟩:=M.lift_some e11;obtain⟨_,h7,e13,e14⟩:=M.bind_some e12;obtain⟨rfl,rfl⟩:=M.ret_some e14;obtain⟨⟨fn,hfn,hb,hn⟩,hok⟩:=hs _ _ _ _ _ hcall;have r1:=f1.rel
 let φ0:Nat->Option Nat:=fun i=>(ids[i]?).bind g.φ
 let L:Nat->Prop:=fun b=>∃(i id:Nat),ids[i]?=some id/\g.φ id=some b
 let g1:Gh:={ g with I:=I1,h:=h6 }
 let g0:Gh:=⟨I1,φ0,g.w,withPlaces os 0⟩
 have hg0:∀i,get g0.h i=os[i]?:=fun i=>by
  show get (withPlaces os 0) i=_
  rw[withPlaces_get,if_pos (Nat.zero_le _),Nat.sub_zero]
 have hob0:∀i o,get g0.h i=some o->∃id,ids[i]?=some id/\get h6 id=some o/\(∃v e es,o = .buf v e es)/\φ0 i=g.φ id:=by
  intro i o ho;rw[hg0]at ho;have hi:i<ids.length:=by have:=lt_of_some ho;omega
  have hid:ids[i]?=some ids[i]:=List.getElem?_eq_getElem hi;obtain⟨v,ee,es,q1,q2⟩:=hos i _ hid;rw[ho]at q1;cases q1;exact⟨_,hid,q2,⟨v,ee,es,rfl⟩,by simp[φ0,hid]⟩
 have hLI:∀b,L b->¬I1 b/\b<g.w.heap.size:=by
  rintro b ⟨i,id,hid,hφ⟩;obtain⟨v,ee,es,q1,q2⟩:=hos i id hid;rcases r1.ob id _ q2 with⟨h1,_⟩|⟨b',h1,h2,h3,_⟩
  ·simp only[hφ]at h1;cases h1
  ·simp only[hφ]at h1;cases h1;exact⟨h2,h3.1⟩
 have r0:Rel ν ⟨g.w,I1,L⟩ g0:=by
  refine⟨fun i o ho=>?_,fun i i' o o' b ho ho' hφ hφ'=>?_,r1.small,fun _ h=>h,fun _ h=>.inl h,fun i o b ho hφ=>?_,Nat.le_refl _,rfl,rfl,rfl,fun _ _ _=>rfl⟩
  ·obtain⟨id,hid,hg,⟨v,ee,es,rfl⟩,hφ⟩:=hob0 i o ho;rcases r1.ob id _ hg with⟨h1,h2⟩|⟨b,h1,h2,h3,h4⟩
   ·exact .inl ⟨hφ.trans h1,h2⟩
   ·exact .inr ⟨b,hφ.trans h1,h2,h3,h4⟩
  ·obtain⟨id,hid,hg, -,hφi⟩:=hob0 i o ho;obtain⟨id',hid',hg', -,hφi'⟩:=hob0 i' o' ho';have:=r1.inj id id' o o' b hg hg' (hφi.symm.trans hφ) (hφi'.symm.trans hφ');subst this;have h1:=nodup_place hnd hid;have h2:=nodup_place hnd hid';rw[h1]at h2;exact Option.some.inj h2
  ·obtain⟨id,hid,hg, -,hφi⟩:=hob0 i o ho;exact .inl ⟨i,id,hid,hφi.symm.trans hφ⟩
 have low:∀{i id:Nat},place ids id=some i->i<1000:=fun h=>by have:=lt_of_some (place_some h);omega
 have getp:∀{i id:Nat},place ids id=some i->get g0.h i=get h6 id/\φ0 i=g.φ id:=by
  intro i id h;have hid:=place_some h;obtain⟨v,ee,es,q1,q2⟩:=hos i id hid;exact⟨by rw[hg0,q1,q2],by simp[φ0,hid]⟩
 have own0:∀{i id o n ver:Nat} {v:Value},place ids id=some i->OwnAt g1 v id o n ver->OwnAt g0 v i o n ver:=by
  intro i id o n ver v hp ho;obtain⟨a1,a2⟩:=getp hp;unfold OwnAt at ho ⊢;rw[a1,show g0.φ i=g.φ id from a2];exact ho
 have ref0:∀{i id ver a b:Nat} {v:Value},place ids id=some i->RefAt g1 v id ver a b->RefAt g0 v i ver a b:=by
  intro i id ver a b v hp ho;obtain⟨a1,a2⟩:=getp hp;unfold RefAt at ho ⊢;rw[a1,show g0.φ i=g.φ id from a2];exact ho
 have hRL:RL ν g0 (cargs++caps).toList U:=by
  refine⟨by rw[hal];simp,fun j v y h1 h2=>?_⟩;have hS:=hsent j v y (by simpa using h1) h2;cases hS with
  |own h1 h hp=>exact .own h1 (own0 hp h)
  |ref h1 h hp=>exact .ref h1 (ref0 hp h)
  |shut h=>exact h.up fun v x h=>h
 refine⟨q.1,caps,fn,rfl,hfn,hb,hn,(hok ⟨g.w,I1,L⟩ g0 (cargs++caps) rfl rfl rfl r0 hRL).mono ?_⟩;rintro e w' ⟨v,g',rfl,rfl,hgh,r',ml,hR⟩;obtain⟨q1,q2⟩:=backAll_get ids 0 p.2 h6 h' _ e13 hnd;simp only[Nat.zero_add]at q1
 let φ2:Nat->Option Nat:=fun id=>match place ids id with | some i=>g'.φ i | none=>g.φ id
 let g2:Gh:=⟨g'.I,φ2,g'.w,h'⟩
 have hsome:∀{i id:Nat},place ids id=some i->φ2 id=g'.φ i/\∃o,get g'.h i=some o/\get h' id=some o/\(∀cs,o≠.cells cs)/\∀kvs,o≠.map kvs:=by
  intro i id hp;obtain⟨o,a1,a2,a3⟩:=q1 i id (place_some hp);exact⟨by simp[φ2,hp],o,by rw[hgh];exact a1,a2,a3⟩
 have hnone:∀{id:Nat},place ids id=none->φ2 id=g.φ id/\get h' id=get h6 id:=fun hp=>⟨by simp[φ2,hp],q2 _ hp⟩
 have hLnone:∀{id:Nat} {o:Ob} {b:Nat},place ids id=none->get h6 id=some o->g.φ id=some b->¬L b:=by
  rintro id o b hp ho hφ ⟨i,id',hid',hφ'⟩;obtain⟨v,ee,es,q3,q4⟩:=hos i id' hid';have:=r1.inj id id' o _ b ho q4 hφ hφ';subst this;exact place_none hp i hid'
 have hRI:∀v x,RI ν I1 g.w v x->RI ν g'.I g'.w v x:=fun v x h=>h.mono (fun b hb=>r'.i0 b hb) fun b off u hb hc=>by
  rw[cell_of_same (r'.old b (r1.small b hb) (.inr hb))];exact hc
 have hheap:∀b,b<g.w.heap.size->¬L b->g'.w.heap[b]?=g.w.heap[b]?:=fun b hb hL=>r'.old b hb (.inl hL)
 have m2:Mono ν g1 g2:=by
  intro v x hx;refine hx.mono1 hRI ?_ ?_
  ·intro v id o n ver hone ho;cases hp:place ids id with
   |some i=>
    have h:=ml.own v i o n ver (low hp) hone (own0 hp ho);obtain⟨a1,ob,a2,a3,_⟩:=hsome hp;unfold OwnAt at h ⊢;rw[a2]at h;rw[show get g2.h id=some ob from a3,show g2.φ id=g'.φ i from a1];exact h
   |none=>
    obtain⟨a1,a2⟩:=hnone hp;obtain⟨ob,hob⟩:=ho.alive;exact ho.other (g':=g2) a2 a1 fun b hφ=>hheap b ((r1.ob id _ hob).block hφ r1.small) (hLnone hp hob hφ)
  ·intro v id ver a b hone hr;cases hp:place ids id with
   |some i=>
    have h:=ml.ref v i ver a b (low hp) hone (ref0 hp hr);obtain⟨a1,ob,a2,a3,_⟩:=hsome hp;unfold RefAt at h ⊢;rw[a2]at h;rw[show get g2.h id=some ob from a3,show g2.φ id=g'.φ i from a1];exact h
   |none=>
    obtain⟨a1,a2⟩:=hnone hp;exact hr.other (g':=g2) a2 a1
 have hI2:∀b,b<g.w.heap.size->g'.I b->I1 b\/L b:=by
  intro b hb h;rcases r'.i1 b h with h | h | h
  ·exact .inl h
  ·exact .inr h
  ·simp only[]at h;omega
 have r2:Rel ν k g2:=by
  refine⟨fun id o ho=>?_,fun id id' o o' b ho ho' hφ hφ'=>?_,r'.small,fun b h=>r'.i0 b (r1.i0 b h),fun b h=>?_,fun id o b ho hφ=>?_,Nat.le_trans r1.size r'.size,r'.os.trans r1.os,r'.tape.trans r1.tape,r'.output.trans r1.output,fun b hb hk=>?_⟩
  ·cases hp:place ids id with
   |some i=>
    obtain⟨a1,ob,a2,a3,a4⟩:=hsome hp;have:ob=o:=by rw[show get g2.h id=some ob from a3]at ho;exact Option.some.inj ho
    subst this;have old:=r'.ob i _ a2;cases ob with
    |cells cs=>exact absurd rfl (a4.1 cs)
    |map cs=>exact absurd rfl (a4.2 cs)
    |buf v ee es=>
     rcases old with⟨h1,h2⟩|⟨b,h1,h2,h3,h4⟩
     ·exact .inl ⟨a1.trans h1,h2⟩
     ·exact .inr ⟨b,a1.trans h1,h2,h3,h4⟩
    |imm v ee es=>
     rcases old with⟨h1,h2⟩|⟨b,h1,h2,h3⟩
     ·exact .inl ⟨a1.trans h1,h2⟩
     ·exact .inr ⟨b,a1.trans h1,h2,h3⟩
   |none=>
    obtain⟨a1,a2⟩:=hnone hp;have ho':get h6 id=some o:=a2.symm.trans ho;refine(r1.ob id o ho').other (g':=g2) a1 m2 hRI r'.size (fun b hφ=>hheap b ((r1.ob id _ ho').block hφ r1.small) (hLnone hp ho' hφ)) fun b hφ=>?_
    have hlt:=(r1.ob id _ ho').block hφ r1.small;exact⟨fun h=>(hI2 b hlt h).resolve_right (hLnone hp ho' hφ),fun h=>r'.i0 b h⟩
  ·have cross:∀{a c:Nat} {oc:Ob},(∃i,place ids a=some i)->place ids c=none->get h' c=some oc->φ2 a=some b->φ2 c=some b->False:=by
    rintro a c oc ⟨i,hp⟩ hp' hoc h1 h2;obtain⟨a1,ob,a2,a3,_⟩:=hsome hp;obtain⟨b1,b2⟩:=hnone hp';have ho6:get h6 c=some oc:=b2.symm.trans hoc;have hφc:g.φ c=some b:=b1.symm.trans h2;rcases r'.own i ob b a2 (a1.symm.trans h1)with h | h
    ·exact hLnone hp' ho6 hφc h
    ·have:=(r1.ob c _ ho6).block hφc r1.small;simp only[]at h this;omega
   cases hp:place ids id with
   |some i=>
    cases hp':place ids id' with
    |some i'=>
     obtain⟨a1,ob,a2,a3,_⟩:=hsome hp;obtain⟨b1,ob',b2,b3,_⟩:=hsome hp';have:=r'.inj i i' ob ob' b a2 b2 (a1.symm.trans hφ) (b1.symm.trans hφ');subst this;have h1:=place_some hp;rw[place_some hp']at h1;exact(Option.some.inj h1).symm
    |none=>exact(cross ⟨i,hp⟩ hp' ho' hφ hφ').elim
   |none=>
    cases hp':place ids id' with
    |some i'=>exact(cross ⟨i',hp'⟩ hp ho hφ' hφ).elim
    |none=>
     obtain⟨a1,a2⟩:=hnone hp;obtain⟨b1,b2⟩:=hnone hp';exact r1.inj id id' o o' b (a2.symm.trans ho) (b2.symm.trans ho') (a1.symm.trans hφ) (b1.symm.trans hφ')
  ·rcases r'.i1 b h with h | ⟨i,id,hid,hφ⟩|h
   ·exact r1.i1 b h
   ·obtain⟨v,ee,es,q3,q4⟩:=hos i id hid;exact .inr (r1.own id _ b q4 hφ)
   ·exact .inr (.inr (Nat.le_trans r1.size h))
  ·cases hp:place ids id with
   |some i=>
    obtain⟨a1,ob,a2,a3,_⟩:=hsome hp;rcases r'.own i ob b a2 (a1.symm.trans hφ)with⟨i',id',hid',hφ'⟩|h
    ·obtain⟨v,ee,es,q3,q4⟩:=hos i' id' hid';exact r1.own id' _ b q4 hφ'
    ·exact .inr (Nat.le_trans r1.size h)
   |none=>
    obtain⟨a1,a2⟩:=hnone hp;exact r1.own id o b (a2.symm.trans ho) (a1.symm.trans hφ)
  ·have hlt:b<g.w.heap.size:=Nat.lt_of_lt_of_le hb r1.size;refine(hheap b hlt ?_).trans (r1.old b hb hk);rintro⟨i,id,hid,hφ⟩;obtain⟨v,ee,es,q3,q4⟩:=hos i id hid;rcases hk with hk | hk
   ·rcases r1.own id _ b q4 hφ with h | h
    ·exact hk h
    ·omega
   ·exact(hLI b ⟨i,id,hid,hφ⟩).1 (r1.i0 b hk)
 refine⟨v,g2,rfl,rfl,rfl,r2,f1.mono.trans m2,?_⟩;unfold lentR at hrr;split at hrr
 ·rename_i i o n ver hp1;simp only[Option.map_eq_some_iff]at hrr;obtain⟨id,hid,rfl⟩:=hrr;rw[hp1]at hR;cases hR with
  |own hone ho=>
   obtain⟨a1,ob,a2,a3,_⟩:=hsome (nodup_place hnd hid);refine .own hone ?_;unfold OwnAt at ho ⊢;rw[a2]at ho;rw[show get g2.h id=some ob from a3,show g2.φ id=g'.φ i from a1];exact ho
 ·split at hrr
  ·rename_i hfl;cases hrr;exact flat_any hfl hR
  ·cases hrr
end
section
variable {ν:Nat->Nat} {P:Program} {k:Cx} {g:Gh}
theorem wp_done {o:Oper} {a:Act} {h':Hp} {y:AV} {s:Sem Value} (hx:execOp a.eval o=(do pure (.value (<-s)):Sem Next)) (d:Done ν k g h' y (s.run P g.w)) {next:Act->World->Prop} {Q:Exit->Act->World->Prop}
  (hn:∀g' v,g'.h=h'->Rel ν k g'->Mono ν g g'->RA ν g' v y->next (a.put o.dst v) g'.w):o.wp P a g.w next Q:=by
 obtain⟨g',v,hr,hh,r',m,hR⟩:=d;unfold Oper.wp;rw[hx];simp only[Sem.run_bind,hr,Result.andThen_ok,Sem.run_pure];exact hn g' v hh r' m hR
theorem wp_call {o:Oper} {a:Act} {h':Hp} {y:AV} {fo:Operand} {cargs:Array Operand} {tys:Array TypeId} (ho:o.op = .call { callee:=.value fo,args:=cargs,argTypes:=tys })
  (d:CallDone ν P k g h' y (a.eval fo) (cargs.map a.eval)) {next:Act->World->Prop} {Q:Exit->Act->World->Prop}
  (hn:∀g' v,g'.h=h'->Rel ν k g'->Mono ν g g'->RA ν g' v y->next (a.put o.dst v) g'.w):o.wp P a g.w next Q:=by
 obtain⟨q,caps,fn,hf,hfn,hb,hnm,hc⟩:=d;unfold Oper.wp;rw[enter_run ho hf hfn hb hnm];rw[Oper.upon_enter];refine hc.mono ?_;rintro e w' ⟨v,g',rfl,rfl,hh,r',m,hR⟩;exact hn g' v hh r' m hR
theorem args_ok {a:Act} {fr:Fr} (hf:FrR ν g a.tmps fr) {xs:Array Operand} {ys:List Opd} (h:cOpds ν xs.toList ys=true):RL ν g (xs.map a.eval).toList (ys.map (ev fr)):=by
 obtain⟨h1,h2⟩:=evals_ok hf h;exact⟨by simpa using h1,fun j v x hv hx=>h2 j v x (by simpa using hv) hx⟩
theorem parts_ok {a:Act} {fr:Fr} (hf:FrR ν g a.tmps fr):∀{ps:List (Nat×Operand)} {qs:List (Nat×Opd)},cParts ν ps qs=true->
  (ps.map fun p=>(p.1,a.eval p.2)).length=(qs.map fun p=>(p.1,ev fr p.2)).length/\
  ∀(j:Nat) (q:Nat×Value) (p:Nat×AV),(ps.map fun p=>(p.1,a.eval p.2))[j]?=some q->(qs.map fun p=>(p.1,ev fr p.2))[j]?=some p->q.1=p.1/\RA ν g q.2 p.2
 |[],[],_=>⟨rfl,fun j v x h=>by simp at h⟩
 |x::xs,y::ys,h=>by
  simp only[cParts,Bool.and_eq_true,beq_iff_eq]at h;obtain⟨h1,h2⟩:=parts_ok hf h.2;refine⟨by simpa using h1,fun j v z hv hz=>?_⟩;cases j with
  |zero=>simp at hv hz;subst hv hz;exact⟨h.1.1,eval_ok hf h.1.2⟩
  |succ j=>exact h2 j v z (by simpa using hv) (by simpa using hz)
 |[],_::_,h=>by simp[cParts]at h
 |_::_,[],h=>by simp[cParts]at h
set_option maxHeartbeats 4000000 in
theorem op_wp {call:Nat->List AV->Hp->Option (AV×Hp)} (hs:CallSound ν P call) {o:Oper} {a:Act} {fr:Fr} {io:IOp} {slot:Nat} (hc:cOp P ν o.op io=true) (r:Rel ν k g) (hf:FrR ν g a.tmps fr) {y:AV} {h':Hp}
  (e:(osem call slot (ev fr) io).run g.h=some (y,h')) {next:Act->World->Prop} {Q:Exit->Act->World->Prop}
  (hn:∀g' v,g'.h=h'->Rel ν k g'->Mono ν g g'->RA ν g' v y->next (a.put o.dst v) g'.w):o.wp P a g.w next Q:=by
 unfold cOp at hc;split at hc
 case h_1 y'=>
  obtain⟨rfl,rfl⟩:=M.ret_some e;split at hc
  ·rename_i x ho;exact wp_done (s:=pure (a.eval x)) (by simp[execOp,ho]) (.same r rfl (eval_ok hf hc)) hn
  ·rename_i x ho;exact wp_done (s:=pure (a.eval x)) (by simp[execOp,ho]) (.same r rfl (eval_ok hf hc)) hn
  ·cases hc
 case h_2=>
  split at hc
  ·rename_i ho;exact wp_done (s:=pure (.slice none 0 0)) (by simp[execOp,ho,Act.eval]) (nil0_ok (a:=none) r e) hn
  ·rename_i ho;exact wp_done (s:=pure (.slice none 0 0)) (by simp[execOp,ho,Act.eval]) (nil0_ok (a:=none) r e) hn
  ·cases hc
 case h_3=>
  split at hc
  case h_2=>cases hc
  rename_i c x z ho;simp only[Bool.and_eq_true]at hc;simp only[osem]at e;split at e
  case h_2=>exact(M.fail_some e).elim
  rename_i t ht;obtain⟨rfl,rfl⟩:=M.ret_some e;have h1:=eval_ok hf hc.1.1;rw[ht]at h1;have hb:=h1.bool;refine wp_done (s:=do pure (if <-asBool (a.eval c) then a.eval x else a.eval z)) (by simp[execOp,ho]) (.same r (v:=if t then a.eval x else a.eval z) (by simp[hb,asBool]) ?_) hn;cases t
  ·exact eval_ok hf hc.2
  ·exact eval_ok hf hc.1.2
 case h_4=>
  split at hc
  case h_2=>cases hc
  rename_i t ho;exact wp_done (s:=Instr.alloc t true (.tuple #[])) (by simp[execOp,ho]) (allocI_ok r hc e) hn
 case h_5=>
  split at hc
  case h_2=>cases hc
  rename_i t x ho;exact wp_done (s:=Instr.box t (a.eval x)) (by simp[execOp,ho]) (box_ok r (eval_ok hf hc) e) hn
 case h_6=>
  split at hc
  case h_2=>cases hc
  rename_i t ps ho;simp only[Bool.and_eq_true]at hc;obtain⟨hz,hc⟩:=hc;split at hc
  case h_2=>cases hc
  rename_i pl hpl;exact wp_done (s:=Instr.build t (ps.map fun(i,x)=>(i,a.eval x))) (by simp[execOp,ho]) (build_ok r hf hz hpl hc e) hn
 case h_7 e0 z n' qs=>
  split at hc
  case h_2=>cases hc
  rename_i t n ps ho;simp only[Bool.and_eq_true,beq_iff_eq]at hc;obtain⟨⟨rfl,hb⟩,hq⟩:=hc;obtain⟨hl,hp⟩:=parts_ok hf hq;refine wp_done (s:=Instr.buildSlice t n (ps.toList.map fun p=>(p.1,a.eval p.2)).toArray) (by
   have:(ps.map fun(p:Nat×Operand)=>(p.1,a.eval p.2))=(ps.toList.map fun p=>(p.1,a.eval p.2)).toArray:=by apply Array.ext';simp
   simp only[execOp,ho];rw[<-this]) (bsl_ok (slot:=slot) r hb hl hp ?_) hn
  rw[M.mapL_map];exact e
 case h_8=>
  split at hc
  case h_2=>cases hc
  rename_i t x ho;simp only[Bool.and_eq_true]at hc;exact wp_done (s:=Instr.loadAt t (a.eval x)) (by simp[execOp,ho]) (load_ok r hc.1 (eval_ok hf hc.2) e) hn
 case h_9=>
  split at hc
  case h_2=>cases hc
  rename_i t x z ho;simp only[Bool.and_eq_true]at hc;obtain⟨g',hrun,rfl,hh,r',m⟩:=store_ok r hc.1.1 (eval_ok hf hc.1.2) (eval_ok hf hc.2) e;unfold Oper.wp;have hx:(execOp a.eval o).run P g.w = .ok .skip g'.w:=by simp[execOp,ho,hrun]
  rw[hx];exact hn g' undef hh r' m (.tup rfl fun j v c h=>by simp at h)
 case h_10=>
  split at hc
  case h_2=>cases hc
  rename_i t x f ho;simp only[Bool.and_eq_true]at hc;exact wp_done (s:=Instr.fieldAt t (a.eval x) f) (by simp[execOp,ho]) (fadr_ok r hc.1 (eval_ok hf hc.2) e) hn
 case h_11=>cases hc
 case h_12=>
  split at hc
  case h_2=>cases hc
  rename_i t x z ho;simp only[Bool.and_eq_true]at hc;exact wp_done (s:=Instr.indexAt t (a.eval x) (a.eval z)) (by simp[execOp,ho]) (iarr_ok r hc.1.1 (eval_ok hf hc.1.2) (eval_ok hf hc.2) e) hn
 case h_13=>
  split at hc
  case h_2=>cases hc
  rename_i t x z ho;simp only[Bool.and_eq_true]at hc;exact wp_done (s:=Instr.indexAt t (a.eval x) (a.eval z)) (by simp[execOp,ho]) (isl_ok r hc.1.1 (eval_ok hf hc.1.2) (eval_ok hf hc.2) e) hn
 case h_14=>
  split at hc
  case h_2=>cases hc
  rename_i t x z ho;simp only[Bool.and_eq_true]at hc;exact wp_done (s:=Instr.index t (a.eval x) (a.eval z)) (by simp[execOp,ho]) (xarr_ok r hc.1.1 (eval_ok hf hc.1.2) (eval_ok hf hc.2) e) hn
 case h_15=>
  split at hc
  case h_2=>cases hc
  rename_i t x z ho;simp only[Bool.and_eq_true]at hc;exact wp_done (s:=Instr.index t (a.eval x) (a.eval z)) (by simp[execOp,ho]) (xstr_ok r (isStr_spec hc.1.1) (eval_ok hf hc.1.2) (eval_ok hf hc.2) e) hn
 case h_16 bo q x' y'=>
  split at hc
  case h_2=>cases hc
  rename_i b t x z yt ho;simp only[Bool.and_eq_true,beq_iff_eq]at hc;obtain⟨⟨⟨rfl,hq⟩,hx⟩,hz⟩:=hc;obtain⟨w',h1,e1,e2⟩:=M.bind_some e;obtain⟨hb,rfl⟩:=M.lift_some e1;obtain⟨rfl,rfl⟩:=M.ret_some e2;exact wp_done (s:=do eqGuard b t x z (a.eval x) (a.eval z);binOp b t (a.eval x) (a.eval z)) (by simp[execOp,ho]) (bin_ok r hq (eval_ok hf hx) (eval_ok hf hz) hb) hn
 case h_17 neg qs x' y'=>
  split at hc
  case h_2=>cases hc
  rename_i b t x z yt ho;simp only[Bool.and_eq_true,beq_iff_eq]at hc;obtain⟨⟨⟨rfl,hq⟩,hx⟩,hz⟩:=hc;simp only[osem]at e;split at e
  case h_2=>exact(M.fail_some e).elim
  rename_i xs ys hxs hys;obtain⟨w',h1,e1,e2⟩:=M.bind_some e;obtain⟨hb,rfl⟩:=M.lift_some e1;obtain⟨rfl,rfl⟩:=M.ret_some e2;have h1:=eval_ok hf hx;have h2:=eval_ok hf hz;rw[hxs]at h1;rw[hys]at h2;exact wp_done (s:=do eqGuard (if neg then .neq else .eql) t x z (a.eval x) (a.eval z);binOp (if neg then .neq else .eql) t (a.eval x) (a.eval z)) (by simp[execOp,ho]) (eqc_ok r hq neg h1 h2 hb) hn
 case h_18 uo x'=>
  split at hc
  case h_2=>cases hc
  rename_i u t x ho;simp only[Bool.and_eq_true,beq_iff_eq]at hc;obtain⟨rfl,hx⟩:=hc;obtain⟨w',h1,e1,e2⟩:=M.bind_some e;obtain⟨hb,rfl⟩:=M.lift_some e1;obtain⟨rfl,rfl⟩:=M.ret_some e2;exact wp_done (s:=Op.unary u (a.eval x)) (by simp[execOp,ho]) (un_ok r (eval_ok hf hx) hb) hn
 case h_19=>
  split at hc
  case h_2=>cases hc
  rename_i s d x ho;simp only[Bool.and_eq_true]at hc;obtain⟨n,h1,e1,e2⟩:=M.bind_some e;have hh:=(idx_some e1).1;subst hh;obtain⟨rfl,rfl⟩:=M.ret_some e2;exact wp_done (s:=convert s d (a.eval x)) (by simp[execOp,ho]) (cvi_ok r hc.1 (eval_ok hf hc.2) e1) hn
 case h_20=>cases hc
 case h_21=>
  split at hc
  case h_2=>cases hc
  rename_i t x lo hi ho;simp only[Bool.and_eq_true]at hc;exact wp_done (s:=Instr.sliceAt t (a.eval x) (lo.map a.eval) (hi.map a.eval) none) (by simp[execOp,ho]) (slc_ok r hc.1.1.1 (eval_ok hf hc.1.1.2) (evalo_ok hf hc.1.2) (evalo_ok hf hc.2) e) hn
 case h_22=>cases hc
 case h_23=>cases hc
 case h_24=>
  split at hc
  case h_2=>cases hc
  rename_i args tys ho;split at hc
  case h_2=>cases hc
  rename_i x t hx ht;obtain rfl:args=#[x]:=Array.ext' hx;obtain rfl:tys=#[t]:=Array.ext' ht;simp only[Bool.and_eq_true]at hc;exact wp_done (s:=Builtin.clear_ #[t] o.type #[a.eval x]) (by simp[execOp,ho,resolve,invoke,builtin]) (clr_ok r hc.1 (eval_ok hf hc.2) e) hn
 case h_25=>
  split at hc
  case h_2=>cases hc
  rename_i args tys ho;split at hc
  case h_2=>cases hc
  rename_i x t hx ht;obtain rfl:args=#[x]:=Array.ext' hx;obtain rfl:tys=#[t]:=Array.ext' ht;simp only[Bool.and_eq_true]at hc;exact wp_done (s:=Builtin.len_ #[t] o.type #[a.eval x]) (by simp[execOp,ho,resolve,invoke,builtin]) (len_ok r hc.1 (eval_ok hf hc.2) e) hn
 case h_26=>
  split at hc
  case h_2=>cases hc
  rename_i args tys ho;split at hc
  case h_2=>cases hc
  rename_i x z t u hx ht;obtain rfl:args=#[x,z]:=Array.ext' hx;obtain rfl:tys=#[t,u]:=Array.ext' ht;simp only[Bool.and_eq_true]at hc;exact wp_done (s:=Builtin.append_ #[t,u] o.type #[a.eval x,a.eval z]) (by simp[execOp,ho,resolve,invoke,builtin]) (app_ok r hc.1.1 (eval_ok hf hc.1.2) (eval_ok hf hc.2) e) hn
 case h_27 x' ys=>
  split at hc
  case h_2=>cases hc
  rename_i args tys ho;have hR:=args_ok hf hc;simp only[osem]at e;split at e
  case h_2=>exact(M.fail_some e).elim
  rename_i kk n hx;obtain⟨z,h1,e1,e2⟩:=M.bind_some e;obtain⟨hz,rfl⟩:=M.lift_some e1;obtain⟨rfl,rfl⟩:=M.ret_some e2;simp only[List.map_cons]at hR;generalize hvs:(args.map a.eval).toList=vs at hR;cases vs with
  |nil=>have:=hR.1;simp at this
  |cons v vs=>
   have h0:=hR.tail.1;rw[hx]at h0;obtain rfl:=h0.int;have hrun:=mn_ok P g.w (ys.map (ev fr)) vs n kk z hz hR.tail.2.1 hR.tail.2.2;exact wp_done (s:=Builtin.min_ tys o.type (args.map a.eval)) (by simp[execOp,ho,resolve,invoke,builtin]) (.same r (v:=.int kk z) (by simp only[Builtin.min_,hvs];exact hrun) mkInt) hn
 case h_28 x' ys=>
  split at hc
  case h_2=>cases hc
  rename_i args tys ho;have hR:=args_ok hf hc;simp only[osem]at e;split at e
  case h_2=>exact(M.fail_some e).elim
  rename_i kk n hx;obtain⟨z,h1,e1,e2⟩:=M.bind_some e;obtain⟨hz,rfl⟩:=M.lift_some e1;obtain⟨rfl,rfl⟩:=M.ret_some e2;simp only[List.map_cons]at hR;generalize hvs:(args.map a.eval).toList=vs at hR;cases vs with
  |nil=>have:=hR.1;simp at this
  |cons v vs=>
   have h0:=hR.tail.1;rw[hx]at h0;obtain rfl:=h0.int;have hrun:=mx_ok P g.w (ys.map (ev fr)) vs n kk z hz hR.tail.2.1 hR.tail.2.2;exact wp_done (s:=Builtin.max_ tys o.type (args.map a.eval)) (by simp[execOp,ho,resolve,invoke,builtin]) (.same r (v:=.int kk z) (by simp only[Builtin.max_,hvs];exact hrun) mkInt) hn
 case h_29 x' i'=>
  split at hc
  case h_2=>cases hc
  rename_i x i ho;simp only[Bool.and_eq_true,beq_iff_eq]at hc;obtain⟨rfl,hx⟩:=hc;simp only[osem]at e;split at e
  case h_2=>exact(M.fail_some e).elim
  rename_i vs hvs;obtain⟨hy,rfl⟩:=M.lift_some e;have h1:=eval_ok hf hx;rw[hvs]at h1;obtain⟨us,hav,hn',hr'⟩:∃us,a.eval x = .tuple us/\us.size=vs.length/\∀(j:Nat) (v:Value) (c:AV),us[j]?=some v->vs[j]?=some c->RA ν g v c:=by
   generalize a.eval x=vv at h1;cases h1 with | tup h1 h2=>exact⟨_,rfl,h1,h2⟩
  have hlt:=lt_of_some hy;have hu:us[i]?=some us[i]:=Array.getElem?_eq_getElem (by omega);exact wp_done (s:=Instr.extract (a.eval x) i) (by simp[execOp,ho]) (.same r (v:=us[i]) (by simp[hav,Instr.extract,hu]) (hr' i _ _ hu hy)) hn
 case h_30=>
  split at hc
  case h_2=>cases hc
  rename_i x ho;have h1:=eval_ok hf hc;simp only[osem]at e;split at e
  ·rename_i id ver i j hx;rw[hx]at h1;obtain⟨ob,h2,e1,e2⟩:=M.bind_some e;obtain⟨hg,rfl⟩:=M.look_some e1;obtain⟨_,h3,e3,e4⟩:=M.bind_some e2;obtain⟨hva,rfl⟩:=M.ok_some e3;obtain⟨rfl,rfl⟩:=M.ret_some e4;have hr:RefAt g (a.eval x) id ver i j:=by
    generalize a.eval x=vv at h1;cases h1 with | ref _ hr=>exact hr
   obtain⟨b,off,hv, -⟩:=hr.move hg hva 0;refine wp_done (s:=pure (a.eval x)) ?_ (.same r rfl h1) hn;simp[execOp,ho,hv]
  ·rename_i cs hx;rw[hx]at h1;obtain⟨rfl,rfl⟩:=M.ret_some e;obtain⟨b,off,hv⟩:=h1.ptr;refine wp_done (s:=pure (a.eval x)) ?_ (.same r rfl h1) hn;simp[execOp,ho,hv]
  ·rename_i f cs hx;rw[hx]at h1;obtain⟨rfl,rfl⟩:=M.ret_some e;have hv:∃caps,a.eval x = .func (.func (ν f)) #[] caps:=by
    generalize a.eval x=v at h1;cases h1 with | iv h=>cases h with | fn f caps cs h1 h2=>exact⟨caps,rfl⟩
   obtain⟨caps,hv⟩:=hv;refine wp_done (s:=pure (a.eval x)) ?_ (.same r rfl h1) hn;simp[execOp,ho,hv]
  ·rename_i f cs hx;rw[hx]at h1;obtain⟨rfl,rfl⟩:=M.ret_some e;have hv:∃caps,a.eval x = .func (.func (ν f)) #[] caps:=by
    generalize a.eval x=v at h1;cases h1 with | clo h1 h2=>exact⟨_,rfl⟩
   obtain⟨caps,hv⟩:=hv;refine wp_done (s:=pure (a.eval x)) ?_ (.same r rfl h1) hn;simp[execOp,ho,hv]
  ·exact(M.fail_some e).elim
 case h_31 f' caps'=>
  split at hc
  case h_2=>cases hc
  rename_i f first caps ho
  simp only[Bool.and_eq_true,beq_iff_eq]at hc;obtain⟨⟨rfl,hfirst⟩,hcaps⟩:=hc;obtain⟨rfl,rfl⟩:=M.ret_some e;have hR:=args_ok hf hcaps;have hfe:first=#[]:=by simpa using hfirst
  subst hfe;refine wp_done (s:=Instr.makeFunc (.func (ν f')) (Array.map a.eval #[]) (caps.map a.eval)) (by simp[execOp,ho]) (.same r (v:=.func (.func (ν f')) #[] (caps.map a.eval)) (by simp[Instr.makeFunc]) ?_) hn;exact .clo (by have:=hR.1;simpa using this) fun j v c h1 h2=>hR.2 j v c (by simpa using h1) h2
 case h_32 mode f' args'=>
  split at hc
  case h_2=>cases hc
  rename_i fo cargs tys ho;simp only[Bool.and_eq_true]at hc;have hfv:=eval_ok hf hc.1;have hR:=args_ok hf hc.2;simp only[osem]at e;split at e
  ·exact wp_call ho (callM_ok hs r e hfv hR) hn
  ·exact wp_call ho (lcallM_ok hs r e hfv hR) hn
  ·exact wp_call ho (ocallM_ok hs r e hfv hR) hn
  ·exact(M.fail_some e).elim
  ·exact wp_call ho (fcallM_ok hs r e hfv hR) hn
 case h_33=>cases hc
 case h_34=>cases hc
 case h_35=>cases hc
 case h_36=>cases hc
 case h_37=>cases hc
 case h_38=>cases hc
end
end Arb
namespace Arb
open Go
def GE {α:Type} (h h':List (Nat×α)):Prop:=∀n,get h n=get h' n
theorem GE.refl {α:Type} (h:List (Nat×α)):GE h h:=fun _=>rfl
theorem GE.symm {α:Type} {h h':List (Nat×α)} (e:GE h h'):GE h' h:=fun n=>(e n).symm
theorem GE.trans {α:Type} {a b c:List (Nat×α)} (e:GE a b) (f:GE b c):GE a c:=fun n=>(e n).trans (f n)
theorem GE.set {α:Type} {h h':List (Nat×α)} (e:GE h h') (n:Nat) (x:α):GE (set h n x) (set h' n x):=fun m=>by simp[get_set,e m]
theorem M.frame {α:Type}:∀(m:M α) (h h' h1:Hp) (a:α),m.run h=some (a,h1)->(∀n ∈ (m.foot h).1,Arb.get h n=Arb.get h' n)->
  ∃h1',m.run h'=some (a,h1')/\m.foot h'=m.foot h/\(∀n ∈ (m.foot h).2,Arb.get h1' n=Arb.get h1 n)/\∀n,n ∉ (m.foot h).2->Arb.get h1' n=Arb.get h' n/\Arb.get h1 n=Arb.get h n
 |.ret x,h,h',h1,a,e,_=>by
  simp only[M.run,Option.some.injEq,Prod.mk.injEq]at e;obtain⟨rfl,rfl⟩:=e;exact⟨h',rfl,rfl,fun n hn=>by simp[M.foot]at hn,fun n _=>⟨rfl,rfl⟩⟩
 |.fail,h,h',h1,a,e,_=>by simp[M.run]at e
 |.get id k,h,h',h1,a,e,hr=>by
  simp only[M.run]at e;simp only[M.foot,List.mem_cons]at hr ⊢;have hid:=hr id (.inl rfl);obtain⟨h1',e1,e2,e3,e4⟩:=M.frame (k (Arb.get h id)) h h' h1 a e fun n hn=>hr n (.inr hn)
  refine⟨h1',?_,?_,e3,e4⟩
  ·simp only[M.run,<-hid];exact e1
  ·simp only[<-hid];rw[e2]
 |.put id o k,h,h',h1,a,e,hr=>by
  simp only[M.run]at e;simp only[M.foot,List.mem_append,List.mem_singleton,not_or]at hr ⊢;obtain⟨h1',e1,e2,e3,e4⟩:=M.frame k (Arb.set h id o) (Arb.set h' id o) h1 a e fun n hn=>by simp[get_set,hr n hn]
  refine⟨h1',e1,by rw[e2],?_,?_⟩
  ·rintro n (hn | rfl)
   ·exact e3 n hn
   ·by_cases hin:n ∈ (k.foot (Arb.set h n o)).2
    ·exact e3 n hin
    ·obtain⟨a1,a2⟩:=e4 n hin;rw[a1,a2];simp[get_set]
  ·intro n hn;obtain⟨a1,a2⟩:=e4 n hn.1;have hne:id≠n:=fun h=>hn.2 h.symm
   exact⟨by rw[a1];simp[get_set,hne],by rw[a2];simp[get_set,hne]⟩
def oneR:Opd->List Nat
 |.t n=>[n]
 |.c _=>[]
def optR:Option Opd->List Nat
 |some x=>oneR x
 |none=>[]
def manyR:List Opd->List Nat
 |[]=>[]
 |x::r=>oneR x++manyR r
def partR {α:Type} (f:α->Opd):List α->List Nat
 |[]=>[]
 |x::r=>oneR (f x)++partR f r
def readsOf:IOp->List Nat
 |.mov x | .box x | .fadr _ x | .fld _ _ _ x | .un _ x | .cvi _ x | .cvs x | .cvb x | .slz _ x | .clr _ _ x | .len _ x | .ext x _ | .nchk x | .load _ _ x=>oneR x
 |.nil0 _ | .alloc _ | .mmk=>[]
 |.mlen x=>oneR x
 |.mget _ _ _ _ x y | .mdel _ x y=>oneR x++oneR y
 |.mput _ x y z=>oneR x++(oneR y++oneR z)
 |.pick c a b=>oneR c++(oneR a++oneR b)
 |.build _ ps=>partR (fun p=>p.2.2) ps
 |.bsl _ _ _ ps=>partR (fun p=>p.2) ps
 |.store _ x y | .iarr _ _ x y | .isl _ x y | .xarr _ _ _ x y | .xstr x y | .bin _ _ x y | .eqc _ _ x y | .app _ x y=>oneR x++oneR y
 |.slc _ x lo hi | .slcs x lo hi=>oneR x++(optR lo++optR hi)
 |.mn x ys | .mx x ys=>oneR x++manyR ys
 |.mkf _ cs=>manyR cs
 |.call _ f U=>oneR f++manyR U
def readsO (o:IOper):List Nat:=readsOf o.op++(match o.gd with | some (t,_)=>[t] | none=>[])
theorem manyR_map {ρ ρ':Opd->AV}:∀{l:List Opd},(∀x:Opd,(∀n ∈ oneR x,n ∈ manyR l)->ρ x=ρ' x)->l.map ρ=l.map ρ'
 |[],_=>rfl
 |x::r,h=>by
  simp only[List.map_cons,h x fun n hn=>by simp[manyR,hn]];rw[manyR_map (l:=r) fun y hy=>h y fun n hn=>by simp[manyR,hy n hn]]
theorem partR_map {α β:Type} {f:α->Opd} {ρ ρ':Opd->AV} {F:α->AV->M β}:∀{l:List α},(∀x:Opd,(∀n ∈ oneR x,n ∈ partR f l)->ρ x=ρ' x)->
  M.mapL (fun p=>F p (ρ (f p))) l=M.mapL (fun p=>F p (ρ' (f p))) l
 |[],_=>rfl
 |x::r,h=>by
  simp only[M.mapL];rw[h (f x) fun n hn=>by simp[partR,hn],partR_map (l:=r) fun y hy=>h y fun n hn=>by simp[partR,hy n hn]]
theorem osem_congr {call:Nat->List AV->Hp->Option (AV×Hp)} {slot:Nat} {ρ ρ':Opd->AV} {op:IOp} (h:∀x:Opd,(∀n ∈ oneR x,n ∈ readsOf op)->ρ x=ρ' x):osem call slot ρ op=osem call slot ρ' op:=by
 cases op<;>simp only[readsOf]at h<;>simp only[osem]
 case pick c a b=>rw[h c fun n hn=>by simp[hn],h a fun n hn=>by simp[hn],h b fun n hn=>by simp[hn]]
 case build z ps=>rw[partR_map (F:=fun p v=>(cellsM v).bind fun l=>(M.ok (l.length==p.2.1&&Nat.ble (p.1+p.2.1) z.length)).bind fun _=>.ret (p.1,l)) h]
 case bsl e z n ps=>rw[partR_map (F:=fun p v=>(cellsM v).bind fun xs=>(M.ok (xs.length==e&&Nat.blt p.1 n)).bind fun _=>(M.mapL (fz true 8) xs).bind fun l=>.ret (p.1,l)) h]
 case slc e x lo hi=>
  rw[h x fun n hn=>by simp[hn]];have h1:lo.map ρ=lo.map ρ':=by cases lo with | none=>rfl | some l=>simp[h l fun n hn=>by simp[optR,hn]]
  have h2:hi.map ρ=hi.map ρ':=by cases hi with | none=>rfl | some l=>simp[h l fun n hn=>by simp[optR,hn]]
  rw[h1,h2]
 case slcs x lo hi=>
  rw[h x fun n hn=>by simp[hn]];have h1:lo.map ρ=lo.map ρ':=by cases lo with | none=>rfl | some l=>simp[h l fun n hn=>by simp[optR,hn]]
  have h2:hi.map ρ=hi.map ρ':=by cases hi with | none=>rfl | some l=>simp[h l fun n hn=>by simp[optR,hn]]
  rw[h1,h2]
 case mn x ys=>rw[h x fun n hn=>by simp[hn],manyR_map (l:=ys) fun y hy=>h y fun n hn=>by simp[hy n hn]]
 case mx x ys=>rw[h x fun n hn=>by simp[hn],manyR_map (l:=ys) fun y hy=>h y fun n hn=>by simp[hy n hn]]
 case mkf f ys=>rw[manyR_map (l:=ys) h]
 case call mode f ys=>rw[h f fun n hn=>by simp[hn],manyR_map (l:=ys) fun y hy=>h y fun n hn=>by simp[hy n hn]]
 case mput qs x y z=>rw[h x fun n hn=>by simp[hn],h y fun n hn=>by simp[hn],h z fun n hn=>by simp[hn]]
 case mget ok agg qs z x y=>rw[h x fun n hn=>by simp[hn],h y fun n hn=>by simp[hn]]
 case mdel qs x y=>rw[h x fun n hn=>by simp[hn],h y fun n hn=>by simp[hn]]
 case store sz x y=>rw[h x fun n hn=>by simp[hn],h y fun n hn=>by simp[hn]]
 case iarr len e x y=>rw[h x fun n hn=>by simp[hn],h y fun n hn=>by simp[hn]]
 case isl e x y=>rw[h x fun n hn=>by simp[hn],h y fun n hn=>by simp[hn]]
 case xarr a len e x y=>rw[h x fun n hn=>by simp[hn],h y fun n hn=>by simp[hn]]
 case xstr x y=>rw[h x fun n hn=>by simp[hn],h y fun n hn=>by simp[hn]]
 case bin op q x y=>rw[h x fun n hn=>by simp[hn],h y fun n hn=>by simp[hn]]
 case eqc neg qs x y=>rw[h x fun n hn=>by simp[hn],h y fun n hn=>by simp[hn]]
 case app e x y=>rw[h x fun n hn=>by simp[hn],h y fun n hn=>by simp[hn]]
 all_goals first | rfl | (rename_i x;rw[h x fun n hn=>hn]) | (rename_i x _;rw[h x fun n hn=>hn])
def SE (s s':St):Prop:=GE s.fr s'.fr/\GE s.hp s'.hp/\s.nx=s'.nx
theorem SE.refl (s:St):SE s s:=⟨.refl _,.refl _,rfl⟩
theorem SE.symm {s s':St} (h:SE s s'):SE s' s:=⟨h.1.symm,h.2.1.symm,h.2.2.symm⟩
theorem SE.trans {a b c:St} (h:SE a b) (h':SE b c):SE a c:=⟨h.1.trans h'.1,h.2.1.trans h'.2.1,h.2.2.trans h'.2.2⟩
theorem GE.putD {fr fr':Fr} (e:GE fr fr') (d:Option Nat) (v:AV):GE (putD fr d v) (putD fr' d v):=by
 cases d with
 |none=>exact e
 |some d=>exact e.set d v
theorem putD_ne {fr:Fr} {d:Option Nat} {v:AV} {n:Nat} (h:d≠some n):get (putD fr d v) n=get fr n:=by
 cases d with
 |none=>rfl
 |some d=>simp[Arb.putD,get_set,show d≠n from fun e=>h (by rw[e])]
theorem putD_comm {fr:Fr} {d d':Option Nat} {v v':AV} (h:d≠d'\/d=none):GE (putD (putD fr d v) d' v') (putD (putD fr d' v') d v):=by
 intro n;cases d with
 |none=>rfl
 |some d=>
  cases d' with
  |none=>rfl
  |some d'=>
   have hne:d≠d':=fun e=>by rcases h with h | h;exact h (by rw[e]);cases h
   simp only[Arb.putD,get_set];by_cases h1:d'=n
   ·have:d≠n:=fun e=>hne (e.trans h1.symm)
    simp[h1,this]
   ·simp[h1]
theorem ev_same {fr fr':Fr} {l:List Nat} (h:∀n ∈ l,get fr n=get fr' n) (x:Opd) (hx:∀n ∈ oneR x,n ∈ l):ev fr x=ev fr' x:=by
 cases x with
 |c v=>rfl
 |t n=>simp only[ev];rw[h n (hx n (by simp[oneR]))]
abbrev Feet:=List Nat×List Nat
section
variable {call:Nat->List AV->Hp->Option (AV×Hp)}
theorem step_like {slot:Nat} {o:IOper} {s s' s1:St} (e:step call slot o s=some s1) (hf:∀n ∈ readsO o,get s.fr n=get s'.fr n)
  (hh:∀n ∈ (footOf call slot o s).1,get s.hp n=get s'.hp n) :
  ∃s1' v,step call slot o s'=some s1'/\footOf call slot o s'=footOf call slot o s/\s1.fr=putD s.fr o.dst v/\s1'.fr=putD s'.fr o.dst v/\s1.nx=s.nx/\s1'.nx=s'.nx/\
   (∀n ∈ (footOf call slot o s).2,get s1'.hp n=get s1.hp n)/\∀n,n ∉ (footOf call slot o s).2->get s1'.hp n=get s'.hp n/\get s1.hp n=get s.hp n:=by
 have hw:wants s'.fr o.gd=wants s.fr o.gd:=by
  cases hg:o.gd with
  |none=>rfl
  |some g=>
   simp only[wants];rw[hf g.1 (by simp[readsO,hg])]
 have ho:osem call slot (ev s'.fr) o.op=osem call slot (ev s.fr) o.op:=osem_congr fun x hx=>(ev_same hf x fun n hn=>by simp[readsO,hx n hn]).symm
 unfold step at e ⊢;unfold footOf at hh ⊢;rw[hw,ho];cases hwv:wants s.fr o.gd with
 |none=>rw[hwv]at e;cases e
 |some b=>
  rw[hwv]at e hh;cases b with
  |false=>
   simp only[Option.some.injEq]at e;subst e;exact⟨_,.tup [],rfl,rfl,rfl,rfl,rfl,rfl,fun n h0=>by simp at h0,fun n _=>⟨rfl,rfl⟩⟩
  |true=>
   simp only[]at e hh ⊢;cases hr:(osem call slot (ev s.fr) o.op).run s.hp with
   |none=>rw[hr]at e;cases e
   |some p=>
    obtain⟨v,h1⟩:=p;rw[hr]at e;simp only[Option.some.injEq]at e;subst e;obtain⟨h1',e1,e2,e3,e4⟩:=M.frame _ _ s'.hp _ _ hr hh;rw[e1];exact⟨_,v,rfl,e2,rfl,rfl,rfl,rfl,e3,e4⟩
theorem step_ext {slot:Nat} {o:IOper} {s s' s1:St} (e:step call slot o s=some s1) (h:SE s s') :
  ∃s1',step call slot o s'=some s1'/\footOf call slot o s'=footOf call slot o s/\SE s1 s1':=by
 obtain⟨s1',v,e1,e2,e3,e4,e5,e6,e7,e8⟩:=step_like e (fun n _=>h.1 n) fun n _=>h.2.1 n
 refine⟨s1',e1,e2,?_,?_,?_⟩
 ·rw[e3,e4];exact h.1.putD _ _
 ·intro n;by_cases hn:n ∈ (footOf call slot o s).2
  ·exact(e7 n hn).symm
  ·rw[(e8 n hn).1,(e8 n hn).2];exact h.2.1 n
 ·rw[e5,e6];exact h.2.2
def apartT (x y:IOper):Bool:=
 (match x.dst with | some d=>!(readsO y).contains d&&y.dst != some d | none=>true)&&(match y.dst with | some d=>!(readsO x).contains d | none=>true)
theorem apartT_spec {x y:IOper} (h:apartT x y=true):(∀d,x.dst=some d->d ∉ readsO y)/\(x.dst≠y.dst\/x.dst=none)/\∀d,y.dst=some d->d ∉ readsO x:=by
 unfold apartT at h;simp only[Bool.and_eq_true]at h;obtain⟨h1,h2⟩:=h;refine⟨fun d hd=>?_,?_,fun d hd=>?_⟩
 ·rw[hd]at h1;simp at h1;exact h1.1
 ·cases hx:x.dst with
  |none=>exact .inr rfl
  |some d=>
   rw[hx]at h1;simp at h1;exact .inl fun e=>h1.2 e.symm
 ·rw[hd]at h2;simpa using h2
theorem meets_spec {a b:List Nat} (h:meets a b=false):∀n ∈ a,n ∉ b:=by
 intro n hn hb;have:meets a b=true:=by simp only[meets,List.any_eq_true,List.contains_iff_mem];exact⟨n,hn,hb⟩
 rw[h]at this;cases this
theorem swap {sx sy:Nat} {x y:IOper} {s s1 s2:St} (e1:step call sx x s=some s1) (e2:step call sy y s1=some s2) (hT:apartT x y=true)
  (hc:clash (footOf call sx x s) (footOf call sy y s1)=false) :
  ∃t1 t2,step call sy y s=some t1/\footOf call sy y s=footOf call sy y s1/\step call sx x t1=some t2/\footOf call sx x t1=footOf call sx x s/\SE s2 t2:=by
 obtain⟨a1,a2,a3⟩:=apartT_spec hT;simp only[clash,Bool.or_eq_false_iff]at hc;have c1:=meets_spec hc.1;have c2:=meets_spec hc.2;obtain⟨_,v,_,_,f1,_,n1,_,_,w1⟩:=step_like (s':=s) e1 (fun n _=>rfl) fun n _=>rfl
 obtain⟨t1,u,e3,e4,f2,f3,n2,n3,w2,w3⟩:=step_like (s':=s) e2 (fun n hn=>by
   rw[f1];exact putD_ne fun h=>a1 n h hn) (fun n hn=>(w1 n fun hm=>c1 n hm (by simp[hn])).2)
 obtain⟨t2,v',e5,e6,f4,f5,n4,n5,w4,w5⟩:=step_like (s':=t1) e1 (fun n hn=>by
   rw[f3];exact(putD_ne fun h=>a3 n h hn).symm) (fun n hn=>((w3 n fun hm=>c2 n hm (by simp[hn])).1).symm)
 refine⟨t1,t2,e3,e4,e5,e6,?_,?_,?_⟩
 ·have hv:putD (putD s.fr y.dst u) x.dst v'=putD (putD s.fr y.dst u) x.dst v\/x.dst=none:=by
   cases hx:x.dst with
   |none=>exact .inr rfl
   |some d=>
    rw[f1,hx]at f4;have:=congrArg (fun l=>get l d) f4;simp[Arb.putD,get_set_same]at this;exact .inl (by rw[this])
  rw[f2,f5,f1,f3];rcases hv with hv | hv
  ·rw[hv];exact putD_comm a2
  ·rw[hv];exact .refl _
 ·intro n;by_cases hx:n ∈ (footOf call sx x s).2
  ·have hy:n ∉ (footOf call sy y s1).2:=fun h=>c1 n hx (by simp[h])
   rw[w4 n hx,(w3 n hy).2]
  ·rw[(w5 n hx).1];by_cases hy:n ∈ (footOf call sy y s1).2
   ·rw[w2 n hy]
   ·rw[(w3 n hy).1,(w3 n hy).2,(w1 n hx).2]
 ·rw[n2,n1,n5,n3]
inductive Run (call:Nat->List AV->Hp->Option (AV×Hp)) (s0:Nat):List (Nat×IOper×Feet)->St->St->Prop
 |nil {s s':St} (h:SE s s'):Run call s0 [] s s'
 |cons {i:Nat} {o:IOper} {f:Feet} {r:List (Nat×IOper×Feet)} {s s1 s':St} (e:step call (s0+64*i) o s=some s1) (hf:footOf call (s0+64*i) o s=f)
   (hr:Run call s0 r s1 s'):Run call s0 ((i,o,f)::r) s s'
theorem Run.ext {s0:Nat} {l:List (Nat×IOper×Feet)} {s t s':St} (h:Run call s0 l s s') (e:SE s t):Run call s0 l t s':=by
 induction h generalizing t with
 |nil h=>exact .nil (e.symm.trans h)
 |cons e1 hf _ ih=>
  obtain⟨t1,e2,e3,e4⟩:=step_ext e1 e;exact .cons e2 (e3.trans hf) (ih e4)
def Apart (x y:Nat×IOper×Feet):Prop:=apartT x.2.1 y.2.1=true/\clash x.2.2 y.2.2=false
theorem Run.front {s0:Nat} {x:Nat×IOper×Feet} {l2:List (Nat×IOper×Feet)} {s':St}:∀(l1:List (Nat×IOper×Feet)) (s:St),Run call s0 (l1++x::l2) s s'->(∀y ∈ l1,Apart y x)->
  ∃s1,step call (s0+64*x.1) x.2.1 s=some s1/\footOf call (s0+64*x.1) x.2.1 s=x.2.2/\Run call s0 (l1++l2) s1 s'
 |[],s,h,_=>by
  cases h with
  |cons e hf hr=>exact⟨_,e,hf,hr⟩
 |y::l1,s,h,ha=>by
  cases h with
  |cons e hf hr=>
   obtain⟨t1,e2,f2,r2⟩:=Run.front l1 _ hr fun z hz=>ha z (by simp[hz])
   obtain⟨h1,h2⟩:=ha _ (List.mem_cons_self ..);obtain⟨u1,u2,e3,e4,e5,e6,e7⟩:=swap e e2 h1 (by rw[hf,f2];exact h2);exact⟨u1,e3,e4.trans f2,.cons e5 (e6.trans hf) (r2.ext e7)⟩
end
end Arb
