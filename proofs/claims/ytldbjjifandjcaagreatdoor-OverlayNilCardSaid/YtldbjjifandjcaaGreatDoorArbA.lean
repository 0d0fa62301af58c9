/-
  A part of the proof: two abstract machines for the code, and what the program does on them. No condition.
-/
import Derived.Below
import Derived.Eval
import Derived.Orders
import Derived.Sort.Defs
import Derived.Lib.BitFns
import Derived.Laws.Rows
import Derived.Laws.Tables
import Derived.Laws.Cells
import Derived.Laws.IdiomCopy
import Derived.Laws.Small
import Derived.Laws.StructEq
import Derived.Laws.Slices
import Derived.Laws.Append
import Derived.WideKeyRuns
import Derived.Laws.BytesArg
import Derived.WalkLawsBesides
import Derived.WalkSpells
import Derived.Laws.LoneSync
import Derived.Lib.Builder
import Derived.Lib.UnsafeStr
import Derived.Scope
import Derived.WalkKit
import Derived.ProofKit
import Derived.OpenShut
import Derived.Maps.RangeRun
import Derived.IntWalk
import Derived.MapKept
import Derived.Laws.AppendOwn
import Derived.Shelf.SlIterI.Nil
import Derived.Shelf.SlIterI.Sorted
import Derived.Shelf.SortM.Plain
import Derived.Shelf.SortM.SortNone
import Derived.Test.YtldbjjifandjcaaGreatDoorProg
import Derived.Test.YtldbjjifandjcaaGreatDoorChecked
import Derived.KernelRfl
import Derived.Test.YtldbjjifandjcaaGreatDoorRows
import Derived.ShutString
import Derived.ChangeOld
import Derived.Carry
import Derived.Test.YtldbjjifandjcaaGreatDoorCards
import Derived.Test.YtldbjjifandjcaaGreatDoorTie
import Derived.SevenTiedAt
import Derived.LaidMore
import Derived.Stop.Joined
set_option linter.all false
namespace ao
open Go
inductive IV where
 |bool (b:Bool)
 |int (k:IntKind) (n:Int)
 |str (s:ByteArray)
 |aq (e:Nat)
 |sl (e:Nat) (es:List (List IV))
 |bc
 |ptr (cs:List IV)
 |fn (f:Nat) (ax:List IV)
 |junk
 deriving Inhabited
inductive AV where
 |undef
 |iv (x:IV)
 |agg (cs:List AV)
 |aR (vs:List AV)
 |own (id o n v:Nat)
 |ref (id v i j:Nat)
 |bp (f:Nat) (ax:List AV)
 deriving Inhabited
abbrev AV.nI (n:Int):AV:=.iv (.int .i64 n)
abbrev AV.bI (b:Bool):AV:=.iv (.bool b)
inductive Ob where
 |cells (cs:List AV)
 |buf (v e:Nat) (es:List (List IV))
 |aZ (v e:Nat) (es:List (List IV))
 |map (aL:List (AV×AV))
 deriving Inhabited
def get {α:Type}:List (Nat×α)->Nat->Option α
 |[],_=>none
 |x::r,n=>if x.1=n then some x.2 else get r n
def set {α:Type}:List (Nat×α)->Nat->α->List (Nat×α)
 |[],n,v=>[(n,v)]
 |x::r,n,v=>if x.1=n then(n,v)::r else x::set r n v
abbrev Hp:=List (Nat×Ob)
abbrev Fr:=List (Nat×AV)
inductive M (α:Type) where
 |ret (a:α)
 |fail
 |get (id:Nat) (k:Option Ob->M α)
 |put (id:Nat) (o:Ob) (k:M α)
namespace M
def bind {α β:Type}:M α->(α->M β)->M β
 |.ret a,f=>f a
 |.fail,_=>.fail
 |.get id k,f=>.get id λo=>(k o).bind f
 |.put id o k,f=>.put id o (k.bind f)
instance:Monad M where
 pure:=M.ret
 bind:=M.bind
def run {α:Type}:M α->Hp->Option (α×Hp)
 |.ret a,h=>some (a,h)
 |.fail,_=>none
 |.get id k,h=>(k (ao.get h id)).run h
 |.put id o k,h=>k.run (ao.set h id o)
def bz {α:Type}:M α->Hp->List Nat×List Nat
 |.ret _,_=>([],[])
 |.fail,_=>([],[])
 |.get id k,h=>let r:=(k (ao.get h id)).bz h;(id::r.1,r.2)
 |.put id o k,h=>let r:=k.bz (ao.set h id o);(r.1,r.2++[id])
def ok (b:Bool):M Unit:=if b then .ret () else .fail
def lift {α:Type}:Option α->M α
 |some a=>.ret a
 |none=>.fail
def look (id:Nat):M Ob:=.get id fun | some o=>.ret o | none=>.fail
def fresh (id:Nat):M Unit:=.get id fun | some _=>.fail | none=>.ret ()
def write (id:Nat) (o:Ob):M Unit:=.put id o (.ret ())
def aJ {α β:Type} (f:α->M β):List α->M (List β)
 |[]=>.ret []
 |x::r=>(f x).bind λy=>(aJ f r).bind λys=>.ret (y::ys)
end M
def bU:AV->M (List AV)
 |.agg cs=>.ret cs
 |.undef=>.fail
 |.aR _=>.fail
 |x=>.ret [x]
def mk (agg:Bool) (l:List AV):M AV:=
 if agg then .ret (.agg l) else match l with
  |[x]=>.ret x
  |_=>.fail
def fz (w:Bool):Nat->AV->M IV
 |0,_=>.fail
 |n+1,a=>match a with
  |.iv (.aq e)=>.ret (.sl e [])
  |.iv x=>.ret x
  |.own id o m ai=>(M.look id).bind fun
   |.buf v e es=>(M.ok (v==ai)).bind λ_=>if w then(M.write id (.aZ v e es)).bind λ_=>.ret (.sl e ((es.drop o).take m)) else .ret (.sl e ((es.drop o).take m))
   |.aZ v e es=>(M.ok (v==ai)).bind λ_=>.ret (.sl e ((es.drop o).take m))
   |.cells _=>.fail
   |.map _=>.fail
  |.ref id ai i j=>(M.look id).bind fun
   |.buf v e es=>(M.ok (v==ai)).bind λ_=>(M.lift es[i]?).bind λc=>if w then(M.write id (.aZ v e es)).bind λ_=>.ret (.ptr (c.drop j)) else .ret (.ptr (c.drop j))
   |.aZ v _ es=>(M.ok (v==ai)).bind λ_=>(M.lift es[i]?).bind λc=>.ret (.ptr (c.drop j))
   |.cells cs=>(M.ok (ai==0&&i==0)).bind λ_=>(M.aJ (fz w n) cs).bind λxs=>if w then(M.look id).bind fun
    |.cells _=>(M.write id (.aZ 0 xs.length [xs])).bind λ_=>.ret (.ptr (xs.drop j))
    |_=>.fail
    else .ret (.ptr (xs.drop j))
   |.map _=>.fail
  |.bp f ax=>(M.aJ (fz w n) ax).bind λxs=>.ret (.fn f xs)
  |_=>.fail
def gL (w:Bool) (a:AV):M AV:=(fz w 8 a).bind λx=>.ret (.iv x)
def ek (w:Bool) (a:AV):M AV:=match a with
 |.agg cs=>(M.aJ (gL w) cs).bind λl=>.ret (.agg l)
 |a=>gL w a
def IA (w:Bool) (a:AV):M AV:=match a with
 |.aR vs=>(M.aJ (ek w) vs).bind λl=>.ret (.aR l)
 |a=>ek w a
def l6:IV->Bool
 |.bool _ | .int _ _ | .str _ | .bc=>true
 |_=>false
def jE:AV->Bool
 |.iv x=>l6 x
 |_=>false
def jf:AV->Bool
 |.agg cs=>cs.all jE
 |x=>jE x
def flat:AV->Bool
 |.aR vs=>vs.all jf
 |x=>jf x
inductive aH where
 |t (n:Nat)
 |c (v:IV)
 deriving Inhabited
inductive jF where
 |nU (x:aH)
 |wu (e:Nat)
 |pick (c a b:aH)
 |alloc (z:List IV)
 |box (x:aH)
 |build (z:List IV) (ps:List (Nat×Nat×aH))
 |nV (e:Nat) (z:List IV) (len:Nat) (ps:List (Nat×aH))
 |load (agg:Bool) (sz:Nat) (a:aH)
 |store (sz:Nat) (a x:aH)
 |eD (off:Nat) (x:aH)
 |fk (agg:Bool) (off sz:Nat) (x:aH)
 |eE (len e:Nat) (x i:aH)
 |gX (e:Nat) (x i:aH)
 |eF (agg:Bool) (len e:Nat) (x i:aH)
 |fH (x i:aH)
 |bin (op:BinOp) (q:Nat) (x y:aH)
 |oi (neg:Bool) (qs:List Nat) (x y:aH)
 |un (op:UnOp) (x:aH)
 |qO (k:IntKind) (x:aH)
 |tC (x:aH)
 |hU (e:Nat) (x:aH) (lo hi:Option aH)
 |fR (x:aH) (lo hi:Option aH)
 |lh (e:Nat) (x:aH)
 |kV (e:Nat) (z:List IV) (x:aH)
 |len (str:Bool) (x:aH)
 |app (e:Nat) (x y:aH)
 |mn (x:aH) (ys:List aH)
 |mx (x:aH) (ys:List aH)
 |ext (x:aH) (i:Nat)
 |mz (x:aH)
 |oj (f:Nat) (ax:List aH)
 |call (mode:Nat) (f:aH) (args:List aH)
 |sY (x:aH)
 |sZ
 |gT (ok agg:Bool) (qs:List Nat) (z:List IV) (m k:aH)
 |gU (qs:List Nat) (m k v:aH)
 |gV (qs:List Nat) (m k:aH)
 |qh (m:aH)
 deriving Inhabited
structure au where
 dst:Option Nat
 op:jF
 gd:Option (Nat×Bool):=none
 iU:List Nat:=[]
 deriving Inhabited
inductive IC where
 |skip
 |gm (draw:Bool) (ops:List au) (keep:List Nat)
 |seq (a b:IC)
 |cond (c:aH) (a b:IC)
 |block (id:Nat) (b:IC)
 |loop (keep:List Nat) (b:IC)
 |exit (id:Nat)
 |ret
 deriving Inhabited
inductive dZ where
 |t (n:Nat)
 |cell (n:Nat) (agg:Bool) (sz:Nat)
 |keep (n:Nat)
 |wv (n:Nat) (agg:Bool) (sz:Nat)
 deriving Inhabited
structure al where
 np:Nat
 res:List dZ
 body:IC
 cl:Option (Nat×List IV)
 deriving Inhabited
structure St where
 fr:Fr
 hp:Hp
 nx:Nat
def ev (fr:Fr):aH->AV
 |.t n=>(get fr n).getD .undef
 |.c v=>.iv v
def ep:Nat->List AV->M (List AV)
 |_,[]=>.ret []
 |s,.iv (.aq e)::r=>(M.fresh s).bind λ_=>(M.write s (.buf 0 e [])).bind λ_=>(ep (s+1) r).bind λrs=>.ret (.own s 0 0 0::rs)
 |s,x::r=>(ep (s+1) r).bind λrs=>.ret (x::rs)
def cn {α:Type} (cs:List α) (j:Nat) (l:List α):List α:=cs.take j++l++cs.drop (j+l.length)
def cP (o:Ob) (ai i j sz:Nat):Option (List AV):=
 match o with
 |.cells cs=>if ai=0/\i=0 then some ((cs.drop j).take sz) else none
 |.buf v _ es | .aZ v _ es=>if v=ai then(es[i]?).map λc=>((c.drop j).take sz).map .iv else none
 |.map _=>none
def load (agg:Bool) (sz:Nat):AV->M AV
 |.ref id ai i j=>(M.look id).bind λo=>(M.lift (cP o ai i j sz)).bind λl=>(M.ok (l.length==sz)).bind λ_=>mk agg l
 |.iv (.ptr cs)=>(M.ok ((cs.take sz).length==sz)).bind λ_=>mk agg ((cs.take sz).map .iv)
 |_=>.fail
def store (slot sz:Nat) (a x:AV):M AV:=
 (bU x).bind λxs=>(M.ok (xs.length==sz)).bind λ_=>
 match a with
 |.ref id ai i j=>(M.look id).bind fun
  |.cells cs=>(M.ok (Nat.ble (j+sz) cs.length)).bind λ_=>(ep slot xs).bind λl=>(M.write id (.cells (cn cs j l))).bind λ_=>.ret (.aR [])
  |.buf _ _ _=>(M.aJ (fz true 8) xs).bind λl=>(M.look id).bind fun
   |.buf v e es=>(M.ok (v==ai&&Nat.ble (j+sz) e)).bind λ_=>(M.lift es[i]?).bind λc=>(M.write id (.buf v e (es.set i (cn c j l)))).bind λ_=>.ret (.aR [])
   |_=>.fail
  |_=>.fail
 |_=>.fail
def valid (o:Ob) (ai i:Nat):Bool:=
 match o with
 |.cells _=>ai==0&&i==0
 |.buf v _ _ | .aZ v _ _=>v==ai
 |.map _=>false
def eD (off:Nat):AV->M AV
 |.ref id ai i j=>(M.look id).bind λo=>(M.ok (valid o ai i)).bind λ_=>.ret (.ref id ai i (j+off))
 |.iv (.ptr cs)=>(M.ok (Nat.ble off cs.length)).bind λ_=>.ret (.iv (.ptr (cs.drop off)))
 |_=>.fail
def fk (agg:Bool) (off sz:Nat):AV->M AV
 |.agg cs=>(M.ok (((cs.drop off).take sz).length==sz)).bind λ_=>mk agg ((cs.drop off).take sz)
 |_=>.fail
def idx:AV->M Int
 |.iv (.int _ n)=>.ret n
 |_=>.fail
def eE (len e:Nat) (x i:AV):M AV:=
 (idx i).bind λn=>(M.ok (decide (0<=n/\n<len))).bind λ_=>
 match x with
 |.ref id ai i j=>(M.look id).bind λo=>(M.ok (valid o ai i)).bind λ_=>.ret (.ref id ai i (j+n.toNat*e))
 |.iv (.ptr cs)=>(M.ok (Nat.ble (n.toNat*e) cs.length)).bind λ_=>.ret (.iv (.ptr (cs.drop (n.toNat*e))))
 |_=>.fail
def gX (e:Nat) (x i:AV):M AV:=
 (idx i).bind λn=>(M.ok (decide (0<=n))).bind λ_=>
 match x with
 |.own id o m ai=>(M.ok (decide (n<m))).bind λ_=>(M.look id).bind fun
  |.buf v e' _ | .aZ v e' _=>(M.ok (v==ai&&e'==e)).bind λ_=>.ret (.ref id ai (o+n.toNat) 0)
  |_=>.fail
 |.iv (.sl e' es)=>(M.ok (e'==e)).bind λ_=>(M.lift es[n.toNat]?).bind λc=>.ret (.iv (.ptr c))
 |_=>.fail
def eF (agg:Bool) (len e:Nat) (x i:AV):M AV:=
 (idx i).bind λn=>(M.ok (decide (0<=n/\n<len))).bind λ_=>fk agg (n.toNat*e) e x
def fH:AV->AV->M AV
 |.iv (.str s),.iv (.int _ n)=>(M.ok (decide (0<=n))).bind λ_=>match s[n.toNat]? with
  |some b=>.ret (.iv (.int .u8 b.toNat))
  |none=>.fail
 |_,_=>.fail
def ew (op:BinOp) (k k':IntKind) (a b:Int):Option IV:=
 match op with
 |.shl=>if b<0 then none else some (.int k (k.wrap (a*2 ^ min b.toNat k.bits)))
 |.shr=>if b<0 then none else some (.int k (a.fdiv (2 ^ min b.toNat k.bits)))
 |op=>if k=k' then match op with
   |.add=>some (.int k (k.wrap (a+b)))
   |.sub=>some (.int k (k.wrap (a - b)))
   |.mul=>some (.int k (k.wrap (a*b)))
   |.quo=>if b=0 then none else some (.int k (k.wrap (a.tdiv b)))
   |.rem=>if b=0 then none else some (.int k (a.tmod b))
   |.eql=>some (.bool (a==b))
   |.neq=>some (.bool (a != b))
   |.lss=>some (.bool (decide (a<b)))
   |.leq=>some (.bool (decide (a<=b)))
   |.gtr=>some (.bool (decide (a > b)))
   |.geq=>some (.bool (decide (a ≥ b)))
   |op=>some (.int k (bits op k a b))
  else none
def po (a b:ByteArray):Bool:=Op.bytesLess a.toList b.toList
def hY (op:BinOp) (a b:ByteArray):Option IV:=
 match op with
 |.add=>if a.size+b.size<=4611686018427387904 then some (.str (a++b)) else none
 |.eql=>some (.bool (a==b))
 |.neq=>some (.bool (!(a==b)))
 |.lss=>some (.bool (po a b))
 |.leq=>some (.bool (po a b||a==b))
 |.gtr=>some (.bool (!(po a b||a==b)))
 |.geq=>some (.bool (!po a b))
 |_=>none
def bin (op:BinOp) (q:Nat) (x y:AV):Option IV:=
 match q,x,y with
 |0,.iv (.int k a),.iv (.int k' b)=>ew op k k' a b
 |0,.iv (.str a),.iv (.str b)=>hY op a b
 |1,.iv (.bool a),.iv (.bool b)=>match op with
  |.eql=>some (.bool (a==b))
  |.neq=>some (.bool (!(a==b)))
  |_=>none
 |2,.iv .bc,.iv .bc=>match op with
  |.eql=>some (.bool true)
  |.neq=>some (.bool false)
  |_=>none
 |2,.iv (.ptr _),.iv .bc | 2,.iv .bc,.iv (.ptr _)=>match op with
  |.eql=>some (.bool false)
  |.neq=>some (.bool true)
  |_=>none
 |_,_,_=>none
def jv (q:Nat) (x y:AV):Option Bool:=
 match q,x,y with
 |0,.iv (.int k a),.iv (.int k' b)=>if k=k' then some (a==b) else none
 |1,.iv (.bool a),.iv (.bool b)=>some (a==b)
 |2,.iv (.str a),.iv (.str b)=>some (a==b)
 |_,_,_=>none
def eqs:List Nat->List AV->List AV->Option Bool
 |[],[],[]=>some true
 |q::qs,x::xs,y::ys=>(jv q x y).bind λb=>(eqs qs xs ys).bind λc=>some (b&&c)
 |_,_,_=>none
def un (op:UnOp):AV->Option IV
 |.iv (.int k a)=>match op with
  |.neg=>some (.int k (k.wrap (0 - a)))
  |.xor=>some (.int k (bits .xor k (if k.signed then -1 else k.max) a))
  |_=>none
 |.iv (.bool b)=>match op with
  |.not=>some (.bool !b)
  |_=>none
 |_=>none
def bound (y:Nat):Option AV->M (Option Nat)
 |none=>.ret none
 |some (.iv (.int _ n))=>(M.ok (decide (0<=n/\n<=y))).bind λ_=>.ret (some n.toNat)
 |some _=>.fail
def hU (e:Nat) (x:AV) (lo hi:Option AV):M AV:=
 match x with
 |.own id o m ai=>(bound m hi).bind λh=>(bound (h.getD m) lo).bind λl=>(M.look id).bind fun
  |.buf v e' _ | .aZ v e' _=>(M.ok (v==ai&&e'==e)).bind λ_=>.ret (.own id (o+l.getD 0) (h.getD m - l.getD 0) ai)
  |_=>.fail
 |.iv (.sl e' es)=>(M.ok (e'==e)).bind λ_=>(bound es.length hi).bind λh=>(bound (h.getD es.length) lo).bind λl=>.ret (.iv (.sl e ((es.take (h.getD es.length)).drop (l.getD 0))))
 |_=>.fail
def fR (x:AV) (lo hi:Option AV):M AV:=
 match x with
 |.iv (.str s)=>(bound s.size hi).bind λh=>(bound (h.getD s.size) lo).bind λl=>.ret (.iv (.str (s.extract (l.getD 0) (h.getD s.size))))
 |_=>.fail
def lh (e:Nat):AV->M AV
 |.own id _ _ ai=>(M.look id).bind λo=>(M.ok (valid o ai 0)).bind λ_=>(match o with | .cells _=>.fail | .map _=>.fail | _=>.ret (.iv (.aq e)))
 |.iv (.sl _ _)=>.ret (.iv (.aq e))
 |.iv (.aq _)=>.ret (.iv (.aq e))
 |_=>.fail
def kV (e:Nat) (z:List IV):AV->M AV
 |.own id o n ai=>(M.look id).bind fun
  |.buf v e' es=>(M.ok (v==ai&&e'==e&&z.length==e)).bind λ_=>(M.write id (.buf v e (es.take o++List.replicate n z++es.drop (o+n)))).bind λ_=>.ret (.aR [])
  |_=>.fail
 |_=>.fail
def len (str:Bool) (x:AV):M AV:=
 match str,x with
 |false,.own id _ n ai=>(M.look id).bind fun
  |.buf v _ _ | .aZ v _ _=>(M.ok (v==ai)).bind λ_=>.ret (.iv (.int .i64 n))
  |_=>.fail
 |false,.iv (.sl _ es)=>.ret (.iv (.int .i64 es.length))
 |false,.iv (.aq _)=>.ret (.iv (.int .i64 0))
 |true,.iv (.str s)=>.ret (.iv (.int .i64 s.size))
 |_,_=>.fail
def elems (e:Nat):AV->M (List (List IV))
 |.own id o n ai=>(M.look id).bind fun
  |.buf v e' es | .aZ v e' es=>(M.ok (v==ai&&e'==e)).bind λ_=>.ret ((es.drop o).take n)
  |_=>.fail
 |.iv (.sl e' es)=>(M.ok (e'==e)).bind λ_=>.ret es
 |.iv (.aq _)=>.ret []
 |_=>.fail
def roomy (n:Nat):Bool:=Nat.ble n 1073741824
def app (e slot:Nat) (x y:AV):M AV:=
 (elems e y).bind λys=>
 match x with
 |.iv (.aq _)=>(M.ok (roomy ys.length)).bind λ_=>(M.fresh slot).bind λ_=>(M.write slot (.buf 0 e ys)).bind λ_=>.ret (.own slot 0 ys.length 0)
 |.own id o n ai=>(M.look id).bind fun
  |.buf v e' es=>(M.ok (v==ai&&e'==e&&o==0&&roomy (n+ys.length))).bind λ_=>(M.write id (.buf (v+1) e (es.take n++ys))).bind λ_=>.ret (.own id 0 (n+ys.length) (v+1))
  |_=>.fail
 |_=>.fail
def mP:Int->List AV->IntKind->Option Int
 |a,[],_=>some a
 |a,.iv (.int k b)::r,k'=>if k=k' then mP (if b<a then b else a) r k' else none
 |_,_,_=>none
def nW:Int->List AV->IntKind->Option Int
 |a,[],_=>some a
 |a,.iv (.int k b)::r,k'=>if k=k' then nW (if b > a then b else a) r k' else none
 |_,_,_=>none
def fl {α:Type}:List α->List (Nat×List α)->List α
 |z,[]=>z
 |z,(o,l)::r=>fl (cn z o l) r
def dK {α:Type}:List α->List (Nat×α)->List α
 |z,[]=>z
 |z,(o,l)::r=>dK (z.set o l) r
def Ay:AV->List Nat
 |.own id _ _ _ | .ref id _ _ _=>[id]
 |_=>[]
def place:List Nat->Nat->Option Nat
 |[],_=>none
 |x::r,n=>if x=n then some 0 else(place r n).map (·+ 1)
def dedup:List Nat->List Nat->List Nat
 |[],acc=>acc.reverse
 |x::r,acc=>if acc.contains x then dedup r acc else dedup r (x::acc)
def Az (ids:List Nat):AV->M AV
 |.own id o n v=>(M.lift (place ids id)).bind λi=>.ret (.own i o n v)
 |.ref id v i j=>(M.lift (place ids id)).bind λp=>.ret (.ref p v i j)
 |a=>ek true a
def om:Ob->Bool
 |.buf _ _ _=>true
 |_=>false
def callee:AV->Option (Nat×List AV)
 |.iv (.fn f ax)=>some (f,ax.map .iv)
 |.bp f ax=>some (f,ax)
 |_=>none
def shut (p:AV×Hp):Option AV:=((IA true p.1).run p.2).map (·.1)
def gv (call:Nat->List AV->Hp->Option (AV×Hp)) (f:AV) (args:List AV):M AV:=
 (M.lift (callee f)).bind λq=>
 (M.aJ (ek false) (args++q.2)).bind λU=>(M.lift ((call q.1 U []).bind shut)).bind λr=>
 (M.ok (flat r)).bind λ_=>.ret r
def gM (call:Nat->List AV->Hp->Option (AV×Hp)) (f:AV) (args:List AV):M AV:=
 (M.lift (callee f)).bind λq=>
 (M.aJ (ek true) (args++q.2)).bind λU=>M.lift ((call q.1 U []).bind shut)
def r8:List Nat->Nat->Hp->M Unit
 |[],_,_=>.ret ()
 |id::r,i,h=>(M.lift (get h i)).bind λo=>(M.ok (match o with | .cells _=>false | .map _=>false | _=>true)).bind λ_=>(M.write id o).bind λ_=>r8 r (i+1) h
def AA (ids:List Nat) (p:AV×Hp):Option AV:=
 match p.1 with
 |.own i o n v=>(ids[i]?).map λid=>.own id o n v
 |r=>if flat r then some r else none
def fm:List Nat->Bool
 |[]=>true
 |x::r=>!r.contains x&&fm r
def cL {α:Type}:List α->Nat->List (Nat×α)
 |[],_=>[]
 |x::r,i=>(i,x)::cL r (i+1)
def xI (call:Nat->List AV->Hp->Option (AV×Hp)) (f:AV) (args:List AV):M AV:=
 (M.lift (callee f)).bind λq=>
 let ids:=dedup ((args++q.2).flatMap Ay) []
 (M.ok (fm ids&&Nat.ble ids.length 1000)).bind λ_=>
 (M.aJ (Az ids) (args++q.2)).bind λU=>
 (M.aJ (λid=>(M.look id).bind λo=>(M.ok (om o)).bind λ_=>.ret o) ids).bind λos=>
 (M.lift (call q.1 U (cL os 0))).bind λp=>
 (M.lift (AA ids p)).bind λr=>(r8 ids 0 p.2).bind λ_=>.ret r
def AB (slot:Nat) (p:AV×Hp):M AV:=
 match p.1 with
 |.own i o n v=>(M.lift (get p.2 i)).bind fun
  |.buf v' e es=>(M.ok (v'==v&&o==0)).bind λ_=>(M.fresh slot).bind λ_=>(M.write slot (.buf 0 e es)).bind λ_=>.ret (.own slot 0 n 0)
  |_=>.fail
 |_=>.fail
def xJ (call:Nat->List AV->Hp->Option (AV×Hp)) (slot:Nat) (f:AV) (args:List AV):M AV:=
 (M.lift (callee f)).bind λq=>
 (M.aJ (ek true) (args++q.2)).bind λU=>(M.lift (call q.1 U [])).bind λp=>AB slot p
def lj (ρ:Nat->Option Nat):Nat->AV->AV
 |0,_=>.undef
 |d+1,a=>match a with
  |.iv x=>.iv x
  |.undef=>.undef
  |.agg cs=>.agg (cs.map (lj ρ d))
  |.aR vs=>.aR (vs.map (lj ρ d))
  |.own id o n v=>match ρ id with
   |some i=>.own i o n v
   |none=>.undef
  |.ref id v i j=>match ρ id with
   |some p=>.ref p v i j
   |none=>.undef
  |.bp f ax=>.bp f (ax.map (lj ρ d))
def lk (ρ:Nat->Option Nat):Ob->Ob
 |.cells cs=>.cells (cs.map (lj ρ 8))
 |.map aL=>.map (aL.map λp=>(lj ρ 8 p.1,lj ρ 8 p.2))
 |.buf v e es=>.buf v e es
 |.aZ v e es=>.aZ v e es
def tD:Nat->AV->List Nat
 |0,_=>[]
 |d+1,a=>match a with
  |.own id _ _ _ | .ref id _ _ _=>[id]
  |.agg cs | .aR cs | .bp _ cs=>cs.flatMap (tD d)
  |_=>[]
def F3:Ob->List Nat
 |.cells cs=>cs.flatMap (tD 8)
 |.map aL=>aL.flatMap λp=>tD 8 p.2
 |_=>[]
def AD (id:Nat):List (Nat×Ob)->Bool
 |[]=>false
 |p::r=>p.1==id||AD id r
def ll:Nat->List Nat->List (Nat×Ob)->M (List (Nat×Ob))
 |0,_,acc=>.ret acc.reverse
 |_+1,[],acc=>.ret acc.reverse
 |n+1,id::r,acc=>if AD id acc then ll n r acc else .get id fun
  |some o=>ll n (r++F3 o) ((id,o)::acc)
  |none=>ll n r acc
def wx (σ:Nat->Option Nat) (h:Hp):List (Nat×Nat)->M Unit
 |[]=>.ret ()
 |p::r=>(M.lift (get h p.2)).bind λo=>(M.write p.1 (lk σ o)).bind λ_=>wx σ h r
def tE (slot:Nat):Nat->M Unit
 |0=>.ret ()
 |n+1=>(M.fresh (slot+n)).bind λ_=>tE slot n
def jg:List (Nat×Nat)->Nat->Option Nat
 |[],_=>none
 |p::r,i=>if p.2=i then some p.1 else jg r i
def kB (ids news:List Nat) (slot:Nat):List (Nat×Nat):=((cL ids 0).map λx=>(x.2,x.1))++cL news slot
def xK (p:AV×Hp) (k:Nat):List Nat:=match(ll 4096 (tD 8 p.1++List.range k) []).run p.2 with
 |some q=>(q.1.map (·.1)).filter λi=>Nat.ble 1000 i
 |none=>[]
def AE (slot:Nat) (ids:List Nat) (p:AV×Hp) (news:List Nat):M AV:=
 (M.ok (fm ((kB ids news slot).map (·.1))&&fm ((kB ids news slot).map (·.2))&&Nat.ble news.length 63)).bind λ_=>
 (tE slot news.length).bind λ_=>(wx (jg (kB ids news slot)) p.2 (kB ids news slot)).bind λ_=>
 .ret (lj (jg (kB ids news slot)) 8 p.1)
def xL (call:Nat->List AV->Hp->Option (AV×Hp)) (slot:Nat) (f:AV) (args:List AV):M AV:=
 (M.lift (callee f)).bind λq=>
 (ll 4096 ((args++q.2).flatMap (tD 8)) []).bind λps=>
 (M.ok (Nat.ble ps.length 1000)).bind λ_=>
 (M.lift (call q.1 ((args++q.2).map (lj (place (ps.map (·.1))) 8)) (cL (ps.map λp=>lk (place (ps.map (·.1))) p.2) 0))).bind λp=>
 AE slot (ps.map (·.1)) p (xK p ps.length)
def gw (qs:List Nat):AV->Bool
 |.agg xs=>xs.length==qs.length&&qs.length != 1
 |.iv _=>qs.length==1
 |_=>false
def kC (qs:List Nat):AV->AV->Option Bool
 |.agg xs,.agg ys=>if qs.length=1 then none else eqs qs xs ys
 |.iv x,.iv y=>if qs.length=1 then eqs qs [.iv x] [.iv y] else none
 |_,_=>none
def cM (qs:List Nat) (k:AV):List (AV×AV)->Nat->Option (Option (Nat×AV))
 |[],_=>some none
 |p::r,i=>match kC qs k p.1 with
  |some true=>some (some (i,p.2))
  |some false=>cM qs k r (i+1)
  |none=>none
def dj:AV->M (Nat×List (AV×AV))
 |.ref id 0 0 0=>(M.look id).bind fun
  |.map aL=>.ret (id,aL)
  |_=>.fail
 |_=>.fail
def gT (ok agg:Bool) (qs:List Nat) (z:List IV) (m k:AV):M AV:=
 (M.ok (gw qs k)).bind λ_=>(dj m).bind λx=>(M.lift (cM qs k x.2 0)).bind fun
  |some p=>.ret (if ok then .aR [p.2,.iv (.bool true)] else p.2)
  |none=>(mk agg (z.map .iv)).bind λv=>.ret (if ok then .aR [v,.iv (.bool false)] else v)
def gU (qs:List Nat) (m k v:AV):M AV:=
 (M.ok (gw qs k)).bind λ_=>(dj m).bind λx=>(M.lift (cM qs k x.2 0)).bind fun
  |some p=>(M.write x.1 (.map (x.2.set p.1 (k,v)))).bind λ_=>.ret (.aR [])
  |none=>(M.write x.1 (.map (x.2++[(k,v)]))).bind λ_=>.ret (.aR [])
def gV (qs:List Nat) (m k:AV):M AV:=
 (M.ok (gw qs k)).bind λ_=>(dj m).bind λx=>(M.lift (cM qs k x.2 0)).bind fun
  |some p=>(M.write x.1 (.map (x.2.eraseIdx p.1))).bind λ_=>.ret (.aR [])
  |none=>(M.write x.1 (.map x.2)).bind λ_=>.ret (.aR [])
def bytesOf:List (List IV)->Option (List Int)
 |[]=>some []
 |[.int .u8 n]::r=>(bytesOf r).map (n::·)
 |_=>none
def qi (xs:List Int):ByteArray:=⟨(xs.map λn=>UInt8.ofNat n.toNat).toArray⟩
def bk (call:Nat->List AV->Hp->Option (AV×Hp)) (slot:Nat) (ρ:aH->AV):jF->M AV
 |.nU x=>.ret (ρ x)
 |.wu e=>(M.fresh slot).bind λ_=>(M.write slot (.buf 0 e [])).bind λ_=>.ret (.own slot 0 0 0)
 |.pick c a b=>match ρ c with
  |.iv (.bool t)=>.ret (if t then ρ a else ρ b)
  |_=>.fail
 |.alloc z=>(M.fresh slot).bind λ_=>(ep (slot+1) (z.map .iv)).bind λl=>(M.write slot (.cells l)).bind λ_=>.ret (.ref slot 0 0 0)
 |.box x=>(bU (ρ x)).bind λxs=>(M.fresh slot).bind λ_=>(ep (slot+1) xs).bind λl=>(M.write slot (.cells l)).bind λ_=>.ret (.ref slot 0 0 0)
 |.build z ps=>(M.aJ (λp=>(bU (ρ p.2.2)).bind λl=>(M.ok (l.length==p.2.1&&Nat.ble (p.1+p.2.1) z.length)).bind λ_=>.ret (p.1,l)) ps).bind λl=>.ret (.agg (fl (z.map .iv) l))
 |.nV e z n ps=>(M.ok (z.length==e)).bind λ_=>
   (M.aJ (λp=>(bU (ρ p.2)).bind λxs=>(M.ok (xs.length==e&&Nat.blt p.1 n)).bind λ_=>(M.aJ (fz true 8) xs).bind λl=>.ret (p.1,l)) ps).bind λl=>
   (M.fresh slot).bind λ_=>(M.write slot (.buf 0 e (dK (List.replicate n z) l))).bind λ_=>.ret (.own slot 0 n 0)
 |.load agg sz a=>load agg sz (ρ a)
 |.store sz a x=>store slot sz (ρ a) (ρ x)
 |.eD off x=>eD off (ρ x)
 |.fk agg off sz x=>fk agg off sz (ρ x)
 |.eE len e x i=>eE len e (ρ x) (ρ i)
 |.gX e x i=>gX e (ρ x) (ρ i)
 |.eF agg len e x i=>eF agg len e (ρ x) (ρ i)
 |.fH x i=>fH (ρ x) (ρ i)
 |.bin op q x y=>(M.lift (bin op q (ρ x) (ρ y))).bind λv=>.ret (.iv v)
 |.oi neg qs x y=>match ρ x,ρ y with
  |.agg xs,.agg ys=>(M.lift (eqs qs xs ys)).bind λb=>.ret (.iv (.bool (if neg then !b else b)))
  |_,_=>.fail
 |.un op x=>(M.lift (un op (ρ x))).bind λv=>.ret (.iv v)
 |.qO k x=>(idx (ρ x)).bind λn=>.ret (.iv (.int k (k.wrap n)))
 |.tC x=>match ρ x with
  |.iv (.str s)=>.ret (.iv (.str s))
  |_=>.fail
 |.hU e x lo hi=>hU e (ρ x) (lo.map ρ) (hi.map ρ)
 |.fR x lo hi=>fR (ρ x) (lo.map ρ) (hi.map ρ)
 |.lh e x=>lh e (ρ x)
 |.kV e z x=>kV e z (ρ x)
 |.len str x=>len str (ρ x)
 |.app e x y=>app e slot (ρ x) (ρ y)
 |.mn x ys=>match ρ x with
  |.iv (.int k a)=>(M.lift (mP a (ys.map ρ) k)).bind λn=>.ret (.iv (.int k n))
  |_=>.fail
 |.mx x ys=>match ρ x with
  |.iv (.int k a)=>(M.lift (nW a (ys.map ρ) k)).bind λn=>.ret (.iv (.int k n))
  |_=>.fail
 |.ext x i=>match ρ x with
  |.aR vs=>M.lift vs[i]?
  |_=>.fail
 |.mz x=>match ρ x with
  |.ref id ai i j=>(M.look id).bind λo=>(M.ok (valid o ai i)).bind λ_=>.ret (.ref id ai i j)
  |.iv (.ptr cs)=>.ret (.iv (.ptr cs))
  |.iv (.fn f cs)=>.ret (.iv (.fn f cs))
  |.bp f cs=>.ret (.bp f cs)
  |_=>.fail
 |.oj f ax=>.ret (.bp f (ax.map ρ))
 |.call mode f args=>match mode with
  |0=>gv call (ρ f) (args.map ρ)
  |1=>xI call (ρ f) (args.map ρ)
  |2=>xJ call slot (ρ f) (args.map ρ)
  |4=>xL call slot (ρ f) (args.map ρ)
  |_=>gM call (ρ f) (args.map ρ)
 |.sY x=>(elems 1 (ρ x)).bind λys=>(M.lift (bytesOf ys)).bind λb=>.ret (.iv (.str (qi b)))
 |.sZ=>(M.fresh slot).bind λ_=>(M.write slot (.map [])).bind λ_=>.ret (.ref slot 0 0 0)
 |.gT ok agg qs z m k=>gT ok agg qs z (ρ m) (ρ k)
 |.gU qs m k v=>gU qs (ρ m) (ρ k) (ρ v)
 |.gV qs m k=>gV qs (ρ m) (ρ k)
 |.qh m=>(dj (ρ m)).bind λx=>.ret (.iv (.int .i64 x.2.length))
def bG (fr:Fr):Option (Nat×Bool)->Option Bool
 |none=>some true
 |some (t,b)=>match get fr t with
  |some (.iv (.bool c))=>some (c==b)
  |some (.aR [])=>some false
  |_=>none
def bh (fr:Fr) (d:Option Nat) (v:AV):Fr:=match d with
 |some d=>set fr d v
 |none=>fr
def step (call:Nat->List AV->Hp->Option (AV×Hp)) (slot:Nat) (o:au) (s:St):Option St:=
 match bG s.fr o.gd with
 |some true=>match(bk call slot (ev s.fr) o.op).run s.hp with
  |some (v,h)=>some { s with fr:=bh s.fr o.dst v,hp:=h }
  |none=>none
 |some false=>some { s with fr:=bh s.fr o.dst (.aR []) }
 |none=>none
def bu (call:Nat->List AV->Hp->Option (AV×Hp)) (slot:Nat) (o:au) (s:St):List Nat×List Nat:=
 match bG s.fr o.gd with
 |some true=>(bk call slot (ev s.fr) o.op).bz s.hp
 |_=>([],[])
def aX (call:Nat->List AV->Hp->Option (AV×Hp)):List au->Nat->St->Option St
 |[],_,s=>some s
 |o::r,slot,s=>match step call slot o s with
  |some s'=>aX call r (slot+64) s'
  |none=>none
def bC (call:Nat->List AV->Hp->Option (AV×Hp)):List au->Nat->St->List (List Nat×List Nat)
 |[],_,_=>[]
 |o::r,slot,s=>bu call slot o s::match step call slot o s with
  |some s'=>bC call r (slot+64) s'
  |none=>[]
def meets (a b:List Nat):Bool:=a.any b.contains
def c9 (x y:List Nat×List Nat):Bool:=meets x.2 (y.1++y.2)||meets y.2 (x.1++x.2)
def ed (x:List Nat×List Nat) (i:Nat):List (List Nat×List Nat)->List (List Nat)->Bool
 |y::ys,c::cs=>(!c9 x y||c.contains i)&&ed x i ys cs
 |_,_=>true
def cC:List (List Nat×List Nat)->Nat->List (List Nat)->Bool
 |x::xs,i,_::cs=>ed x i xs cs&&cC xs (i+1) cs
 |_,_,_=>true
def fS (ops:List au) (tF:List (List Nat×List Nat)):Bool:=tF.all (·.2.isEmpty)||cC tF 0 (ops.map (·.iU))
def bb:List Nat->Fr->Fr
 |[],_=>[]
 |t::r,fr=>match get fr t with
  |some x=>(t,x)::bb r fr
  |none=>bb r fr
def aO (call:Nat->List AV->Hp->Option (AV×Hp)) (draw:Bool) (ops:List au) (keep:List Nat) (s:St):Option St:=
 match aX call ops s.nx s with
 |some s'=>if !draw||fS ops (bC call ops s.nx s) then some { fr:=bb keep s'.fr,hp:=s'.hp,nx:=s.nx+64*ops.length } else none
 |none=>none
inductive Ex where
 |norm
 |exit (id:Nat)
 |ret
def nrm (n0:Nat) (h:Hp):Nat->AV->AV
 |0,_=>.undef
 |d+1,a=>match a with
  |.iv x=>.iv x
  |.undef=>.undef
  |.agg cs=>.agg (cs.map (nrm n0 h d))
  |.aR vs=>.aR (vs.map (nrm n0 h d))
  |.own id o n ai=>if id<1000 then .own id o n ai else if id<n0 then(match get h id with
   |some (.buf v _ _) | some (.aZ v _ _)=>if v=ai then .own id o n 0 else .undef
   |_=>.undef) else .undef
  |.ref id ai i j=>if id<1000 then .ref id ai i j else if id<n0 then(match get h id with
   |some (.buf v _ _) | some (.aZ v _ _)=>if v=ai then .ref id 0 i j else .undef
   |some (.cells _) | some (.map _)=>.ref id ai i j
   |none=>.undef) else .undef
  |.bp f ax=>.bp f (ax.map (nrm n0 h d))
def fh (n0:Nat) (h:Hp) (id:Nat):Ob->Ob
 |.cells cs=>.cells (cs.map (nrm n0 h 8))
 |.buf v e es=>.buf (if id<1000 then v else 0) e es
 |.aZ v e es=>.aZ (if id<1000 then v else 0) e es
 |.map aL=>.map (aL.map λp=>(nrm n0 h 8 p.1,nrm n0 h 8 p.2))
def again (keep:List Nat) (n0:Nat) (s:St):St:=
 { fr:=(bb keep s.fr).map λp=>(p.1,nrm n0 s.hp 8 p.2),hp:=(s.hp.filter λp=>decide (p.1<1000)||decide (p.1<n0)).map λp=>(p.1,fh n0 s.hp p.1 p.2),nx:=n0 }
def iter (f:St->Option (Ex×St)) (keep:List Nat) (n0:Nat):Nat->St->Option (Ex×St)
 |0,_=>none
 |m+1,s=>match f s with
  |some (.norm,s')=>iter f keep n0 m (again keep n0 s')
  |r=>r
def aA (call:Nat->List AV->Hp->Option (AV×Hp)) (n:Nat):IC->St->Option (Ex×St)
 |.skip,s=>some (.norm,s)
 |.gm draw ops keep,s=>(aO call draw ops keep s).map λs'=>(.norm,s')
 |.seq a b,s=>match aA call n a s with
  |some (.norm,s')=>aA call n b s'
  |r=>r
 |.cond c a b,s=>match ev s.fr c with
  |.iv (.bool t)=>if t then aA call n a s else aA call n b s
  |_=>none
 |.block id b,s=>match aA call n b s with
  |some (.exit i,s')=>if i=id then some (.norm,s') else some (.exit i,s')
  |r=>r
 |.loop keep b,s=>iter (aA call n b) keep s.nx n { s with fr:=bb keep s.fr }
 |.exit id,s=>some (.exit id,s)
 |.ret,s=>some (.ret,s)
def wy:AV->M AV
 |.own id o n v=>(M.look id).bind fun
  |.buf v' _ _=>(M.ok (v'==v)).bind λ_=>.ret (.own id o n v)
  |.aZ v' e es=>(M.ok (v'==v)).bind λ_=>.ret (.iv (.sl e ((es.drop o).take n)))
  |.cells _=>.fail
  |.map _=>.fail
 |a=>ek true a
def jG (fr:Fr):dZ->M AV
 |.t n=>wy (ev fr (.t n))
 |.cell n agg sz=>(load agg sz (ev fr (.t n))).bind wy
 |.keep n=>.ret (ev fr (.t n))
 |.wv n agg sz=>load agg sz (ev fr (.t n))
def dk (fr:Fr):List dZ->M AV
 |[r]=>jG fr r
 |rs=>(M.aJ (jG fr) rs).bind λl=>.ret (.aR l)
def params:List AV->Nat->Fr
 |[],_=>[]
 |a::r,i=>(i,a)::params r (i+1)
def tG (e:Nat):List AV->M AV
 |[.iv (.sl e' es)]=>(M.ok (e'==e&&roomy es.length)).bind λ_=>(M.fresh 1000).bind λ_=>(M.write 1000 (.buf 0 e [])).bind λ_=>(M.write 1000 (.buf 1 e es)).bind λ_=>.ret (.own 1000 0 es.length 1)
 |_=>.fail
def F4:List IV->Option (Int×Int)
 |[.int .i64 a,.int .i64 b]=>some (a,b)
 |_=>none
def F5:List IV->Option ByteArray
 |[.str s]=>some s
 |_=>none
def r9 {α β:Type} (f:α->Option β):List α->Option (List β)
 |[]=>some []
 |x::l=>match f x,r9 f l with
  |some y,some r=>some (y::r)
  |_,_=>none
def IB (p:Int×Int):List IV:=[.int .i64 p.1,.int .i64 p.2]
def ID (s:ByteArray):List IV:=[.str s]
def F6 (x y:Int×Int):Bool:=decide (x.1<y.1)
def Et (l:List (Int×Int)):List (Int×Int):=(Sort.pdq F6 l.toArray 0 l.length (Lib.bitLen l.length) true true).toList
def Eu (l:List ByteArray):List ByteArray:=((l.map (·.data.toList)).mergeSort λx y=>decide (x<=y)).map λb=>⟨b.toArray⟩
def many (n m:Nat):Bool:=n==m&&Nat.blt 12 n&&roomy n
def wz (q:Nat) (args:List AV) (hp:Hp):Option (AV×Hp):=
 match args with
 |[.own id 0 n ai]=>match get hp id with
  |some (.buf v e es)=>if q==1000000&&v==ai&&e==1&&many n es.length then match r9 F5 es with
   |some l=>some (.aR [],set hp id (.buf v 1 ((Eu l).map ID)))
   |none=>none
   else none
  |_=>none
 |[.own id 0 n ai,.iv (.fn c [])]=>match get hp id with
  |some (.buf v e es)=>if q==2000000+c&&v==ai&&e==2&&many n es.length then match r9 F4 es with
   |some l=>some (.aR [],set hp id (.buf v 2 ((Et l).map IB)))
   |none=>none
   else none
  |_=>none
 |_=>none
def bg (prog:Nat->Option al):Nat->Nat->List AV->Hp->Option (AV×Hp)
 |0,_,_,_=>none
 |k+1,g,args,hp=>match prog g with
  |none=>none
  |some fn=>match fn.cl with
   |some p=>if Nat.blt p.1 1000000 then(tG p.1 args).run hp else match wz p.1 args hp with
    |some r=>some r
    |none=>if args.length=fn.np then
     match aA (bg prog k) k fn.body ⟨params args 0,hp,1000⟩with
     |some (.norm,s) | some (.ret,s)=>(dk s.fr fn.res).run s.hp
     |_=>none
    else none
   |none=>if args.length=fn.np then
    match aA (bg prog k) k fn.body ⟨params args 0,hp,1000⟩with
    |some (.norm,s) | some (.ret,s)=>(dk s.fr fn.res).run s.hp
    |_=>none
   else none
end ao
namespace ao
open Go
def Ew:List (Nat×Nat):=[(716,0),(308,1)]
def Ey:List (Nat×Nat):=[(562,0),(212,1),(69,3),(65,2),(53,4),(20,16),(14,19),(8,7),(8,17),(5,18),(4,12),(3,10),(1,14)]
def Ez:List (Nat×Nat):=[(207,0),(127,1),(74,5),(71,2),(68,3),(65,32),(62,6),(61,4),(47,7),(33,8),(25,10),(24,9),(24,11),(18,12),(13,14),(11,18),(11,19),(10,16),(9,15),(9,17),(9,20),(7,13),(7,25),(6,22),(5,21),(5,23),(5,29),(4,26),(2,27),(2,31),(1,24),(1,28),(1,30)]
def EA:List (Nat×Nat):=[(782,1),(242,0)]
def EB:List (Nat×Nat):=[(939,0),(85,1)]
def EC:List (Nat×Nat):=[(776,1),(248,0)]
def ED:List (Nat×Nat):=[(1023,0),(1,1)]
def tt:List (Nat×Nat):=[(1024,1)]
def nr:List (Nat×Nat):=[(538,1),(308,2),(84,3),(59,0),(25,4),(6,5),(4,6)]
def EE:List (Nat×Nat):=[(939,0),(71,2),(14,3)]
def BP:List (Nat×Nat):=[(512,1),(486,0),(26,5)]
def BQ:List (Nat×Nat):=[(144,4),(119,2),(101,5),(98,6),(81,7),(71,31),(63,8),(58,3),(40,9),(34,10),(27,11),(24,12),(14,16),(13,13),(13,15),(13,17),(13,18),(13,21),(11,0),(11,19),(10,14),(10,26),(6,1),(6,20),(5,22),(5,23),(5,25),(5,29),(3,24),(3,27),(3,30),(2,28)]
def BR:List (Nat×Nat):=[(977,0),(38,1),(9,2)]
def BS:List (Nat×Nat):=[(588,0),(186,8),(110,1),(74,2),(27,3),(15,4),(13,5),(6,7),(5,6)]
def aK:List (Nat×Nat):=[(538,1),(150,0),(134,7),(85,2),(43,3),(35,4),(23,5),(16,6)]
def BT:List (Nat×Nat):=[(263,0),(241,1),(178,2),(96,3),(30,4),(30,5),(26,6),(26,7),(19,8),(11,9),(7,10),(7,11),(7,12),(7,13),(4,14),(4,15),(4,16),(4,17),(4,18),(4,19),(4,20),(4,21),(4,22),(4,23),(4,24),(4,25),(4,26),(4,27),(4,28),(4,29),(4,30),(4,31),(4,32)]
def BU:List (Nat×Nat):=[(299,0),(213,1),(213,2),(85,3),(85,4),(43,5),(43,6),(43,7)]
def xM:List (Nat×Nat):=[(595,1),(133,2),(81,3),(75,0),(42,7),(40,4),(35,5),(23,6)]
def xN:List (Nat×Nat):=[(284,0),(211,1),(211,2),(75,3),(68,4),(48,5),(48,6),(26,7),(11,8),(11,9),(9,10),(7,11),(7,12),(4,13),(4,14)]
def xO:List (Nat×Nat):=[(984,0),(40,1)]
def xP:List (Nat×Nat):=[(465,0),(326,1),(186,2),(47,3)]
def mQ:List (Nat×Nat):=[(494,1),(363,0),(60,2),(47,3),(17,4),(13,12),(13,13),(9,5),(4,6),(4,7)]
def xQ:List (Nat×Nat):=[(991,0),(33,1)]
def xR:List (Nat×Nat):=[(583,7),(271,0),(68,1),(32,5),(24,6),(21,2),(18,3),(7,4)]
def xS:List (Nat×Nat):=[(814,1),(91,2),(77,0),(28,3),(9,7),(5,4)]
def xT:List (Nat×Nat):=[(731,1),(74,4),(56,3),(42,2),(36,12),(31,16),(25,7),(11,14),(9,17),(9,18)]
def xU:List (Nat×Nat):=[(288,1),(273,0),(168,3),(146,2),(52,6),(47,4),(22,5),(17,12),(8,7),(3,13)]
def xV:List (Nat×Nat):=[(689,2),(131,3),(48,5),(45,14),(40,4),(30,12),(10,16),(8,15),(4,6),(4,25),(4,26),(3,18),(2,13),(2,24),(2,28),(1,10),(1,23)]
def xW:List (Nat×Nat):=[(256,2),(226,0),(116,3),(100,7),(86,6),(64,1),(40,5),(33,12),(26,8),(11,4),(10,13),(9,15),(8,17),(7,21),(6,20),(5,18),(5,24),(2,22),(2,30),(1,10),(1,11),(1,19),(1,23),(1,25),(1,26),(1,29),(1,31),(1,32),(1,34),(1,39),(1,41)]
def xX:List (Nat×Nat):=[(748,0),(188,2),(84,9),(4,10)]
def xY:List (Nat×Nat):=[(1001,5),(17,4),(6,10)]
def xZ:List (Nat×Nat):=[(827,4),(105,10),(72,5),(11,23),(6,6),(3,2)]
def x4:List (Nat×Nat):=[(272,2),(152,8),(112,6),(109,13),(94,3),(47,5),(45,16),(31,18),(29,4),(25,0),(25,15),(20,21),(18,10),(11,22),(4,7),(4,12),(4,17),(4,23),(4,24),(2,19),(2,20),(2,27),(2,31),(2,33),(2,40),(2,42)]
def x6:List (Nat×Nat):=[(357,2),(213,0),(54,3),(53,1),(53,11),(45,4),(38,9),(29,10),(24,6),(21,17),(19,5),(16,19),(12,7),(12,18),(11,15),(11,16),(9,13),(8,14),(6,8),(6,20),(5,12),(5,22),(3,23),(3,25),(2,27),(1,28),(1,29),(1,32),(1,33),(1,35),(1,36),(1,37),(1,38),(1,43)]
def x7:List (Nat×Nat):=[(734,0),(290,2)]
def x8:List (Nat×Nat):=[(1003,0),(21,2)]
def x9:List (Nat×Nat):=[(931,1),(27,4),(19,3),(19,7),(12,6),(8,5),(4,0),(4,2)]
def qP:List (Nat×Nat):=[(464,0),(247,1),(166,2),(85,3),(29,4),(11,5),(7,6),(7,8),(4,7),(4,9)]
def ya:List (Nat×Nat):=[(379,0),(312,1),(75,2),(74,3),(67,4),(52,5),(25,6),(24,7),(14,8),(1,9),(1,10)]
def qQ:List (Nat×Nat):=[(393,2),(313,4),(84,5),(78,6),(60,3),(42,7),(24,0),(24,8),(6,9)]
def yb:List (Nat×Nat):=[(951,0),(73,1)]
def yc:List (Nat×Nat):=[(480,1),(403,2),(85,3),(28,0),(21,4),(7,5)]
def yd:List (Nat×Nat):=[(770,1),(155,2),(64,0),(28,3),(7,4)]
def BV:List (Nat×Nat):=[(328,0),(180,1),(111,2),(65,3),(57,4),(27,5),(24,6),(22,7),(22,8),(18,9),(18,10),(13,11),(13,12),(10,13),(10,14),(9,15),(9,16),(9,17),(9,18),(9,19),(6,20),(6,21),(6,22),(6,23),(6,24),(4,25),(3,26),(3,27),(3,28),(3,29),(3,30),(3,31),(1,32),(1,33),(1,34),(1,35),(1,36),(1,37),(1,38),(1,39),(1,40)]
def BW:List (Nat×Nat):=[(185,0),(111,1),(84,2),(70,3),(56,4),(49,5),(35,6),(35,7),(35,8),(35,9),(21,10),(21,11),(21,12),(21,13),(21,14),(21,15),(21,16),(21,17),(21,18),(21,19),(14,20),(14,21),(14,22),(7,23),(7,24),(7,25),(7,26),(7,27),(7,28),(7,29),(7,30),(7,31),(7,32),(7,33)]
def BX:List (Nat×Nat):=[(512,0),(512,1)]
def wA (n:Nat):List Char->Nat
 |[]=>n
 |c::l=>wA (n*64+(if c.toNat<92 then c.toNat - 58 else c.toNat - 59)) l
def tu (_:Prop):Prop:=True
structure tv where
 s:Nat
 m:List Nat
 l:List Nat
 d:List Nat
 c:List (Nat×Nat)
def bj (α:Type):=Nat->tv->α×Nat×tv
section
variable {α β γ δ ε ζ:Type}
def cS (x:α):bj α:=λn s=>(x,n,s)
def br (x:bj α) (f:α->bj β):bj β:=λn s=>match x n s with
 |(a,n,s)=>f a n s
def bV (f:α->β) (x:bj α):bj β:=λn s=>match x n s with
 |(a,n,s)=>(f a,n,s)
def bZ (f:α->β->γ) (x:bj α) (y:bj β):bj γ:=br x λa=>bV (f a) y
def eG (f:α->β->γ->δ) (x:bj α) (y:bj β) (z:bj γ):bj δ:=br x λa=>bZ (f a) y z
def gx (f:α->β->γ->δ->ε) (x:bj α) (y:bj β) (z:bj γ) (w:bj δ):bj ε:=br x λa=>eG (f a) y z w
def jH (x:bj α):Nat->bj (List α)
 |0=>cS []
 |k+1=>bZ .cons x (jH x k)
end
def AF:List (Nat×Nat)->Nat->Nat->tv->Nat×Nat×tv
 |(f,y)::t,r,n,s=>if r<f then(y,f*n+r,s) else AF t (r - f) n s
 |[],r,n,s=>(0,n+r,s)
def cH (t:List (Nat×Nat)):bj Nat:=λn s=>AF t (n % 1024) (n / 1024) s
def qR (k:Nat):bj Nat:=λn s=>(n % k,n / k,s)
def cq (e:Nat) (t:List (Nat×Nat)):bj Nat:=br (cH t) λx=>if x=e then bV (λy=>x+y) (qR 1024) else cS x
def AG (v:Nat):bj Nat:=λn s=>(v,n,{ s with m:=v::s.m })
def wB (x:Nat):bj Nat:=λn s=>(s.s - x,n,s)
def gY:bj Bool:=bV (λx=>x==1) (cH Ew)
def cT:bj Nat:=(cq 19 Ey)
def zA:bj Nat:=(cq 32 Ez)
def AH (x:Nat):List Nat->List Nat
 |[]=>[x]
 |y::l=>if x<y then x::y::l else if x=y then y::l else y::AH x l
def wC (l d:List Nat):List Nat->bj (List Nat)
 |[]=>cS []
 |x::c=>br (cH (if l.contains x then EA else if d.head?==some x then EC else EB)) λk=>if k=1 then bV (λr=>x::r) (wC l d c) else wC l d c
def pq:bj (List Nat):=br (cH ED) λe=>br (if e=0 then λn s=>wC s.l s.d (s.d.foldl (λl x=>AH x l) s.l) n s else br (cq 1 tt) (jH (cq 1 tt))) λr n s=>(r,n,{ s with l:=r })
def tH:bj (List Nat):=br (cq 6 nr) (jH (cq 3 EE))
def AI:bj (Option (Nat×Bool)):=br (cH BP) λx=>if x=0 then cS none else bZ (λv b=>some (v,b)) (if x<5 then wB x else zA) gY
def AJ (x:Nat):bj (Option Nat):=if x=0 then λn s=>(some s.s,n,s) else if x=1 then cS none else bV some (cq 31 BQ)
def AK (c:List (Nat×Nat)):List Nat->Nat
 |[]=>0
 |v::m=>((c.lookup v).getD 0) ||| AK c m
def AL:Nat->List Nat->List Nat
 |0,l=>l
 |n+1,l=>AL n (n::l)
def wD:Nat->Nat->Nat->List Nat->List Nat
 |0,_,_,l=>l
 |i+1,w,a,l=>if a+1=w then AL (i+1) l else if w / 2<=a then wD i (w / 2) (a - w / 2) (i::l) else wD i (w / 2) a l
def EF (w:Nat):bj Nat:=br (cH BR) λk=>if k=0 then λn s=>(AK s.c s.m,n,s) else if k=1 then cS (w - 1) else qR w
def AM (dr:Bool) (i w:Nat) (d:Option Nat) (x:Nat):bj (List Nat):=br (if dr then EF w else cS 0) λa n s=>(if a=0 then[] else wD i w a [],n,match d with
  |some v=>⟨if x=0 then s.s+1 else s.s,[],s.l,if s.d.contains v then s.d else v::s.d,if dr then(v,a+w)::s.c else[]⟩
  |none=>s)
def tw:bj Unit:=br (cH BS) λx=>br (if x<8 then cS 0 else qR 1024) λr n s=>((),n,⟨if x<8 then s.s+x else r,[],s.l,[],[]⟩)
def AN (k d:Nat):Nat:=if k=2 then(if d=0 then 1 else 2) else if k=7 then 3 else if k=5 then 4 else if k=4 then 5 else 6
def wE:Nat->IV
 |0=>.bool false
 |1=>.int .i64 0
 |2=>.int .i64 1
 |3=>.bool true
 |4=>.int .i64 100
 |5=>.int .i64 4
 |6=>.int .i64 8
 |7=>.int .u64 1
 |8=>.int .i64 20
 |9=>.int .i64 2
 |10=>.int .i64 (-1)
 |11=>.int .i64 16
 |12=>.int .i64 40
 |13=>.int .i64 6
 |14=>.fn 21 []
 |15=>.fn 7 []
 |16=>.int .i64 (-9223372036854775808)
 |17=>.int .i64 1000000
 |18=>.int .i64 120
 |19=>.int .i64 3
 |20=>.int .i64 300
 |21=>.int .i64 32
 |22=>.int .i64 9223372036854775807
 |23=>.int .u64 0
 |24=>.int .u64 16
 |25=>.int .u64 18446744073709551615
 |26=>.int .u64 256
 |27=>.int .u64 32
 |28=>.int .u64 4294967296
 |29=>.int .u64 65536
 |30=>.int .u64 8
 |31=>.str ⟨#[0,1,2,2,3,3,3,3,4,4,4,4,4,4,4,4,5,5,5,5,5,5,5,5,5,5,5,5,5,5,5,5,6,6,6,6,6,6,6,6,6,6,6,6,6,6,6,6,6,6,6,6,6,6,6,6,6,6,6,6,6,6,6,6,7,7,7,7,7,7,7,7,7,7,7,7,7,7,7,7,7,7,7,7,7,7,7,7,7,7,7,7,7,7,7,7,7,7,7,7,7,7,7,7,7,7,7,7,7,7,7,7,7,7,7,7,7,7,7,7,7,7,7,7,7,7,7,7,8,8,8,8,8,8,8,8,8,8,8,8,8,8,8,8,8,8,8,8,8,8,8,8,8,8,8,8,8,8,8,8,8,8,8,8,8,8,8,8,8,8,8,8,8,8,8,8,8,8,8,8,8,8,8,8,8,8,8,8,8,8,8,8,8,8,8,8,8,8,8,8,8,8,8,8,8,8,8,8,8,8,8,8,8,8,8,8,8,8,8,8,8,8,8,8,8,8,8,8,8,8,8,8,8,8,8,8,8,8,8,8,8,8,8,8,8,8,8,8,8,8,8,8,8,8,8,8]⟩
 |_=>.str ⟨#[]⟩
def bd (t:List (Nat×Nat)):bj aH:=br (cH t) λx=>if x=0 then bV (λk=>.c (wE k)) (cH BT) else bV .t (br (if x<7 then wB x else zA) AG)
def wF:Nat->List IV
 |0=>[.bool false,.aq 2,.bool false,.aq 1]
 |1=>[.bool false,.aq 2,.bool false,.aq 1,.bool false,.aq 2,.bool false,.aq 1,.bool false,.aq 2,.bool false,.aq 1,.bool false,.aq 2,.bool false,.aq 1]
 |2=>[.int .i64 0,.int .i64 0]
 |3=>[.int .i64 0,.int .i64 0,.str ⟨#[]⟩]
 |4=>[.int .i64 0]
 |5=>[.int .i64 0,.int .i64 0,.int .i64 0,.int .i64 0,.int .i64 0,.int .i64 0,.int .i64 0,.bool false,.aq 2,.bool false,.aq 1,.aq 7,.int .i64 0,.int .i64 0,.str ⟨#[]⟩,.int .i64 0,.int .i64 0,.str ⟨#[]⟩,.int .i64 0,.int .i64 0,.str ⟨#[]⟩,.int .i64 0,.int .i64 0,.str ⟨#[]⟩]
 |6=>[.int .i64 0,.aq 16,.int .u64 0]
 |_=>[.junk]
def ns:bj (List IV):=bV wF (cH BU)
def mA:bj (List aH):=br (cq 6 nr) (jH (bd xM))
def wG:Nat->BinOp
 |0=>.add
 |1=>.eql
 |2=>.lss
 |3=>.gtr
 |4=>.neq
 |5=>.geq
 |6=>.sub
 |7=>.leq
 |8=>.mul
 |9=>.shr
 |10=>.or
 |11=>.and
 |12=>.quo
 |13=>.rem
 |_=>.shl
def zB:bj BinOp:=bV wG (cH xN)
def wH:Nat->UnOp
 |0=>.not
 |_=>.xor
def zC:bj UnOp:=bV wH (cH xO)
def wI:Nat->IntKind
 |0=>.u64
 |1=>.i64
 |2=>.u8
 |_=>.u32
def wJ:bj IntKind:=bV wI (cH xP)
def wK:bj (List (Nat×aH)):=br (cq 6 nr) (jH (bZ .mk (cq 13 mQ) (bd aK)))
def wL:bj (List (Nat×Nat×aH)):=br (cq 6 nr) (jH (bZ .mk (cq 13 mQ) (bZ .mk (cq 13 mQ) (bd aK))))
def wM:bj aH:=br (cH xQ) λx=>if x=0 then bV (λf=>.c (.fn f [])) (qR 512) else bd aK
def wN (d:Nat):Nat->bj jF
 |2=>bV .nU (bd (if d=0 then xR else xS))
 |3=>gx .bin zB cT (bd aK) (bd aK)
 |4=>eG .load gY (cq 18 xT) (bd aK)
 |5=>bZ .eD (cq 13 xU) (bd aK)
 |7=>bV .mz (bd aK)
 |8=>bZ .len gY (bd aK)
 |9=>bZ .ext (bd aK) cT
 |10=>eG .store cT (bd aK) (bd aK)
 |11=>eG .pick (bd aK) (bd aK) (bd aK)
 |12=>eG .gX cT (bd aK) (bd aK)
 |13=>eG .call cT wM mA
 |14=>bV .box (bd aK)
 |15=>bZ .build ns wL
 |16=>bV .alloc ns
 |17=>bZ .un zC (bd aK)
 |18=>gx .nV cT ns cT wK
 |19=>eG .app cT (bd aK) (bd aK)
 |20=>bZ .qO wJ (bd aK)
 |23=>gx .eE cT cT (bd aK) (bd aK)
 |24=>bZ .oj cT mA
 |26=>br gY λa=>gx (.eF a) cT cT (bd aK) (bd aK)
 |27=>gx .oi gY tH (bd aK) (bd aK)
 |28=>bV .wu cT
 |29=>bZ .mx (bd aK) mA
 |32=>bZ .mn (bd aK) mA
 |33=>bZ .fH (bd aK) (bd aK)
 |_=>cS default
def wO (p:Nat):List (Nat×Nat):=match p with
 |0=>xV
 |1=>xW
 |2=>xX
 |3=>xY
 |4=>xZ
 |5=>x4
 |_=>x6
def k6 (dr:Bool):Nat->Nat->Nat->Nat->Option (Nat×Bool)->bj (List au)
 |0,_,_,_,_=>cS []
 |f+1,i,w,p,g=>br (cH (wO p)) λk=>if k=0 then cS [] else if k=1 then br AI (k6 dr f i w p) else
  br (cH (if k=10 then tt else if k=2 then x7 else x8)) λd=>br (AJ d) λe=>
  br (λn s=>wN d k n { s with m:=match g with
   |some q=>[q.1]
   |none=>[] }) λo=>br (AM dr i w e d) λa=>bV (λr=>⟨e,o,g,a⟩::r) (k6 dr f (i+1) (w+w) (AN k d) g)
def fP:Nat->bj IC
 |0=>cS .skip
 |f+1=>br (cH ya) λx=>match x with
  |0=>bZ .seq (fP f) (fP f)
  |1=>br tw λ_=>bZ (.gm false) (k6 false 9999 0 1 0 none) pq
  |2=>cS .ret
  |3=>br (bd x9) λc n s=>(λl=>br (fP f) (λa n s=>bV (.cond c a) (fP f) n { s with l:=l }) n { s with l:=l }) (match c with
   |.t v=>s.l.filter (·!= v)
   |_=>s.l)
  |4=>cS .skip
  |5=>bZ .block (cq 9 qP) (fP f)
  |6=>bV .exit (cq 9 qP)
  |7=>bZ .loop (λn s=>pq n { s with d:=[] }) (fP f)
  |8=>br tw λ_=>bZ (.gm true) (k6 true 9999 0 1 0 none) pq
  |9=>cS .skip
  |10=>cS .skip
  |_=>cS .skip
def wP:bj dZ:=br (cH yb) λx=>match x with
 |0=>bV .t (cq 9 qQ)
 |_=>eG .cell (cq 9 qQ) gY cT
def wQ:bj al:=br (cq 5 yc) λn=>br (br (cq 4 yd) (jH wP)) λr=>bV (λb=>⟨n,r,b,none⟩) λm s=>fP 9999 m ⟨n,[],List.range n,[],[]⟩
def ar {x:al} (s:String) (_:tu ((wQ (wA 0 s.toList) ⟨0,[],[],[],[]⟩).1=x):=by
 refine(?f:?P->tu ?P) ?p
 case p=>set_option maxRecDepth 1000000 in conv=>lhs;cbv
 exact λ_=>trivial):al:=x
attribute [simp] ar
def IE:al:=ar "@oEOwM>@zh=MMQE>DpLeM@hdJlGeINDmdvV<NJeDvTpSdDLFwa;Ozj><frZJilzjK^c:bcqKQzjyxf>`mQ=sIgSAw^jDhPzl;rvfQhUePC@A;LVw_PyWIjIywPzS[>?MbshjIr^P`MAeABNN[If^G:PSlrN:wBnrmhEabewfQUkxK:f`VkGsyJP]?GeP:t<JFU"
def IF:al:=ar "C=GhwlwhMr[lKBw<q=Y]BUqyhrYYygBN;XLpomn<__SXbBZuAtbhGcyZ<I=rt"
def IG:al:=ar "=K^wL_Zhgo`A;ZeG<syuYA>ljct=zYxu^pHw:xym^ms;KtwipO_rhq"
def IH:al:=ar "<Ejd=xzYhAjxhWXQxWl:lCC[YGqu"
def II:al:=ar "<@k:@DmfGwNRFLfxQQ[OfRmd]DfEA"
def vN:al:=ar "E=@wO;Xa?KRX?bm;`xLLJFS?q[DuJ?ro^ICDchdyp@lRUh^nupY;DT:GphltG^:klrJ]QKWVgCkvRvnDwcUYe_@n[wpdGiCiIdJa^uEpeLmGripK[w^R<U:qbW"
def IJ:al:=ar "@MIGwCO;W:]YH_fv<AlEhslFEN_r@^:IGZMOkA?P]qfEbCvBSyUzOeFo?Q?czEiWPvAH;<:Z]HJxSEfOzXkLWc]yRJxh?`Z"
def IK:al:=ar "UwAAVLuJRzqZfS]XEwUMfmz=eJ;X]vytjemdk?<Xb[s[VxLko<n?QGXVa?MPxpd<FgMj?rK;qI:Ww:"
def IL:al:=ar "^ryqg]qXcaxYcYj^MUDoGKE?ZgQodbIIkzBME?^w`pFFUaCbjT"
def IM:al:=ar "<chJwip_U]xk^hS`WsBS_prIvqGnsIj`P@OXNIF;qDpLv[;;aaW<lgy:nfo="
def IN:al:=ar "<chJwip_U]xk^hS`WsBS_pqeorhpb>DR@EARMyF_w<nJ[k`y[YD>_PALUX_J"
def IP:al:=ar "@GDDjrMh<ZnJvdKffhXeOwhL;^yOc>snAUwCKuxbuzPmFEIOfN=lCEqR@LRBC=]xA;YRe>i<yfw`YnLowJzR?MIDUOF`F>l^U=aV=THtboDGPTzpRAv:TKD>ZNHDy^^@=DFK?JtjEeamCRBPOY"
def IQ:al:=ar "K:w^O]zocbq`lODuAw?_mCEFxIF"
def IS:al:=ar "ALSs>nBHlpz=g:zvp[qHHMzMntxDBY^PGuW=BePfvw_VJ:H<f=j^Ss^[]kmwIa^dzr@YV[imzQM;i>aJvrMAeaJs`?;UaiCObRVYMz<_LWKu[=Q^CtVo;go:jbd@xgfz[lNXrDWVVxZvCQ`p_[wIQQlm>kpHY@fRp:tagJC@ES_Gs`ooo]PtIruT^SG`dGIAIRhQnPsStrJkrv^Qo?ihSyx?XsTAagnH"
def IT:al:=ar ";?etQpv>L<[cPPm[SRpVQWyv@FOJ<V;;kE[YrwiykHSmQ;`tA>;=]TOAz`@"
def IU:al:=ar "Fi?[nNEtr]P;dDR:uLSfaDK<"
def IW:al:=ar "GkukZCgmIyO@YTo@C;U@O`NS]CmJDbPZwrr;=SDNzCbR"
def IX:al:=ar "fPOEh[f_n>RkdQ;_v>vkVn:mC]n^lm]]^q^kr`ZzeLW<WDtjEPJ]@_piZqJYGkEP;[o<ygdBlf@@t"

def F7:al:=ar ">PzVuB@m]M]AAD;``GvS<q<ipJvJIxLcRyIn<?TzhPA<bjCVLVPjEARjHQnPiVx@_LK@ynHbyMDqhOKJ;;l=VtOiDIanndx"
def F8:al:=ar "MNjWGJLs?Gu@PTb>qJCjtPMzhqv;PbxlEkY"
def F9:al:=ar "AIbidPq^rH_tI]JjsE>z^o:mAbOEnDf<oY"
def Ga:al:=ar "<y:Eudzc=VNDpWv<Nnvk"
def Gb:al:=ar "?KHc@_HE;=EfKetYwFf"
def Gc:al:=ar "X==L=TYTG]hTTw^NJ@pp:co@oAabHNpnx[hgt>CqtzCmuDK<vaK>N:WwwWuhxhE[pefi`gmnbt?sGonP:Kzsw"
def Gd:al:=ar ";b]fZc`<Eu^_XUZRMmT?ADaHwNozDsv"
def Ge:al:=ar "<CPU?Gp][]ndLXdOGkA>OwQyMTOdGH`so>Fp_JH]>rqWm^<SHxfCfqo;aGXWTxWh@TteIKQ[hs>j@NsZ<Z]ETtzV]AaYdZBOWoH?p>y]fAYk:qverG^EnhAm?LTTBsYaxIUtXLwVuX^yxyMWAZEc[sP@z_]OAs]WCU^GdJCrxy@ztSH>];F_E:crECGaE:QtPC"
def Gf:al:=ar "QO<=fyE_b:]OxDicC<@IXItrnMdON^Px^JEOotv>DBKuxLDfmLt=d>sLwDMwedw]?=]TAbzuVqsudedgEhHPSM`[;oa"
def Gg:al:=ar "sSMcMQZeOGs[BiVg^]hBtFzt?nLhZmUH_Vj[[WUVtX=:VEbKNNaqvkNfEbWQF=A[_iKcmbXVS>P]`?it`RLY@]Ciu:ocku;twl]ribdR^ytX"
def Gi:al:=ar ">eAf@fekD_kjVuDaCDhUZjCchOLONs"
def Gj:al:=ar "KkM_kS>^u:F@sN=kRoLpcaXH_eY"
def Gk:al:=ar "@HTxTIGh=?_OFTM]I:poFNtzTsz`jdUjBq[VyzsQrlEMCrXSRPj[n?NBjtoR"
def Gl:al:=ar "`oaFzt^ZijN>lfa]GDJgILLSnDXyRgJUOoHjpecPDBtNLuh__WphQQPxhE<AMLi>>Z;M^@jNJFwjFUU:[Z"
def Gm:al:=ar "ySApx>EOW<E:@?Fz"
def Gn:al:=ar "ySApx>EOXjV:npSj"
def Gp:al:=ar "kQPUOC:ufn;Q?:bvAivymv;nLuQuHHm?tKvijrRVb=:Qf^[;M^mDm"
def Gq:al:=ar "=Nx[i;GsfgG<tHpNx@E`:sziJsiGJ;qBeedOq<i_TWrhvfT@oUvuS@"
def tI:al:=ar "AwsFXeBnYhnMBY?]mF@kf@UTYU?TiVinEEY`kUJzqiYFY[BoBcviw]fCChPnE<Ncui>XocqqU?]QtDa?Dn[?q@?lG?"
def tJ:al:=ar ">E@XnFThqfLH]jQS`m`F<ArCdWTAjoQj^czbGKdzzO[GGO;UQI]GYNnlYmNE[SJr[JgL[zYkKud<LrH>ftCDgNnSClLUl"
def wR:al:=ar "=lWDnELn:kcOZtFZzk[lf]eOA:`DKVJrFdpskaUf?e[@ZlWQF"
def tK:al:=ar ";EWpcqBVhLD>UpS=gI^AYuawuJn:vFQ;Pqk[hzZsTYDu?iVIpduAEWfZpvITVbH?dNXK?Zulq?r"
def Gr:al:=ar ";y@KtXL>sPjYWIQlMSJc:KoQkc^KfiEsxqxmZkQ[AES?<zDpEKmrkEyqFJibD;=OjG@eUt;"
def wS:al:=ar ">fdbKiDTTKpEbuhBQQ?v=h_gNMu"
def zD:al:=ar "HxQ=H^dVtYKqUDSOr`]_>P_?KD;xIX[=gLiUy>wR?pSCDcvF[G@AUtKvFeQYWlVUTbhyp<`v>f_rntvpbD[lSSbxkH[=vfZo`NSgnmn`yHXaW_lhE]Gh?YdtKp@P@N`_]]LFb[r>MiQP]X>gcVkU_?>`WVRDBIWSUeA=^Ul_t:LrQt"

end ao
namespace ao
open Go Go.RowKit
theorem aQ {α:Type} (h:List (Nat×α)) (n m:Nat) (x:α):get (set h n x) m=if n=m then some x else get h m:=by
 induction h with
 |nil=>simp[set,get]
 |cons y r ih=>
  simp only[set];by_cases hy:y.1=n
  ·rw[if_pos hy];simp only[get];by_cases hm:n=m
   ·simp[hm]
   ·rw[if_neg hm,if_neg hm,if_neg (by omega)]
  ·rw[if_neg hy];simp only[get,ih];by_cases hm:y.1=m
   ·rw[if_pos hm,if_pos hm,if_neg (by omega)]
   ·rw[if_neg hm,if_neg hm]
theorem an {α:Type} (h:List (Nat×α)) (n:Nat) (x:α):get (set h n x) n=some x:=by simp[aQ]
theorem bO {α:Type} (h:List (Nat×α)) {n m:Nat} (x:α) (bF:n≠m):get (set h n x) m=get h m:=by simp[aQ,bF]
inductive RI (ν:Nat->Nat) (I:Nat->Prop) (w:World):Value->IV->Prop
 |bool (b:Bool):RI ν I w (.bool b) (.bool b)
 |int (k:IntKind) (n:Int):RI ν I w (.int k n) (.int k n)
 |str (s:ByteArray):RI ν I w (.string s) (.str s)
 |aq (a:Option Addr) (e:Nat):RI ν I w (.slice a 0 0) (.aq e)
 |dU (a:Option Addr) (cap e:Nat):RI ν I w (.slice a 0 cap) (.sl e [])
 |sl (b off n cap e:Nat) (es:List (List IV)) (f:Nat->Nat->Value) (hI:I b) (hn:n=es.length) (eH:n<=cap) (hl:∀c ∈ es,c.length=e)
   (hc:∀(i j:Nat) (c:List IV) (x:IV),es[i]?=some c->c[j]?=some x->w.cell? ⟨b,off+i*e+j,none⟩=some (f i j))
   (hr:∀(i j:Nat) (c:List IV) (x:IV),es[i]?=some c->c[j]?=some x->RI ν I w (f i j) x):RI ν I w (.slice (some ⟨b,off,none⟩) n cap) (.sl e es)
 |bc:RI ν I w (.pointer none) .bc
 |ptr (b off:Nat) (cs:List IV) (f:Nat->Value) (hI:I b) (hc:∀(j:Nat) (x:IV),cs[j]?=some x->w.cell? ⟨b,off+j,none⟩=some (f j))
   (hr:∀(j:Nat) (x:IV),cs[j]?=some x->RI ν I w (f j) x):RI ν I w (.pointer (some ⟨b,off,none⟩)) (.ptr cs)
 |fn (f:Nat) (ax:Array Value) (cs:List IV) (hn:ax.size=cs.length) (hr:∀(j:Nat) (v:Value) (x:IV),ax[j]?=some v->cs[j]?=some x->RI ν I w v x) :
   RI ν I w (.func (.func (ν f)) #[] ax) (.fn f cs)
 |junk (v:Value) (h:v.oneCell'=true):RI ν I w v .junk
theorem RI.mono {ν:Nat->Nat} {I I':Nat->Prop} {w w':World} (hI:∀b,I b->I' b) (hw:∀b off v,I b->w.cell? ⟨b,off,none⟩=some v->w'.cell? ⟨b,off,none⟩=some v)
  {v:Value} {x:IV} (h:RI ν I w v x):RI ν I' w' v x:=by
 induction h with
 |bool b=>exact .bool b
 |int k n=>exact .int k n
 |str s=>exact .str s
 |aq a e=>exact .aq a e
 |dU a cap e=>exact .dU a cap e
 |sl b off n cap e es f hb hn eH hl hc hr ih=>exact .sl b off n cap e es f (hI b hb) hn eH hl (λi j c x h1 h2=>hw _ _ _ hb (hc i j c x h1 h2)) ih
 |bc=>exact .bc
 |ptr b off cs f hb hc hr ih=>exact .ptr b off cs f (hI b hb) (λj x h1=>hw _ _ _ hb (hc j x h1)) ih
 |fn f ax cs hn hr ih=>exact .fn f ax cs hn ih
 |junk v h=>exact .junk v h
theorem RI.one {ν:Nat->Nat} {I:Nat->Prop} {w:World} {v:Value} {x:IV} (h:RI ν I w v x):v.oneCell'=true:=by cases h<;>first | rfl | assumption
structure Gh where
 I:Nat->Prop
 φ:Nat->Option Nat
 w:World
 h:Hp
def cD (w:World) (p:Option Nat) (e:Nat) (es:List (List IV)) (o n:Nat) (v:Value):Prop:=
 match p with
 |none=>(∃a,v = .slice a 0 0)/\n=0
 |some b=>∃x cap,v = .slice (some ⟨b,x,none⟩) n cap/\o+n<=es.length/\n<=cap/\(x=o*e\/n=0/\o≠0)/\(x=o*e->∀c,c<(o+cap)*e->(w.cell? ⟨b,c,none⟩).isSome=true)
def aE (g:Gh) (v:Value) (id o n ai:Nat):Prop:=
 match get g.h id with
 |some (.buf v' e es) | some (.aZ v' e es)=>ai<=v'/\(v'=ai->cD g.w (g.φ id) e es o n v)
 |_=>False
def aG (g:Gh) (v:Value) (id ai i j:Nat):Prop:=
 match get g.h id with
 |some (.cells _)=>ai=0/\i=0/\∃b,g.φ id=some b/\v = .pointer (some ⟨b,j,none⟩)
 |some (.buf v' e _) | some (.aZ v' e _)=>ai<=v'/\(v'=ai->∃b,g.φ id=some b/\v = .pointer (some ⟨b,i*e+j,none⟩))
 |some (.map _)=>ai=0/\i=0/\j=0/\∃b,g.φ id=some b/\v = .map (some b)
 |none=>False
inductive RA (ν:Nat->Nat) (g:Gh):Value->AV->Prop
 |undef (v:Value):RA ν g v .undef
 |iv {v:Value} {x:IV} (h:RI ν g.I g.w v x):RA ν g v (.iv x)
 |agg {vs:Array Value} {cs:List AV} (hn:vs.size=cs.length) (h1:∀(j:Nat) (v:Value),vs[j]?=some v->v.oneCell'=true)
   (hr:∀(j:Nat) (v:Value) (c:AV),vs[j]?=some v->cs[j]?=some c->RA ν g v c):RA ν g (.agg vs) (.agg cs)
 |aR {vs:Array Value} {cs:List AV} (hn:vs.size=cs.length) (hr:∀(j:Nat) (v:Value) (c:AV),vs[j]?=some v->cs[j]?=some c->RA ν g v c):RA ν g (.tuple vs) (.aR cs)
 |own {v:Value} {id o n ai:Nat} (h1:v.oneCell'=true) (h:aE g v id o n ai):RA ν g v (.own id o n ai)
 |ref {v:Value} {id ai i j:Nat} (h1:v.oneCell'=true) (h:aG g v id ai i j):RA ν g v (.ref id ai i j)
 |bp {f:Nat} {ax:Array Value} {cs:List AV} (hn:ax.size=cs.length) (hr:∀(j:Nat) (v:Value) (c:AV),ax[j]?=some v->cs[j]?=some c->RA ν g v c) :
   RA ν g (.func (.func (ν f)) #[] ax) (.bp f cs)
theorem RA.mono {ν:Nat->Nat} {g g':Gh} (hI:∀v x,RI ν g.I g.w v x->RI ν g'.I g'.w v x) (ho:∀v id o n ai,aE g v id o n ai->aE g' v id o n ai)
  (hr:∀v id ai i j,aG g v id ai i j->aG g' v id ai i j) {v:Value} {x:AV} (h:RA ν g v x):RA ν g' v x:=by
 induction h with
 |undef v=>exact .undef v
 |iv h=>exact .iv (hI _ _ h)
 |agg hn h1 _ ih=>exact .agg hn h1 ih
 |aR hn _ ih=>exact .aR hn ih
 |own h1 h=>exact .own h1 (ho _ _ _ _ _ h)
 |ref h1 h=>exact .ref h1 (hr _ _ _ _ _ h)
 |bp hn _ ih=>exact .bp hn ih
def Row (ν:Nat->Nat) (I:Nat->Prop) (w:World) (b e:Nat) (es:List (List IV)):Prop:=
 (∀c ∈ es,c.length=e)/\∀(i j:Nat) (c:List IV) (x:IV),es[i]?=some c->c[j]?=some x->∃v,w.cell? ⟨b,i*e+j,none⟩=some v/\RI ν I w v x
def sa (w:World) (b:Nat):Prop:=b<w.heap.size/\∀o,w.frozen? ⟨b,o,none⟩=false
def fI (ν:Nat->Nat) (g:Gh) (id:Nat):Ob->Prop
 |.cells cs=>∃b,g.φ id=some b/\¬g.I b/\sa g.w b/\∀(j:Nat) (c:AV),cs[j]?=some c->∃v,g.w.cell? ⟨b,j,none⟩=some v/\v.oneCell'=true/\RA ν g v c
 |.buf _ e es=>(g.φ id=none/\es=[])\/∃b,g.φ id=some b/\¬g.I b/\sa g.w b/\Row ν g.I g.w b e es
 |.aZ _ e es=>(g.φ id=none/\es=[])\/∃b,g.φ id=some b/\g.I b/\Row ν g.I g.w b e es
 |.map aL=>∃b es clock,g.φ id=some b/\¬g.I b/\b<g.w.heap.size/\g.w.heap[b]?=some (.map es clock)/\es.size=aL.length/\
   ∀(j:Nat) (e:MapEntry) (p:AV×AV),es[j]?=some e->aL[j]?=some p->RA ν g e.key p.1/\RA ν g e.val p.2
structure Cx where
 w:World
 I:Nat->Prop
 L:Nat->Prop
structure Rel (ν:Nat->Nat) (k:Cx) (g:Gh):Prop where
 ob:∀id o,get g.h id=some o->fI ν g id o
 inj:∀id bW o o' b,get g.h id=some o->get g.h bW=some o'->g.φ id=some b->g.φ bW=some b->id=bW
 small:∀b,g.I b->b<g.w.heap.size
 i0:∀b,k.I b->g.I b
 i1:∀b,g.I b->k.I b\/k.L b\/k.w.heap.size<=b
 own:∀id o b,get g.h id=some o->g.φ id=some b->k.L b\/k.w.heap.size<=b
 size:k.w.heap.size<=g.w.heap.size
 os:g.w.os=k.w.os
 tape:g.w.tape=k.w.tape
 output:g.w.output=k.w.output
 cu:∀b,b<k.w.heap.size->(¬k.L b\/k.I b)->g.w.heap[b]?=k.w.heap[b]?
def aV (ν:Nat->Nat) (g g':Gh):Prop:=∀v x,RA ν g v x->RA ν g' v x
theorem aV.refl (ν:Nat->Nat) (g:Gh):aV ν g g:=λ_ _ h=>h
theorem aV.trans {ν:Nat->Nat} {a b c:Gh} (h:aV ν a b) (k:aV ν b c):aV ν a c:=λv x hx=>k v x (h v x hx)
theorem fI.block {ν:Nat->Nat} {g:Gh} {id:Nat} {o:Ob} (h:fI ν g id o) {b:Nat} (hb:g.φ id=some b) (hs:∀b,g.I b->b<g.w.heap.size):b<g.w.heap.size:=by
 cases o with
 |cells cs=>obtain⟨b',h1,_,h3,_⟩:=h;rw[hb]at h1;cases h1;exact h3.1
 |buf v e es=>
  rcases h with⟨h1,_⟩|⟨b',h1,_,h3,_⟩
  ·rw[hb]at h1;cases h1
  ·rw[hb]at h1;cases h1;exact h3.1
 |aZ v e es=>
  rcases h with⟨h1,_⟩|⟨b',h1,h2,_⟩
  ·rw[hb]at h1;cases h1
  ·rw[hb]at h1;cases h1;exact hs _ h2
 |map aL=>obtain⟨b',_,_,h1,_,h3,_⟩:=h;rw[hb]at h1;cases h1;exact h3
theorem Row.mono {ν:Nat->Nat} {I I':Nat->Prop} {w w':World} {b e:Nat} {es:List (List IV)} (h:Row ν I w b e es) (hR:∀v x,RI ν I w v x->RI ν I' w' v x)
  (hb:∀off v,w.cell? ⟨b,off,none⟩=some v->w'.cell? ⟨b,off,none⟩=some v):Row ν I' w' b e es:=
 ⟨h.1,λi j c x h1 h2=>let⟨v,hc,hr⟩:=h.2 i j c x h1 h2;⟨v,hb _ _ hc,hR _ _ hr⟩⟩
theorem bw {w w':World} {b:Nat} (h:w'.heap[b]?=w.heap[b]?) (off:Nat):w'.cell? ⟨b,off,none⟩=w.cell? ⟨b,off,none⟩:=by simp[World.cell?,h]
theorem eP {w w':World} {b:Nat} (h:w'.heap[b]?=w.heap[b]?) (off:Nat):w'.frozen? ⟨b,off,none⟩=w.frozen? ⟨b,off,none⟩:=by simp[World.frozen?,h]
theorem Rel.world {ν:Nat->Nat} {k:Cx} {g:Gh} (r:Rel ν k g) {w':World} {I':Nat->Prop} (hI:∀b,g.I b->I' b) (kD:∀b,I' b->g.I b\/g.w.heap.size<=b/\b<w'.heap.size)
  (hs:g.w.heap.size<=w'.heap.size) (h1:w'.os=g.w.os) (h2:w'.tape=g.w.tape) (h3:w'.output=g.w.output) (hb:∀b,b<g.w.heap.size->w'.heap[b]?=g.w.heap[b]?) :
  Rel ν k { g with I:=I',w:=w' }/\aV ν g { g with I:=I',w:=w' }:=by
 have cp:∀v x,RI ν g.I g.w v x->RI ν I' w' v x:=λv x h=>h.mono hI λb off v hi hc=>by rw[bw (hb b (r.small b hi))];exact hc
 have dh:∀id o b,get g.h id=some o->g.φ id=some b->b<g.w.heap.size:=λid o b ho ah=>(r.ob id o ho).block ah r.small
 have hm:aV ν g { g with I:=I',w:=w' }:=by
  intro v x hx;refine hx.mono cp ?_ ?_
  ·intro v id o n ai ho;unfold aE at ho ⊢;have key:∀ob e es,get g.h id=some ob->cD g.w (g.φ id) e es o n v->cD w' (g.φ id) e es o n v:=by
    intro ob e es dB vO;cases hp:g.φ id with
    |none=>rw[hp]at vO;exact vO
    |some b=>
     rw[hp]at vO;obtain⟨x,cap,e1,e2,e3,e4,e5⟩:=vO;exact⟨x,cap,e1,e2,e3,e4,λhx c hc=>by rw[bw (hb b (dh id _ b dB hp))];exact e5 hx c hc⟩
   cases hg:get g.h id with
   |none=>rw[hg]at ho;exact ho.elim
   |some ob=>
    rw[hg]at ho;simp only[];cases ob with
    |cells cs=>exact ho.elim
    |buf v' e es=>exact⟨ho.1,λhv=>key _ e es hg (ho.2 hv)⟩
    |aZ v' e es=>exact⟨ho.1,λhv=>key _ e es hg (ho.2 hv)⟩
    |map aL=>exact ho.elim
  ·intro v id ai i j hr;exact hr
 refine⟨⟨?_,r.inj,?_,λb h=>hI b (r.i0 b h),?_,r.own,Nat.le_trans r.size hs,h1.trans r.os,h2.trans r.tape,h3.trans r.output,λb h hl=>(hb b (Nat.lt_of_lt_of_le h r.size)).trans (r.cu b h hl)⟩,hm⟩
 ·intro id o ho;have KC:=dh id o;have cu:=r.ob id o ho;cases o with
  |cells cs=>
   obtain⟨b,e1,e2,e3,e4⟩:=cu;refine⟨b,e1,λhi=>?_,⟨Nat.lt_of_lt_of_le e3.1 hs,λo=>by rw[eP (hb b e3.1)];exact e3.2 o⟩,λj c hc=>?_⟩
   ·rcases kD b hi with h | h
    ·exact e2 h
    ·have:=e3.1;omega
   ·obtain⟨v,c1,c2,c3⟩:=e4 j c hc;exact⟨v,by rw[bw (hb b e3.1)];exact c1,c2,hm _ _ c3⟩
  |buf v e es=>
   rcases cu with h | ⟨b,e1,e2,e3,e4⟩
   ·exact .inl h
   ·refine .inr ⟨b,e1,λhi=>?_,⟨Nat.lt_of_lt_of_le e3.1 hs,λo=>by rw[eP (hb b e3.1)];exact e3.2 o⟩,e4.mono cp λoff v hc=>by rw[bw (hb b e3.1)];exact hc⟩;rcases kD b hi with h | h
    ·exact e2 h
    ·have:=e3.1;omega
  |aZ v e es=>
   rcases cu with h | ⟨b,e1,e2,e4⟩
   ·exact .inl h
   ·exact .inr ⟨b,e1,hI b e2,e4.mono cp λoff v hc=>by rw[bw (hb b (r.small b e2))];exact hc⟩
  |map aL=>
   obtain⟨b,es,clock,e1,e2,e3,e4,e5,e6⟩:=cu;refine⟨b,es,clock,e1,λhi=>?_,Nat.lt_of_lt_of_le e3 hs,(hb b e3).trans e4,e5,λj e p h1 h2=>?_⟩
   ·rcases kD b hi with h | h
    ·exact e2 h
    ·omega
   ·obtain⟨c1,c2⟩:=e6 j e p h1 h2;exact⟨hm _ _ c1,hm _ _ c2⟩
 ·intro b hi;rcases kD b hi with h | h
  ·exact Nat.lt_of_lt_of_le (r.small b h) hs
  ·exact h.2
 ·intro b hi;rcases kD b hi with h | h
  ·exact r.i1 b h
  ·exact .inr (.inr (Nat.le_trans r.size h.1))
def bl (φ:Nat->Option Nat) (s:Nat) (p:Option Nat):Nat->Option Nat:=λi=>if i=s then p else φ i
theorem aw (φ:Nat->Option Nat) (s:Nat) (p:Option Nat):bl φ s p s=p:=by simp[bl]
theorem dO (φ:Nat->Option Nat) {s i:Nat} (p:Option Nat) (h:i≠s):bl φ s p i=φ i:=by simp[bl,h]
theorem cD.same {w w':World} {p:Option Nat} {e:Nat} {es:List (List IV)} {o n:Nat} {v:Value} (h:cD w p e es o n v)
  (hw:∀b,p=some b->w'.heap[b]?=w.heap[b]?):cD w' p e es o n v:=by
 cases p with
 |none=>exact h
 |some b=>
  obtain⟨x,cap,e1,e2,e3,e4,e5⟩:=h;exact⟨x,cap,e1,e2,e3,e4,λhx c hc=>by rw[bw (hw b rfl)];exact e5 hx c hc⟩
theorem aE.alive {g:Gh} {v:Value} {id o n ai:Nat} (h:aE g v id o n ai):∃ob,get g.h id=some ob:=by
 unfold aE at h;cases hg:get g.h id with
 |none=>rw[hg]at h;exact h.elim
 |some ob=>exact⟨ob,rfl⟩
theorem aG.alive {g:Gh} {v:Value} {id ai i j:Nat} (h:aG g v id ai i j):∃ob,get g.h id=some ob:=by
 unfold aG at h;cases hg:get g.h id with
 |none=>rw[hg]at h;exact h.elim
 |some ob=>exact⟨ob,rfl⟩
theorem aE.other {g g':Gh} {v:Value} {id o n ai:Nat} (h:aE g v id o n ai) (hh:get g'.h id=get g.h id) (ah:g'.φ id=g.φ id)
  (hw:∀b,g.φ id=some b->g'.w.heap[b]?=g.w.heap[b]?):aE g' v id o n ai:=by
 unfold aE at h ⊢;rw[hh,ah];cases hg:get g.h id with
 |none=>rw[hg]at h;exact h.elim
 |some ob=>
  rw[hg]at h;cases ob with
  |cells cs=>exact h.elim
  |buf v' e es=>exact⟨h.1,λhv=>(h.2 hv).same hw⟩
  |aZ v' e es=>exact⟨h.1,λhv=>(h.2 hv).same hw⟩
  |map aL=>exact h.elim
theorem aG.other {g g':Gh} {v:Value} {id ai i j:Nat} (h:aG g v id ai i j) (hh:get g'.h id=get g.h id) (ah:g'.φ id=g.φ id):aG g' v id ai i j:=by
 unfold aG at h ⊢;rw[hh,ah];exact h
theorem fI.other {ν:Nat->Nat} {g g':Gh} {id:Nat} {o:Ob} (h:fI ν g id o) (ah:g'.φ id=g.φ id) (hm:aV ν g g') (cp:∀v x,RI ν g.I g.w v x->RI ν g'.I g'.w v x)
  (bB:g.w.heap.size<=g'.w.heap.size) (hw:∀b,g.φ id=some b->g'.w.heap[b]?=g.w.heap[b]?) (hI:∀b,g.φ id=some b->(g'.I b↔g.I b)):fI ν g' id o:=by
 cases o with
 |cells cs=>
  obtain⟨b,e1,e2,e3,e4⟩:=h;refine⟨b,ah.trans e1,λhi=>e2 ((hI b e1).1 hi),⟨Nat.lt_of_lt_of_le e3.1 bB,λo=>by rw[eP (hw b e1)];exact e3.2 o⟩,λj c hc=>?_⟩;obtain⟨v,c1,c2,c3⟩:=e4 j c hc;exact⟨v,by rw[bw (hw b e1)];exact c1,c2,hm _ _ c3⟩
 |buf v e es=>
  rcases h with⟨h1,h2⟩|⟨b,e1,e2,e3,e4⟩
  ·exact .inl ⟨ah.trans h1,h2⟩
  ·exact .inr ⟨b,ah.trans e1,λhi=>e2 ((hI b e1).1 hi),⟨Nat.lt_of_lt_of_le e3.1 bB,λo=>by rw[eP (hw b e1)];exact e3.2 o⟩,e4.mono cp λoff v hc=>by rw[bw (hw b e1)];exact hc⟩
 |aZ v e es=>
  rcases h with⟨h1,h2⟩|⟨b,e1,e2,e4⟩
  ·exact .inl ⟨ah.trans h1,h2⟩
  ·exact .inr ⟨b,ah.trans e1,(hI b e1).2 e2,e4.mono cp λoff v hc=>by rw[bw (hw b e1)];exact hc⟩
 |map aL=>
  obtain⟨b,es,clock,e1,e2,e3,e4,e5,e6⟩:=h;refine⟨b,es,clock,ah.trans e1,λhi=>e2 ((hI b e1).1 hi),Nat.lt_of_lt_of_le e3 bB,(hw b e1).trans e4,e5,λj e p h1 h2=>?_⟩;obtain⟨c1,c2⟩:=e6 j e p h1 h2;exact⟨hm _ _ c1,hm _ _ c2⟩
theorem Rel.wT {ν:Nat->Nat} {k:Cx} {g:Gh} (r:Rel ν k g) {s:Nat} {ob:Ob} {p:Option Nat} {w':World} (hs:get g.h s=none)
  (bB:g.w.heap.size<=w'.heap.size) (h1:w'.os=g.w.os) (h2:w'.tape=g.w.tape) (h3:w'.output=g.w.output) (hb:∀b,b<g.w.heap.size->w'.heap[b]?=g.w.heap[b]?)
  (hp:∀b,p=some b->∀id o,get g.h id=some o->g.φ id≠some b) (bD:∀b,p=some b->k.L b\/k.w.heap.size<=b)
  (dB:aV ν g { g with φ:=bl g.φ s p,w:=w',h:=set g.h s ob }->fI ν { g with φ:=bl g.φ s p,w:=w',h:=set g.h s ob } s ob) :
  Rel ν k { g with φ:=bl g.φ s p,w:=w',h:=set g.h s ob }/\aV ν g { g with φ:=bl g.φ s p,w:=w',h:=set g.h s ob }:=by
 have cp:∀v x,RI ν g.I g.w v x->RI ν g.I w' v x:=λv x h=>h.mono (λ_ h=>h) λb off v hi hc=>by rw[bw (hb b (r.small b hi))];exact hc
 have dh:∀id o b,get g.h id=some o->g.φ id=some b->b<g.w.heap.size:=λid o b ho ah=>(r.ob id o ho).block ah r.small
 have hm:aV ν g { g with φ:=bl g.φ s p,w:=w',h:=set g.h s ob }:=by
  intro v x hx;refine hx.mono cp ?_ ?_
  ·intro v id o n ai ho;obtain⟨jI,er⟩:=ho.alive;have bF:s≠id:=λe=>by rw[<-e,hs]at er;cases er
   exact ho.other (bO _ _ bF) (dO _ _ (Ne.symm bF)) λb ah=>hb b (dh id _ b er ah)
  ·intro v id ai i j hr;obtain⟨jI,er⟩:=hr.alive;have bF:s≠id:=λe=>by rw[<-e,hs]at er;cases er
   exact hr.other (bO _ _ bF) (dO _ _ (Ne.symm bF))
 refine⟨⟨?_,?_,λb hi=>Nat.lt_of_lt_of_le (r.small b hi) bB,r.i0,r.i1,?_,Nat.le_trans r.size bB,h1.trans r.os,h2.trans r.tape,h3.trans r.output,λb h hl=>(hb b (Nat.lt_of_lt_of_le h r.size)).trans (r.cu b h hl)⟩,hm⟩
 ·intro id o ho;by_cases he:s=id
  ·subst he;have:ob=o:=by simpa[an]using ho
   subst this;exact dB hm
  ·have b9:get g.h id=some o:=by rwa [show get (set g.h s ob) id=get g.h id from bO _ _ he]at ho
   exact(r.ob id o b9).other (dO _ _ (Ne.symm he)) hm cp bB (λb ah=>hb b (dh id _ b b9 ah)) λ_ _=>Iff.rfl
 ·intro id bW o o' b ho b9 ah aN;simp only[aQ]at ho b9;simp only[bl]at ah aN;by_cases he:id=s
  ·by_cases cr:bW=s
   ·rw[he,cr]
   ·rw[if_pos he]at ah;rw[if_neg cr]at aN;rw[if_neg (Ne.symm cr)]at b9;exact absurd aN (hp b ah bW _ b9)
  ·rw[if_neg he]at ah;rw[if_neg (Ne.symm he)]at ho;by_cases cr:bW=s
   ·rw[if_pos cr]at aN;exact absurd ah (hp b aN id _ ho)
   ·rw[if_neg cr]at aN;rw[if_neg (Ne.symm cr)]at b9;exact r.inj id bW o o' b ho b9 ah aN
 ·intro id o b ho ah;simp only[aQ]at ho;simp only[bl]at ah;by_cases he:id=s
  ·rw[if_pos he]at ah;exact bD b ah
  ·rw[if_neg he]at ah;rw[if_neg (Ne.symm he)]at ho;exact r.own id o b ho ah
theorem Rel.new {ν:Nat->Nat} {k:Cx} {g:Gh} (r:Rel ν k g) {s:Nat} {ob:Ob} {p:Option Nat} {w':World} (hs:get g.h s=none)
  (bB:g.w.heap.size<=w'.heap.size) (h1:w'.os=g.w.os) (h2:w'.tape=g.w.tape) (h3:w'.output=g.w.output) (hb:∀b,b<g.w.heap.size->w'.heap[b]?=g.w.heap[b]?)
  (hp:∀b,p=some b->g.w.heap.size<=b)
  (dB:aV ν g { g with φ:=bl g.φ s p,w:=w',h:=set g.h s ob }->fI ν { g with φ:=bl g.φ s p,w:=w',h:=set g.h s ob } s ob) :
  Rel ν k { g with φ:=bl g.φ s p,w:=w',h:=set g.h s ob }/\aV ν g { g with φ:=bl g.φ s p,w:=w',h:=set g.h s ob }:=
 r.wT hs bB h1 h2 h3 hb (λb fM id o ho ah=>by have:=(r.ob id o ho).block ah r.small;have:=hp b fM;omega) (λb fM=>.inr (Nat.le_trans r.size (hp b fM))) dB
theorem Rel.iR {ν:Nat->Nat} {k:Cx} {g:Gh} (r:Rel ν k g) {s:Nat} {ye ob:Ob} {p:Option Nat} {w':World} {I':Nat->Prop} (hs:get g.h s=some ye)
  (b8:∀b,g.φ s=some b->¬g.I b)
  (bB:g.w.heap.size<=w'.heap.size) (h1:w'.os=g.w.os) (h2:w'.tape=g.w.tape) (h3:w'.output=g.w.output) (hb:∀b,b<g.w.heap.size->g.φ s≠some b->w'.heap[b]?=g.w.heap[b]?)
  (hI:∀b,g.I b->I' b) (kD:∀b,I' b->g.I b\/g.φ s=some b)
  (hp:p=g.φ s\/∃b,p=some b/\g.w.heap.size<=b)
  (hO:∀v o n ai,aE g v s o n ai->aE ⟨I',bl g.φ s p,w',set g.h s ob⟩ v s o n ai)
  (hR:∀v ai i j,aG g v s ai i j->aG ⟨I',bl g.φ s p,w',set g.h s ob⟩ v s ai i j)
  (dB:(∀v x,RI ν g.I g.w v x->RI ν I' w' v x)->aV ν g ⟨I',bl g.φ s p,w',set g.h s ob⟩->fI ν ⟨I',bl g.φ s p,w',set g.h s ob⟩ s ob) :
  Rel ν k ⟨I',bl g.φ s p,w',set g.h s ob⟩/\aV ν g ⟨I',bl g.φ s p,w',set g.h s ob⟩:=by
 have cp:∀v x,RI ν g.I g.w v x->RI ν I' w' v x:=λv x h=>h.mono hI λb off v hi hc=>by
  rw[bw (hb b (r.small b hi) λe=>b8 b e hi)];exact hc
 have dh:∀id o b,get g.h id=some o->g.φ id=some b->b<g.w.heap.size:=λid o b ho ah=>(r.ob id o ho).block ah r.small
 have cW:∀id o b,s≠id->get g.h id=some o->g.φ id=some b->g.φ s≠some b:=λid o b bF ho ah e=>bF (r.inj s id ye o b hs ho e ah)
 have hm:aV ν g ⟨I',bl g.φ s p,w',set g.h s ob⟩:=by
  intro v x hx;refine hx.mono cp ?_ ?_
  ·intro v id o n ai ho;by_cases he:s=id
   ·subst he;exact hO _ _ _ _ ho
   ·obtain⟨jI,er⟩:=ho.alive;exact ho.other (bO _ _ he) (dO _ _ (Ne.symm he)) λb ah=>hb b (dh id _ b er ah) (cW id _ b he er ah)
  ·intro v id ai i j hr;by_cases he:s=id
   ·subst he;exact hR _ _ _ _ hr
   ·exact hr.other (bO _ _ he) (dO _ _ (Ne.symm he))
 refine⟨⟨?_,?_,?_,λb h=>hI b (r.i0 b h),?_,?_,Nat.le_trans r.size bB,h1.trans r.os,h2.trans r.tape,h3.trans r.output,?_⟩,hm⟩
 ·intro id o ho;by_cases he:s=id
  ·subst he;have:ob=o:=by simpa[an]using ho
   subst this;exact dB cp hm
  ·have b9:get g.h id=some o:=by rwa [show get (set g.h s ob) id=get g.h id from bO _ _ he]at ho
   exact(r.ob id o b9).other (dO _ _ (Ne.symm he)) hm cp bB (λb ah=>hb b (dh id _ b b9 ah) (cW id _ b he b9 ah))
    λb ah=>⟨λhi=>(kD b hi).resolve_right (cW id _ b he b9 ah),hI b⟩
 ·intro id bW o o' b ho b9 ah aN;simp only[aQ]at ho b9;simp only[bl]at ah aN;by_cases he:id=s
  ·by_cases cr:bW=s
   ·rw[he,cr]
   ·rw[if_pos he]at ah;rw[if_neg cr]at aN;rw[if_neg (Ne.symm cr)]at b9;have aT:=dh bW _ b b9 aN;rcases hp with hp | ⟨b',hp,pP⟩
    ·exact absurd (hp▸ah) (cW bW _ b (Ne.symm cr) b9 aN)
    ·rw[hp]at ah;cases ah;omega
  ·rw[if_neg he]at ah;rw[if_neg (Ne.symm he)]at ho;by_cases cr:bW=s
   ·rw[if_pos cr]at aN;have aT:=dh id _ b ho ah;rcases hp with hp | ⟨b',hp,pP⟩
    ·exact absurd (hp▸aN) (cW id _ b (Ne.symm he) ho ah)
    ·rw[hp]at aN;cases aN;omega
   ·rw[if_neg cr]at aN;rw[if_neg (Ne.symm cr)]at b9;exact r.inj id bW o o' b ho b9 ah aN
 ·intro b hi;rcases kD b hi with h | h
  ·exact Nat.lt_of_lt_of_le (r.small b h) bB
  ·exact Nat.lt_of_lt_of_le (dh s _ b hs h) bB
 ·intro b hi;rcases kD b hi with h | h
  ·exact r.i1 b h
  ·exact .inr (r.own s _ b hs h)
 ·intro id o b ho ah;simp only[aQ]at ho;simp only[bl]at ah;by_cases he:id=s
  ·rw[if_pos he]at ah;rcases hp with hp | ⟨b',hp,pP⟩
   ·exact r.own s _ b hs (hp▸ah)
   ·rw[hp]at ah;cases ah;exact .inr (Nat.le_trans r.size pP)
  ·rw[if_neg he]at ah;rw[if_neg (Ne.symm he)]at ho;exact r.own id o b ho ah
 ·intro b h hl;have aT:=Nat.lt_of_lt_of_le h r.size;refine(hb b aT λe=>?_).trans (r.cu b h hl);rcases hl with hl | hl
  ·rcases r.own s _ b hs e with h' | h'
   ·exact hl h'
   ·omega
  ·exact b8 b e (r.i0 b hl)
theorem aW {α β:Type} (m:M α) (f:α->M β) (h:Hp):(m.bind f).run h=match m.run h with
  |some (a,h')=>(f a).run h'
  |none=>none:=by
 induction m generalizing h with
 |ret a=>rfl
 |fail=>rfl
 |get id k ih=>simp only[M.bind,M.run];exact ih _ _
 |put id o k ih=>simp only[M.bind,M.run];exact ih _
theorem ag {α β:Type} {m:M α} {f:α->M β} {h pQ:Hp} {b:β} (e:(m.bind f).run h=some (b,pQ)) :
  ∃a h',m.run h=some (a,h')/\(f a).run h'=some (b,pQ):=by
 rw[aW]at e;cases hm:m.run h with
 |none=>rw[hm]at e;cases e
 |some p=>rw[hm]at e;exact⟨p.1,p.2,rfl,e⟩
theorem l7 {b:Bool} {h h':Hp} {u:Unit} (e:(M.ok b).run h=some (u,h')):b=true/\h'=h:=by
 unfold M.ok at e;cases b with
 |true=>simp[M.run]at e;exact⟨rfl,e.symm⟩
 |false=>simp[M.run]at e
theorem ku {id:Nat} {h h':Hp} {o:Ob} (e:(M.look id).run h=some (o,h')):ao.get h id=some o/\h'=h:=by
 simp only[M.look,M.run]at e;cases hg:ao.get h id with
 |none=>simp[hg,M.run]at e
 |some x=>simp[hg,M.run]at e;exact⟨by rw[e.1],e.2.symm⟩
theorem M.ct {id:Nat} {h h':Hp} {u:Unit} (e:(M.fresh id).run h=some (u,h')):ao.get h id=none/\h'=h:=by
 simp only[M.fresh,M.run]at e;cases hg:ao.get h id with
 |none=>simp[hg,M.run]at e;exact⟨rfl,e.symm⟩
 |some x=>simp[hg,M.run]at e
theorem aI {id:Nat} {o:Ob} {h h':Hp} {u:Unit} (e:(M.write id o).run h=some (u,h')):h'=set h id o:=by
 simp[M.write,M.run]at e;exact e.symm
theorem dy {α:Type} {x:Option α} {h h':Hp} {a:α} (e:(M.lift x).run h=some (a,h')):x=some a/\h'=h:=by
 cases x with
 |none=>simp[M.lift,M.run]at e
 |some y=>simp[M.lift,M.run]at e;exact⟨by rw[e.1],e.2.symm⟩
theorem af {α:Type} {x a:α} {h h':Hp} (e:(M.ret x).run h=some (a,h')):x=a/\h'=h:=by
 simp[M.run]at e;exact⟨e.1,e.2.symm⟩
theorem ae {α:Type} {a:α} {h h':Hp} (e:(M.fail:M α).run h=some (a,h')):False:=by simp[M.run]at e
theorem M.aj {α:Type} {b:Bool} {f:Unit->M α} {h:Hp} {r:α×Hp} (e:((M.ok b).bind f).run h=some r):b=true/\(f ()).run h=some r:=by
 obtain⟨a,g⟩:=r;obtain⟨_,h1,e1,e2⟩:=ag e;obtain⟨hb,rfl⟩:=l7 e1;exact⟨hb,e2⟩
theorem M.lift_bind {α β:Type} {x:Option β} {f:β->M α} {h:Hp} {r:α×Hp} (e:((M.lift x).bind f).run h=some r):∃a,x=some a/\(f a).run h=some r:=by
 obtain⟨a,g⟩:=r;obtain⟨y,h1,e1,e2⟩:=ag e;obtain⟨hb,rfl⟩:=dy e1;exact⟨y,hb,e2⟩
theorem M.aM {α:Type} {id:Nat} {f:Ob->M α} {h:Hp} {r:α×Hp} (e:((M.look id).bind f).run h=some r):∃o,ao.get h id=some o/\(f o).run h=some r:=by
 obtain⟨a,g⟩:=r;obtain⟨y,h1,e1,e2⟩:=ag e;obtain⟨hb,rfl⟩:=ku e1;exact⟨y,hb,e2⟩
theorem qS {α β:Type} [Inhabited β] {cs:List α} {P:Nat->β->α->Prop} (h:∀(j:Nat) (c:α),cs[j]?=some c->∃v,P j v c) :
  ∃f:Nat->β,∀(j:Nat) (c:α),cs[j]?=some c->P j (f j) c:=by
 induction cs generalizing P with
 |nil=>exact⟨λ_=>default,λj c h=>by simp at h⟩
 |cons c cs ih=>
  obtain⟨v,hv⟩:=h 0 c rfl;obtain⟨f,hf⟩:=ih (P:=λj=>P (j+1)) λj c hc=>h (j+1) c (by simpa using hc)
  refine⟨λj=>match j with | 0=>v | j+1=>f j,λj c' hc=>?_⟩;cases j with
  |zero=>simp at hc;subst hc;exact hv
  |succ j=>exact hf j c' (by simpa using hc)
theorem pick {α:Type} {cs:List α} {P:Nat->Value->α->Prop} (h:∀(j:Nat) (c:α),cs[j]?=some c->∃v,P j v c) :
  ∃f:Nat->Value,∀(j:Nat) (c:α),cs[j]?=some c->P j (f j) c:=qS h
theorem bR {α β:Type} {f:α->M β} {x:α} {r:List α} {h h':Hp} {ys:List β} (e:(M.aJ f (x::r)).run h=some (ys,h')) :
  ∃y h1 zs,(f x).run h=some (y,h1)/\(M.aJ f r).run h1=some (zs,h')/\ys=y::zs:=by
 obtain⟨y,h1,e1,e2⟩:=ag e;obtain⟨zs,h2,e3,e4⟩:=ag e2;obtain⟨rfl,rfl⟩:=af e4;exact⟨y,h1,zs,e1,e3,rfl⟩
theorem b7 {α β:Type} {f:α->M β} {h h':Hp} {ys:List β} (e:(M.aJ f []).run h=some (ys,h')):ys=[]/\h'=h:=by
 obtain⟨rfl,rfl⟩:=af e;exact⟨rfl,rfl⟩
structure cj (ν:Nat->Nat) (k:Cx) (g:Gh) (h':Hp) (I':Nat->Prop):Prop where
 rel:Rel ν k { g with I:=I',h:=h' }
 mono:aV ν g { g with I:=I',h:=h' }
 sub:∀b,g.I b->I' b
 up:∀b,I' b->g.I b\/∃id o,get g.h id=some o/\g.φ id=some b
 cells:∀id cs,get h' id=some (.cells cs)->get g.h id=some (.cells cs)
 alive:∀id,(get h' id).isSome=(get g.h id).isSome
theorem cj.refl {ν:Nat->Nat} {k:Cx} {g:Gh} (r:Rel ν k g):cj ν k g g.h g.I:=⟨r,.refl ν g,λ_ h=>h,λ_ h=>.inl h,λ_ _ h=>h,λ_=>rfl⟩
theorem cj.trans {ν:Nat->Nat} {k:Cx} {g:Gh} {h1 h2:Hp} {I1 I2:Nat->Prop} (a:cj ν k g h1 I1) (b:cj ν k { g with I:=I1,h:=h1 } h2 I2):cj ν k g h2 I2:=
 ⟨b.rel,a.mono.trans b.mono,λx hx=>b.sub x (a.sub x hx),λx hx=>by
  rcases b.up x hx with h | ⟨id,o,ho,ah⟩
  ·exact a.up x h
  ·have ha:=a.alive id;simp only[]at ho ah;rw[ho]at ha;cases hg:get g.h id with
   |none=>rw[hg]at ha;simp at ha
   |some o'=>exact .inr ⟨id,o',hg,ah⟩,
  λid cs h=>a.cells id cs (b.cells id cs h),λid=>(b.alive id).trans (a.alive id)⟩
theorem l8 {ν:Nat->Nat} {k:Cx} {g:Gh} (r:Rel ν k g) {id v e:Nat} {es:List (List IV)} (hg:get g.h id=some (.buf v e es)) :
  cj ν k g (set g.h id (.aZ v e es)) (λb=>g.I b\/g.φ id=some b):=by
 have cu:=r.ob id _ hg;have b8:∀b,g.φ id=some b->¬g.I b:=by
  intro b ah;rcases cu with⟨h1,_⟩|⟨b',h1,h2,_⟩
  ·rw[ah]at h1;cases h1
  ·rw[ah]at h1;cases h1;exact h2
 have ht:=r.iR (s:=id) (ob:=.aZ v e es) (p:=g.φ id) (w':=g.w) (I':=λb=>g.I b\/g.φ id=some b) hg b8 (Nat.le_refl _) rfl rfl rfl (λ_ _ _=>rfl) (λ_ h=>.inl h) (λ_ h=>h) (.inl rfl)
  (λu o n ai ho=>by
   unfold aE at ho ⊢;rw[hg]at ho;simp only[an,aw];exact ho)
  (λu ai i j hr=>by
   unfold aG at hr ⊢;rw[hg]at hr;simp only[an,aw];exact hr)
  (λcp _=>by
   rcases cu with⟨h1,h2⟩|⟨b,h1,h2,h3,h4⟩
   ·exact .inl ⟨(aw _ _ _).trans h1,h2⟩
   ·exact .inr ⟨b,(aw _ _ _).trans h1,.inr h1,h4.mono cp λ_ _ h=>h⟩)
 have ah:bl g.φ id (g.φ id)=g.φ:=by funext i;simp only[bl];split<;>simp_all
 rw[ah]at ht;refine⟨ht.1,ht.2,λ_ h=>.inl h,λb h=>h.imp _root_.id λh=>⟨id,_,hg,h⟩,λbW cs h=>?_,λbW=>?_⟩
 ·rw[aQ]at h;split at h
  ·cases h
  ·exact h
 ·rw[aQ];split
  ·rename_i he;subst he;rw[hg];rfl
  ·rfl
theorem mB {ν:Nat->Nat} {k:Cx} {g:Gh} (r:Rel ν k g) {id b:Nat} {cs:List AV} {xs:List IV} (hg:get g.h id=some (.cells cs)) (ah:g.φ id=some b)
  (hx:∀(j:Nat) (x:IV),xs[j]?=some x->∃u,g.w.cell? ⟨b,j,none⟩=some u/\RI ν g.I g.w u x) :
  cj ν k g (set g.h id (.aZ 0 xs.length [xs])) (λb=>g.I b\/g.φ id=some b):=by
 have cu:=r.ob id _ hg;have b8:∀b,g.φ id=some b->¬g.I b:=by
  intro b' aN;obtain⟨BY,h1,h2,_⟩:=cu;rw[aN]at h1;cases h1;exact h2
 have ht:=r.iR (s:=id) (ob:=.aZ 0 xs.length [xs]) (p:=g.φ id) (w':=g.w) (I':=λb=>g.I b\/g.φ id=some b) hg b8 (Nat.le_refl _) rfl rfl rfl (λ_ _ _=>rfl) (λ_ h=>.inl h) (λ_ h=>h) (.inl rfl)
  (λu o n ai ho=>by
   unfold aE at ho;rw[hg]at ho;exact ho.elim)
  (λu ai i j hr=>by
   unfold aG at hr ⊢;rw[hg]at hr;simp only[an,aw];obtain⟨rfl,rfl,b',h1,h2⟩:=hr;exact⟨Nat.le_refl _,λ_=>⟨b',h1,by simpa using h2⟩⟩)
  (λcp _=>by
   refine .inr ⟨b,(aw _ _ _).trans ah,.inr ah,⟨λc hc=>by simp at hc;subst hc;rfl,λi j c x h1 h2=>?_⟩⟩;cases i with
   |succ i=>simp at h1
   |zero=>
    simp at h1;subst h1;obtain⟨u,c1,c2⟩:=hx j x h2;exact⟨u,by simpa using c1,cp _ _ c2⟩)
 have aN:bl g.φ id (g.φ id)=g.φ:=by funext i;simp only[bl];split<;>simp_all
 rw[aN]at ht;refine⟨ht.1,ht.2,λ_ h=>.inl h,λb h=>h.imp _root_.id λh=>⟨id,_,hg,h⟩,λbW cs h=>?_,λbW=>?_⟩
 ·rw[aQ]at h;split at h
  ·cases h
  ·exact h
 ·rw[aQ];split
  ·rename_i he;subst he;rw[hg];rfl
  ·rfl
theorem kE {ν:Nat->Nat} {J:Nat->Prop} {w:World} {p:Option Nat} {e o m:Nat} {es:List (List IV)} (aC:∀b,p=some b->J b/\Row ν J w b e es) {v:Value}
  (h:cD w p e es o m v):RI ν J w v (.sl e ((es.drop o).take m)):=by
 cases hp:p with
 |none=>
  rw[hp]at h;obtain⟨⟨a,rfl⟩,rfl⟩:=h;simpa using .dU a 0 e
 |some b=>
  rw[hp]at h;obtain⟨x,cap,rfl,h2,h3,h4,_⟩:=h;obtain⟨hI,hl,hc⟩:=aC b hp;by_cases hm:m=0
  ·subst hm;simpa using .dU _ cap e
  ·have hx:x=o*e:=h4.resolve_right λh=>hm h.1
   subst hx;have eI:∀(i:Nat) (c:List IV),((es.drop o).take m)[i]?=some c->es[o+i]?=some c:=by
    intro i c hi;rw[List.getElem?_take]at hi;split at hi
    ·rwa [List.getElem?_drop]at hi
    ·cases hi
   have wU:∀(i:Nat) (c:List IV),((es.drop o).take m)[i]?=some c->∃f:Nat->Value,∀(j:Nat) (x:IV),c[j]?=some x->w.cell? ⟨b,(o+i)*e+j,none⟩=some (f j)/\RI ν J w (f j) x:=
    λi c hi=>pick λj x hj=>hc (o+i) j c x (eI i c hi) hj
   obtain⟨F,hF⟩:=qS wU;refine .sl b (o*e) m cap e _ F hI ?_ h3 (λc bJ=>hl c (List.mem_of_mem_drop (List.mem_of_mem_take bJ))) (λi j c x h1 h2=>?_) λi j c x h1 h2=>(hF i c h1 j x h2).2
   ·simp;omega
   ·have:=(hF i c h1 j x h2).1
    rwa [Nat.add_mul]at this
theorem gy {ν:Nat->Nat} {J:Nat->Prop} {w:World} {e i j b:Nat} {es:List (List IV)} {c:List IV} (hJ:J b) (aC:Row ν J w b e es) (hc:es[i]?=some c) :
  RI ν J w (.pointer (some ⟨b,i*e+j,none⟩)) (.ptr (c.drop j)):=by
 obtain⟨F,hF⟩:=pick (cs:=c) λl x hx=>aC.2 i l c x hc hx
 refine .ptr b (i*e+j) _ (λl=>F (j+l)) hJ (λl x h=>?_) λl x h=>?_
 ·rw[List.getElem?_drop]at h;have:=(hF _ x h).1
  rwa [<-Nat.add_assoc]at this
 ·rw[List.getElem?_drop]at h;exact(hF _ x h).2
theorem hZ {ν:Nat->Nat} {k:Cx} {g:Gh} (r:Rel ν k g) {id v' e o m:Nat} {es:List (List IV)} {ob:Ob} (hg:get g.h id=some ob) (dB:ob = .aZ v' e es) {v:Value}
  (h:cD g.w (g.φ id) e es o m v):RI ν g.I g.w v (.sl e ((es.drop o).take m)):=by
 subst dB;refine kE (λb hp=>?_) h;rcases r.ob id _ hg with⟨h1,_⟩|⟨b',h1,hI,aC⟩
 ·rw[hp]at h1;cases h1
 ·rw[hp]at h1;cases h1;exact⟨hI,aC⟩
theorem ia {ν:Nat->Nat} {k:Cx} {g:Gh} (r:Rel ν k g) {id v' e i j:Nat} {es:List (List IV)} {c:List IV} (hg:get g.h id=some (.aZ v' e es)) (hc:es[i]?=some c) {v:Value}
  (h:∃b,g.φ id=some b/\v = .pointer (some ⟨b,i*e+j,none⟩)):RI ν g.I g.w v (.ptr (c.drop j)):=by
 obtain⟨b,ah,rfl⟩:=h;rcases r.ob id _ hg with⟨h1,_⟩|⟨b',h1,hI,aC⟩
 ·rw[ah]at h1;cases h1
 ·rw[ah]at h1;cases h1;exact gy hI aC hc
def qT (ν:Nat->Nat) (f:AV->M IV):Prop:=
 ∀(k:Cx) (g:Gh) (a:AV) (x:IV) (h':Hp),(f a).run g.h=some (x,h')->Rel ν k g->∀v,RA ν g v a->∃I',cj ν k g h' I'/\RI ν I' g.w v x
theorem qT.list {ν:Nat->Nat} {f:AV->M IV} (hf:qT ν f):∀(cs:List AV) (k:Cx) (g:Gh) (xs:List IV) (h':Hp),(M.aJ f cs).run g.h=some (xs,h')->Rel ν k g->
  ∀V:Nat->Value,(∀(j:Nat) (c:AV),cs[j]?=some c->RA ν g (V j) c)->∃I',cj ν k g h' I'/\xs.length=cs.length/\∀(j:Nat) (x:IV),xs[j]?=some x->RI ν I' g.w (V j) x:=by
 intro cs
 induction cs with
 |nil=>
  intro k g xs h' e r V _;obtain⟨rfl,rfl⟩:=b7 e;exact⟨g.I,.refl r,rfl,λj x h=>by simp at h⟩
 |cons c cs ih=>
  intro k g xs h' e r V hV;obtain⟨y,h1,zs,e1,e2,rfl⟩:=bR e;obtain⟨I1,f1,r1⟩:=hf k g c y h1 e1 r (V 0) (hV 0 c rfl);obtain⟨I2,f2,hl,r2⟩:=ih k { g with I:=I1,h:=h1 } zs h' e2 f1.rel (λj=>V (j+1)) λj c' hc=>f1.mono _ _ (hV (j+1) c' (by simpa using hc))
  refine⟨I2,f1.trans f2,by simp[hl],λj x hx=>?_⟩;cases j with
  |zero=>simp at hx;subst hx;exact r1.mono f2.sub λ_ _ _ _ h=>h
  |succ j=>exact r2 j x (by simpa using hx)
theorem jl (ν:Nat->Nat):∀n,qT ν (fz true n):=by
 intro n
 induction n with
 |zero=>intro k g a x h' e;exact(ae e).elim
 |succ n ih=>
  intro k g a x h' e r v ha;cases ha with
  |undef=>exact(ae e).elim
  |agg=>exact(ae e).elim
  |aR=>exact(ae e).elim
  |iv hr=>
   cases hr with
   |aq a e'=>obtain⟨rfl,rfl⟩:=af e;exact⟨g.I,.refl r,.dU _ _ _⟩
   |bool b=>obtain⟨rfl,rfl⟩:=af e;exact⟨g.I,.refl r,.bool _⟩
   |int k' n'=>obtain⟨rfl,rfl⟩:=af e;exact⟨g.I,.refl r,.int _ _⟩
   |str s=>obtain⟨rfl,rfl⟩:=af e;exact⟨g.I,.refl r,.str _⟩
   |dU a c e'=>obtain⟨rfl,rfl⟩:=af e;exact⟨g.I,.refl r,.dU _ _ _⟩
   |sl b off n' cap e' es f h1 h2 h3 h4 h5 h6=>obtain⟨rfl,rfl⟩:=af e;exact⟨g.I,.refl r,.sl b off n' cap e' es f h1 h2 h3 h4 h5 h6⟩
   |bc=>obtain⟨rfl,rfl⟩:=af e;exact⟨g.I,.refl r,.bc⟩
   |ptr b off cs f h1 h2 h3=>obtain⟨rfl,rfl⟩:=af e;exact⟨g.I,.refl r,.ptr b off cs f h1 h2 h3⟩
   |fn f ax cs h1 h2=>obtain⟨rfl,rfl⟩:=af e;exact⟨g.I,.refl r,.fn f ax cs h1 h2⟩
   |junk v h1=>obtain⟨rfl,rfl⟩:=af e;exact⟨g.I,.refl r,.junk _ h1⟩
  |@own _ id o m ai j4 ho=>
   obtain⟨ob,hg,e2⟩:=M.aM e;unfold aE at ho;rw[hg]at ho;cases ob with
   |cells cs=>exact ho.elim
   |buf v' e' es=>
    obtain⟨hv,e4⟩:=M.aj e2;obtain⟨_,h3,e5,e6⟩:=ag e4;obtain rfl:=aI e5;obtain⟨rfl,rfl⟩:=af e6;have hf:=l8 r hg;have dm:v'=ai:=by simpa using hv
    refine⟨_,hf,?_⟩;exact hZ hf.rel (id:=id) (ob:=.aZ v' e' es) (an _ _ _) rfl (ho.2 dm)
   |aZ v' e' es=>
    obtain⟨hv,e4⟩:=M.aj e2;obtain⟨rfl,rfl⟩:=af e4;have dm:v'=ai:=by simpa using hv
    exact⟨g.I,.refl r,hZ r hg rfl (ho.2 dm)⟩
   |map _=>exact ho.elim
  |@ref _ id ai i j kF hr=>
   obtain⟨ob,hg,e2⟩:=M.aM e;unfold aG at hr;rw[hg]at hr;cases ob with
   |cells cs=>
    obtain⟨rfl,rfl,b,ah,rfl⟩:=hr;obtain⟨-,e4⟩:=M.aj e2;obtain⟨xs,h3,e5,e6⟩:=ag e4;obtain⟨jI,dc,e8⟩:=M.aM e6;obtain⟨b',aN,b8,_,hc⟩:=r.ob id _ hg;rw[ah]at aN;cases aN;obtain⟨V,hV⟩:=pick hc;obtain⟨I1,f1,hl,hx⟩:=ih.list cs k g xs _ e5 r V λj c h=>(hV j c h).2.2
    cases jI with
    |buf _ _ _=>exact(ae e8).elim
    |aZ _ _ _=>exact(ae e8).elim
    |map _=>exact(ae e8).elim
    |cells BZ=>
     have jJ:=f1.cells id BZ dc;rw[hg]at jJ;cases jJ;obtain⟨_,h5,e9,dg⟩:=ag e8;obtain rfl:=aI e9;obtain⟨rfl,rfl⟩:=af dg;have hlen:∀(j:Nat) (x:IV),xs[j]?=some x->∃c,cs[j]?=some c:=λj x h=>by
      have:j<xs.length:=by
       rcases Nat.lt_or_ge j xs.length with h' | h'
       ·exact h'
       ·rw[List.getElem?_eq_none h']at h;cases h
      exact⟨_,List.getElem?_eq_getElem (by omega)⟩
     have hf:=mB (xs:=xs) f1.rel dc ah λj x h=>let⟨c,bJ⟩:=hlen j x h;⟨V j,(hV j c bJ).1,hx j x h⟩
     refine⟨_,f1.trans hf,?_⟩;refine .ptr b j (xs.drop j) (λi=>V (j+i)) (.inr ah) (λi x h=>?_) λi x h=>?_
     ·rw[List.getElem?_drop]at h;obtain⟨c,bJ⟩:=hlen _ x h;exact(hV _ c bJ).1
     ·rw[List.getElem?_drop]at h;exact(hx _ x h).mono hf.sub λ_ _ _ _ h=>h
   |buf v' e' es=>
    obtain⟨hv,e4⟩:=M.aj e2;obtain⟨c,hc,e6⟩:=M.lift_bind e4;obtain⟨_,h4,e7,e8⟩:=ag e6;obtain rfl:=aI e7;obtain⟨rfl,rfl⟩:=af e8;have hf:=l8 r hg;have dm:v'=ai:=by simpa using hv
    exact⟨_,hf,ia hf.rel (id:=id) (v':=v') (es:=es) (an _ _ _) hc (hr.2 dm)⟩
   |aZ v' e' es=>
    obtain⟨hv,e4⟩:=M.aj e2;obtain⟨c,hc,e6⟩:=M.lift_bind e4;obtain⟨rfl,rfl⟩:=af e6;have dm:v'=ai:=by simpa using hv
    exact⟨g.I,.refl r,ia r hg hc (hr.2 dm)⟩
   |map _=>exact(ae e2).elim
  |@bp f ax cs hn hr=>
   obtain⟨xs,h1,e1,e2⟩:=ag e;obtain⟨rfl,rfl⟩:=af e2;obtain⟨I1,f1,hl,hx⟩:=ih.list cs k g xs _ e1 r (λj=>ax.getD j (.bool true)) λj c h=>by
    have:j<ax.size:=by
     rcases Nat.lt_or_ge j cs.length with h' | h'
     ·omega
     ·rw[List.getElem?_eq_none h']at h;cases h
    exact hr j _ c (by simp[Array.getD,this]) h
   refine⟨I1,f1,.fn f ax xs (by omega) λj v x h1 h2=>?_⟩;have:=hx j x h2
   rwa [show ax.getD j (.bool true)=v from by
    obtain⟨hj,he⟩:=Array.getElem?_eq_some_iff.1 h1;simp[Array.getD,hj,he]]at this
def qU (ν:Nat->Nat) (f:AV->M IV):Prop:=
 ∀(k:Cx) (g:Gh) (a:AV) (x:IV) (h':Hp),(f a).run g.h=some (x,h')->Rel ν k g->∀v,RA ν g v a->
  h'=g.h/\∀J:Nat->Prop,(∀b,g.I b->J b)->(∀id o b,get g.h id=some o->g.φ id=some b->J b)->RI ν J g.w v x
theorem qU.list {ν:Nat->Nat} {f:AV->M IV} (hf:qU ν f) (k:Cx) (g:Gh) (r:Rel ν k g):∀(cs:List AV) (xs:List IV) (h':Hp),(M.aJ f cs).run g.h=some (xs,h')->
  ∀V:Nat->Value,(∀(j:Nat) (c:AV),cs[j]?=some c->RA ν g (V j) c)->h'=g.h/\xs.length=cs.length/\
   ∀J:Nat->Prop,(∀b,g.I b->J b)->(∀id o b,get g.h id=some o->g.φ id=some b->J b)->∀(j:Nat) (x:IV),xs[j]?=some x->RI ν J g.w (V j) x:=by
 intro cs
 induction cs with
 |nil=>
  intro xs h' e V _;obtain⟨rfl,rfl⟩:=b7 e;exact⟨rfl,rfl,λ_ _ _ j x h=>by simp at h⟩
 |cons c cs ih=>
  intro xs h' e V hV;obtain⟨y,h1,zs,e1,e2,rfl⟩:=bR e;obtain⟨rfl,r1⟩:=hf k g c y h1 e1 r (V 0) (hV 0 c rfl);obtain⟨rfl,hl,r2⟩:=ih zs h' e2 (λj=>V (j+1)) λj c' hc=>hV (j+1) c' (by simpa using hc)
  refine⟨rfl,by simp[hl],λJ hJ fN j x hx=>?_⟩;cases j with
  |zero=>simp at hx;subst hx;exact r1 J hJ fN
  |succ j=>exact r2 J hJ fN j x (by simpa using hx)
theorem ln (ν:Nat->Nat):∀n,qU ν (fz false n):=by
 intro n
 induction n with
 |zero=>intro k g a x h' e;exact(ae e).elim
 |succ n ih=>
  intro k g a x h' e r v ha;have up:∀{J:Nat->Prop},(∀b,g.I b->J b)->∀{v:Value} {x:IV},RI ν g.I g.w v x->RI ν J g.w v x:=λhJ _ _ h=>h.mono hJ λ_ _ _ _ h=>h
  have AO:∀{J:Nat->Prop} {b e:Nat} {es:List (List IV)},(∀b,g.I b->J b)->Row ν g.I g.w b e es->Row ν J g.w b e es:=λhJ h=>h.mono (λ_ _=>up hJ) λ_ _ h=>h
  cases ha with
  |undef=>exact(ae e).elim
  |agg=>exact(ae e).elim
  |aR=>exact(ae e).elim
  |iv hr=>
   have key:∀y:IV,(M.ret y).run g.h=some (x,h')->RI ν g.I g.w v y->h'=g.h/\∀J:Nat->Prop,(∀b,g.I b->J b)->(∀id o b,get g.h id=some o->g.φ id=some b->J b)->RI ν J g.w v x:=by
    intro y e hy;obtain⟨rfl,rfl⟩:=af e;exact⟨rfl,λJ hJ _=>up hJ hy⟩
   cases hr with
   |aq a e'=>exact key _ e (.dU _ _ _)
   |bool b=>exact key _ e (.bool _)
   |int k' n'=>exact key _ e (.int _ _)
   |str s=>exact key _ e (.str _)
   |dU a c e'=>exact key _ e (.dU _ _ _)
   |sl b off n' cap e' es f h1 h2 h3 h4 h5 h6=>exact key _ e (.sl b off n' cap e' es f h1 h2 h3 h4 h5 h6)
   |bc=>exact key _ e .bc
   |ptr b off cs f h1 h2 h3=>exact key _ e (.ptr b off cs f h1 h2 h3)
   |fn f ax cs h1 h2=>exact key _ e (.fn f ax cs h1 h2)
   |junk v h1=>exact key _ e (.junk _ h1)
  |@own _ id o m ai j4 ho=>
   obtain⟨ob,hg,e2⟩:=M.aM e;unfold aE at ho;rw[hg]at ho;cases ob with
   |cells cs=>exact ho.elim
   |buf v' e' es=>
    obtain⟨hv,e4⟩:=M.aj e2;obtain⟨rfl,rfl⟩:=af e4;have dm:v'=ai:=by simpa using hv
    refine⟨rfl,λJ hJ fN=>kE (λb hp=>⟨fN id _ b hg hp,?_⟩) (ho.2 dm)⟩;rcases r.ob id _ hg with⟨h1,_⟩|⟨b',h1,_,_,aC⟩
    ·rw[hp]at h1;cases h1
    ·rw[hp]at h1;cases h1;exact AO hJ aC
   |aZ v' e' es=>
    obtain⟨hv,e4⟩:=M.aj e2;obtain⟨rfl,rfl⟩:=af e4;have dm:v'=ai:=by simpa using hv
    exact⟨rfl,λJ hJ _=>up hJ (hZ r hg rfl (ho.2 dm))⟩
   |map _=>exact ho.elim
  |@ref _ id ai i j kF hr=>
   obtain⟨ob,hg,e2⟩:=M.aM e;unfold aG at hr;rw[hg]at hr;cases ob with
   |cells cs=>
    obtain⟨rfl,rfl,b,ah,rfl⟩:=hr;obtain⟨-,e4⟩:=M.aj e2;obtain⟨xs,h3,e5,e6⟩:=ag e4;obtain⟨rfl,rfl⟩:=af e6;obtain⟨b',aN,b8,_,hc⟩:=r.ob id _ hg;rw[ah]at aN;cases aN;obtain⟨V,hV⟩:=pick hc;obtain⟨rfl,hl,hx⟩:=ih.list k g r cs xs _ e5 V λj c h=>(hV j c h).2.2
    have hlen:∀(j:Nat) (x:IV),xs[j]?=some x->∃c,cs[j]?=some c:=λj x h=>by
     have:j<xs.length:=by
      rcases Nat.lt_or_ge j xs.length with h' | h'
      ·exact h'
      ·rw[List.getElem?_eq_none h']at h;cases h
     exact⟨_,List.getElem?_eq_getElem (by omega)⟩
    refine⟨rfl,λJ hJ fN=>.ptr b j (xs.drop j) (λi=>V (j+i)) (fN id _ b hg ah) (λi x h=>?_) λi x h=>?_⟩
    ·rw[List.getElem?_drop]at h;obtain⟨c,bJ⟩:=hlen _ x h;exact(hV _ c bJ).1
    ·rw[List.getElem?_drop]at h;exact hx J hJ fN _ x h
   |buf v' e' es=>
    obtain⟨hv,e4⟩:=M.aj e2;obtain⟨c,hc,e6⟩:=M.lift_bind e4;obtain⟨rfl,rfl⟩:=af e6;have dm:v'=ai:=by simpa using hv
    obtain⟨b,ah,rfl⟩:=hr.2 dm;refine⟨rfl,λJ hJ fN=>gy (fN id _ b hg ah) ?_ hc⟩;rcases r.ob id _ hg with⟨h1,_⟩|⟨b',h1,_,_,aC⟩
    ·rw[ah]at h1;cases h1
    ·rw[ah]at h1;cases h1;exact AO hJ aC
   |aZ v' e' es=>
    obtain⟨hv,e4⟩:=M.aj e2;obtain⟨c,hc,e6⟩:=M.lift_bind e4;obtain⟨rfl,rfl⟩:=af e6;have dm:v'=ai:=by simpa using hv
    exact⟨rfl,λJ hJ _=>up hJ (ia r hg hc (hr.2 dm))⟩
   |map _=>exact(ae e2).elim
  |@bp f ax cs hn hr=>
   obtain⟨xs,h1,e1,e2⟩:=ag e;obtain⟨rfl,rfl⟩:=af e2;obtain⟨rfl,hl,hx⟩:=ih.list k g r cs xs _ e1 (λj=>ax.getD j (.bool true)) λj c h=>by
    have:j<ax.size:=by
     rcases Nat.lt_or_ge j cs.length with h' | h'
     ·omega
     ·rw[List.getElem?_eq_none h']at h;cases h
    exact hr j _ c (by simp[Array.getD,this]) h
   refine⟨rfl,λJ hJ fN=>.fn f ax xs (by omega) λj v x h1 h2=>?_⟩;have:=hx J hJ fN j x h2
   rwa [show ax.getD j (.bool true)=v from by
    obtain⟨hj,he⟩:=Array.getElem?_eq_some_iff.1 h1;simp[Array.getD,hj,he]]at this
def bf (ν:Nat->Nat) (k:Cx) (g:Gh) (h':Hp) (r:AV) (res:Result Value):Prop:=
 ∃g' v,res = .ok v g'.w/\g'.h=h'/\Rel ν k g'/\aV ν g g'/\RA ν g' v r
theorem bf.same {ν:Nat->Nat} {k:Cx} {g:Gh} (r:Rel ν k g) {v:Value} {x:AV} {res:Result Value} (hr:res = .ok v g.w) (h:RA ν g v x):bf ν k g g.h x res:=
 ⟨g,v,hr,rfl,r,.refl ν g,h⟩
def gN:TypeDesc->Bool
 |.struct _ | .array _ _=>true
 |_=>false
def fO (P:Program) (t:TypeId) (sz:Nat) (agg:Bool):Bool:=
 match P.underlying t,P.info? t with
 |some d,some i=>gN d==agg&&i.size==sz&&(agg||sz==1)
 |_,_=>false
theorem c8 {P:Program} {t:TypeId} {sz:Nat} {agg:Bool} (h:fO P t sz agg=true) :
  ∃d i,P.underlying t=some d/\P.info? t=some i/\gN d=agg/\i.size=sz/\(agg=false->sz=1):=by
 unfold fO at h;cases hu:P.underlying t with
 |none=>simp[hu]at h
 |some d=>
  cases hi:P.info? t with
  |none=>simp[hu,hi]at h
  |some i=>
   simp only[hu,hi,Bool.and_eq_true,beq_iff_eq,Bool.or_eq_true]at h;refine⟨d,i,rfl,rfl,h.1.1,h.1.2,λha=>?_⟩;rcases h.2 with h' | h'
   ·rw[ha]at h';cases h'
   ·exact h'
theorem cJ {P:Program} {t:TypeId} {d:TypeDesc} (h:P.underlying t=some d) (w:World):(isAgg t).run P w = .ok (gN d) w:=by
 cases d<;>simp[isAgg,run_underlying h,gN]
theorem run_sizeOf {P:Program} {t:TypeId} {i:TypeInfo} (h:P.info? t=some i) (w:World):(Go.sizeOf t).run P w = .ok i.size w:=by
 simp[Go.sizeOf,typeInfo,h]
theorem iB {agg:Bool} {l:List AV} {h h':Hp} {r:AV} (e:(mk agg l).run h=some (r,h')):h'=h/\(agg=true/\r = .agg l\/agg=false/\l=[r]):=by
 unfold mk at e;cases agg with
 |true=>simp only[if_true]at e;obtain⟨rfl,rfl⟩:=af e;exact⟨rfl,.inl ⟨rfl,rfl⟩⟩
 |false=>
  simp only[Bool.false_eq_true,if_false]at e
  match l with
  |[]=>exact(ae e).elim
  |[x]=>obtain⟨rfl,rfl⟩:=af e;exact⟨rfl,.inr ⟨rfl,rfl⟩⟩
  |_::_::_=>exact(ae e).elim
theorem jK {ν:Nat->Nat} {P:Program} {g:Gh} {t:TypeId} {sz:Nat} {agg:Bool} (ht:fO P t sz agg=true) {b off:Nat} {l:List AV} (hl:l.length=sz)
  (hc:∀(i:Nat) (x:AV),l[i]?=some x->∃v,g.w.cell? ⟨b,off+i,none⟩=some v/\v.oneCell'=true/\RA ν g v x) {r:AV} (hr:agg=true/\r = .agg l\/agg=false/\l=[r]) :
  ∃v,(loadVar t ⟨b,off,none⟩).run P g.w = .ok v g.w/\RA ν g v r:=by
 obtain⟨d,i,hu,hi,ha,hs,h1⟩:=c8 ht;obtain⟨V,hV⟩:=pick hc;rcases hr with⟨di,rfl⟩|⟨di,rfl⟩
 ·have ey:(loadCells ⟨b,off,none⟩ i.size).run P g.w = .ok ((List.range i.size).map V).toArray g.w:=run_loadCells g.w _ _ V λj hj=>by
   have:=(hV j (l[j]'(by omega)) (List.getElem?_eq_getElem (by omega))).1
   rwa [Addr.add_lit]
  refine⟨.agg ((List.range i.size).map V).toArray,?_,.agg (by simp;omega) (λj v h=>?_) λj v c h1 h2=>?_⟩
  ·simp[loadVar,cJ hu,ha,di,run_sizeOf hi,ey]
  ·obtain⟨hj,rfl⟩:j<i.size/\V j=v:=by
    have hj:j<i.size:=by
     rcases Nat.lt_or_ge j i.size with h' | h'
     ·exact h'
     ·simp[List.getElem?_eq_none (show(List.range i.size).length<=j by simpa using h')]at h
    exact⟨hj,by simpa[hj]using h⟩
   exact(hV j (l[j]'(by omega)) (List.getElem?_eq_getElem (by omega))).2.1
  ·have hj:j<l.length:=by
    rcases Nat.lt_or_ge j l.length with h' | h'
    ·exact h'
    ·rw[List.getElem?_eq_none h']at h2;cases h2
   obtain rfl:V j=v:=by simpa[show j<i.size by omega]using h1
   exact(hV j c h2).2.2
 ·have h0:=hV 0 r rfl;refine⟨V 0,?_,h0.2.2⟩;have:=h0.1;simp only[Nat.add_zero]at this;simp[loadVar,cJ hu,ha,di,this]
theorem l9 {ν:Nat->Nat} {k:Cx} {g:Gh} (r:Rel ν k g) {id ai i j sz:Nat} {ob:Ob} {l:List AV} (hg:get g.h id=some ob) (hl:cP ob ai i j sz=some l) {v:Value}
  (h:aG g v id ai i j):∃b off,v = .pointer (some ⟨b,off,none⟩)/\∀(m:Nat) (x:AV),l[m]?=some x->∃v,g.w.cell? ⟨b,off+m,none⟩=some v/\v.oneCell'=true/\RA ν g v x:=by
 unfold aG at h;rw[hg]at h;have cu:=r.ob id _ hg;have row:∀{b e:Nat} {es:List (List IV)} {c:List IV},Row ν g.I g.w b e es->es[i]?=some c->∀(m:Nat) (x:AV),(((c.drop j).take sz).map AV.iv)[m]?=some x->
   ∃v,g.w.cell? ⟨b,i*e+j+m,none⟩=some v/\v.oneCell'=true/\RA ν g v x:=by
  intro b e es c aC hc m x hx;simp only[List.getElem?_map,List.getElem?_take,Option.map_eq_some_iff]at hx;obtain⟨y,hy,rfl⟩:=hx;split at hy
  ·rw[List.getElem?_drop]at hy;obtain⟨v,h1,h2⟩:=aC.2 i (j+m) c y hc hy;exact⟨v,by rw[Nat.add_assoc];exact h1,h2.one,.iv h2⟩
  ·cases hy
 cases ob with
 |cells cs=>
  obtain⟨rfl,rfl,b,ah,rfl⟩:=h;obtain⟨b',aN,_,_,hc⟩:=cu;rw[ah]at aN;cases aN;simp only[cP,true_and,if_true,Option.some.injEq]at hl;subst hl;refine⟨b,j,rfl,λm x hx=>?_⟩;rw[List.getElem?_take]at hx;split at hx
  ·rw[List.getElem?_drop]at hx;exact hc _ _ hx
  ·cases hx
 |buf v' e es=>
  simp only[cP]at hl;split at hl
  ·rename_i hv;obtain⟨b,ah,rfl⟩:=h.2 hv;simp only[Option.map_eq_some_iff]at hl;obtain⟨c,hc,rfl⟩:=hl;rcases cu with⟨h1,_⟩|⟨b',h1,_,_,aC⟩
   ·rw[ah]at h1;cases h1
   ·rw[ah]at h1;cases h1;exact⟨b,_,rfl,row aC hc⟩
  ·cases hl
 |aZ v' e es=>
  simp only[cP]at hl;split at hl
  ·rename_i hv;obtain⟨b,ah,rfl⟩:=h.2 hv;simp only[Option.map_eq_some_iff]at hl;obtain⟨c,hc,rfl⟩:=hl;rcases cu with⟨h1,_⟩|⟨b',h1,_,aC⟩
   ·rw[ah]at h1;cases h1
   ·rw[ah]at h1;cases h1;exact⟨b,_,rfl,row aC hc⟩
  ·cases hl
 |map _=>simp[cP]at hl
theorem lf {ν:Nat->Nat} {P:Program} {k:Cx} {g:Gh} (r:Rel ν k g) {t:TypeId} {sz:Nat} {agg:Bool} (ht:fO P t sz agg=true) {v:Value} {x y:AV} {h':Hp} (hv:RA ν g v x)
  (e:(load agg sz x).run g.h=some (y,h')):h'=g.h/\∃u,(Instr.loadAt t v).run P g.w = .ok u g.w/\RA ν g u y:=by
 cases hv with
 |undef=>exact(ae e).elim
 |agg=>exact(ae e).elim
 |aR=>exact(ae e).elim
 |own=>exact(ae e).elim
 |bp=>exact(ae e).elim
 |iv hr=>
  cases hr with
  |ptr b off cs f hI hc hr=>
   obtain⟨hl,e2⟩:=M.aj e;obtain⟨rfl,hm⟩:=iB e2;have jL:((cs.take sz).map AV.iv).length=sz:=by simpa using hl
   obtain⟨u,hu,hR⟩:=jK (ν:=ν) (g:=g) ht (b:=b) (off:=off) jL (λi x hx=>by
    simp only[List.getElem?_map,Option.map_eq_some_iff,List.getElem?_take]at hx;obtain⟨y,hy,rfl⟩:=hx;split at hy
    ·exact⟨f i,hc i y hy,(hr i y hy).one,.iv (hr i y hy)⟩
    ·cases hy) hm
   exact⟨rfl,u,by simp[Instr.loadAt,Instr.sureAddr,hu],hR⟩
  |_=>exact(ae e).elim
 |ref kF hr=>
  obtain⟨ob,hg,e2⟩:=M.aM e;obtain⟨l,hl,e4⟩:=M.lift_bind e2;obtain⟨jL,e6⟩:=M.aj e4;obtain⟨rfl,hm⟩:=iB e6;obtain⟨b,off,rfl,hc⟩:=l9 r hg hl hr;obtain⟨u,hu,hR⟩:=jK (ν:=ν) (g:=g) ht (b:=b) (off:=off) (by simpa using jL) hc hm;exact⟨rfl,u,by simp[Instr.loadAt,Instr.sureAddr,hu],hR⟩
theorem sb {ν:Nat->Nat} {P:Program} {k:Cx} {g:Gh} (r:Rel ν k g) {t:TypeId} {sz:Nat} {agg:Bool} (ht:fO P t sz agg=true) {v:Value} {x y:AV} {h':Hp} (hv:RA ν g v x)
  (e:(load agg sz x).run g.h=some (y,h')):bf ν k g h' y ((Instr.loadAt t v).run P g.w):=by
 obtain⟨rfl,u,hu,hR⟩:=lf r ht hv e;exact .same r hu hR
theorem aG.move {g:Gh} {v:Value} {id ai i j:Nat} {ob:Ob} (hg:get g.h id=some ob) (hv:valid ob ai i=true) (h:aG g v id ai i j) (n:Nat) :
  ∃b off,v = .pointer (some ⟨b,off,none⟩)/\aG g (.pointer (some ⟨b,off+n,none⟩)) id ai i (j+n):=by
 unfold aG at h ⊢;rw[hg]at h ⊢;cases ob with
 |cells cs=>
  obtain⟨rfl,rfl,b,ah,rfl⟩:=h;exact⟨b,j,rfl,rfl,rfl,b,ah,rfl⟩
 |buf v' e es=>
  obtain⟨b,ah,rfl⟩:=h.2 (by simpa[valid]using hv);exact⟨b,_,rfl,h.1,λ_=>⟨b,ah,by rw[Nat.add_assoc]⟩⟩
 |aZ v' e es=>
  obtain⟨b,ah,rfl⟩:=h.2 (by simpa[valid]using hv);exact⟨b,_,rfl,h.1,λ_=>⟨b,ah,by rw[Nat.add_assoc]⟩⟩
 |map _=>simp[valid]at hv
theorem RI.drop {ν:Nat->Nat} {I:Nat->Prop} {w:World} {b off n:Nat} {cs:List IV} (h:RI ν I w (.pointer (some ⟨b,off,none⟩)) (.ptr cs)) :
  RI ν I w (.pointer (some ⟨b,off+n,none⟩)) (.ptr (cs.drop n)):=by
 cases h with
 |ptr _ _ _ f hI hc hr=>
  refine .ptr b (off+n) _ (λj=>f (n+j)) hI (λj x hx=>?_) λj x hx=>?_
  ·rw[List.getElem?_drop]at hx;rw[Nat.add_assoc];exact hc _ _ hx
  ·rw[List.getElem?_drop]at hx;exact hr _ _ hx
def pr (P:Program) (s:TypeId) (f off:Nat):Bool:=
 match P.underlying s with
 |some (.struct fs)=>match fs[f]? with
  |some fd=>fd.offset==off&&(match P.info? fd.type with | some i=>i.size != 0 | none=>false)
  |none=>false
 |_=>false
theorem sc {ν:Nat->Nat} {P:Program} {k:Cx} {g:Gh} (r:Rel ν k g) {s:TypeId} {f off:Nat} (ht:pr P s f off=true) {v:Value} {x y:AV} {h':Hp} (hv:RA ν g v x)
  (e:(eD off x).run g.h=some (y,h')):bf ν k g h' y ((Instr.fieldAt s v f).run P g.w):=by
 unfold pr at ht;split at ht
 ·rename_i fs hu;split at ht
  ·rename_i fd hf;simp only[Bool.and_eq_true,beq_iff_eq]at ht;obtain⟨rfl,bB⟩:=ht;split at bB
   ·rename_i i hi;have bF:¬i.size=0:=by simpa using bB
    have key:∀(b o:Nat),(Instr.fieldAt s (.pointer (some ⟨b,o,none⟩)) f).run P g.w = .ok (.pointer (some ⟨b,o+fd.offset,none⟩)) g.w:=by
     intro b o;simp[Instr.fieldAt,run_underlying hu,hf,Instr.sureAddr,fieldPlace,run_sizeOf hi,bF,Addr.add_lit]
    cases hv with
    |undef=>exact(ae e).elim
    |agg=>exact(ae e).elim
    |aR=>exact(ae e).elim
    |own=>exact(ae e).elim
    |bp=>exact(ae e).elim
    |iv hr=>
     cases hr with
     |ptr b o cs f' hI hc hr=>
      obtain⟨-,e2⟩:=M.aj e;obtain⟨rfl,rfl⟩:=af e2;exact .same r (key _ _) (.iv (RI.drop (.ptr b o cs f' hI hc hr)))
     |_=>exact(ae e).elim
    |ref kF hr=>
     obtain⟨ob,hg,e2⟩:=M.aM e;obtain⟨cc,e4⟩:=M.aj e2;obtain⟨rfl,rfl⟩:=af e4;obtain⟨b,o,rfl,hR⟩:=hr.move hg cc fd.offset;exact .same r (key _ _) (.ref rfl hR)
   ·cases bB
  ·cases ht
 ·cases ht
theorem dC {x:AV} {n:Int} {h h':Hp} (e:(idx x).run h=some (n,h')):h'=h/\∃k,x = .iv (.int k n):=by
 unfold idx at e;split at e
 ·obtain⟨rfl,rfl⟩:=af e;exact⟨rfl,_,rfl⟩
 ·exact(ae e).elim
def px (P:Program) (t:TypeId) (len e:Nat):Bool:=
 match P.underlying t with
 |some (.array n el)=>n==len&&(match P.info? el with | some i=>i.size==e | none=>false)
 |_=>false
theorem qV {P:Program} {t:TypeId} {len e:Nat} (h:px P t len e=true):∃el i,P.underlying t=some (.array len el)/\P.info? el=some i/\i.size=e:=by
 unfold px at h;split at h
 ·rename_i n el hu;simp only[Bool.and_eq_true,beq_iff_eq]at h;obtain⟨rfl,h⟩:=h;split at h
  ·rename_i i hi;exact⟨el,i,hu,hi,by simpa using h⟩
  ·cases h
 ·cases h
theorem se {ν:Nat->Nat} {P:Program} {k:Cx} {g:Gh} (r:Rel ν k g) {t:TypeId} {len e:Nat} (ht:px P t len e=true) {v u:Value} {x z y:AV} {h':Hp} (hv:RA ν g v x) (hu:RA ν g u z)
  (e':(eE len e x z).run g.h=some (y,h')):bf ν k g h' y ((Instr.indexAt t v u).run P g.w):=by
 obtain⟨el,i,dD,hi,rfl⟩:=qV ht;obtain⟨n,h1,e1,e2⟩:=ag e';obtain⟨rfl,kk,rfl⟩:=dC e1;cases hu with
 |iv hz=>
  cases hz;obtain⟨hn,e4⟩:=M.aj e2;have cZ:0<=n/\n<len:=by simpa using hn
  have key:∀(b o:Nat),(Instr.indexAt t (.pointer (some ⟨b,o,none⟩)) (.int kk n)).run P g.w = .ok (.pointer (some ⟨b,o+n.toNat*i.size,none⟩)) g.w:=by
   intro b o;simp[Instr.indexAt,run_underlying dD,Instr.sureAddr,asIntOf,cZ,run_sizeOf hi,Addr.add_lit]
  cases hv with
  |undef=>exact(ae e4).elim
  |agg=>exact(ae e4).elim
  |aR=>exact(ae e4).elim
  |own=>exact(ae e4).elim
  |bp=>exact(ae e4).elim
  |iv hr=>
   cases hr with
   |ptr b o cs f' hI hc hr=>
    obtain⟨-,e2⟩:=M.aj e4;obtain⟨rfl,rfl⟩:=af e2;exact .same r (key _ _) (.iv (RI.drop (.ptr b o cs f' hI hc hr)))
   |_=>exact(ae e4).elim
  |ref kF hr=>
   obtain⟨ob,hg,e2⟩:=M.aM e4;obtain⟨cc,e4⟩:=M.aj e2;obtain⟨rfl,rfl⟩:=af e4;obtain⟨b,o,rfl,hR⟩:=hr.move hg cc (n.toNat*i.size);exact .same r (key _ _) (.ref rfl hR)
def sliceB (P:Program) (t:TypeId) (e:Nat):Bool:=
 match P.underlying t with
 |some (.slice el)=>(match P.info? el with | some i=>i.size==e | none=>false)
 |_=>false
theorem dz {P:Program} {t:TypeId} {e:Nat} (h:sliceB P t e=true):∃el i,P.underlying t=some (.slice el)/\P.info? el=some i/\i.size=e:=by
 unfold sliceB at h;split at h
 ·rename_i el hu;split at h
  ·rename_i i hi;exact⟨el,i,hu,hi,by simpa using h⟩
  ·cases h
 ·cases h
theorem tL {ν:Nat->Nat} {P:Program} {k:Cx} {g:Gh} (r:Rel ν k g) {t:TypeId} {e:Nat} (ht:sliceB P t e=true) {v u:Value} {x z y:AV} {h':Hp} (hv:RA ν g v x) (hu:RA ν g u z)
  (e':(gX e x z).run g.h=some (y,h')):bf ν k g h' y ((Instr.indexAt t v u).run P g.w):=by
 obtain⟨el,i,dD,hi,rfl⟩:=dz ht;obtain⟨n,h1,e1,e2⟩:=ag e';obtain⟨rfl,kk,rfl⟩:=dC e1;cases hu with
 |iv hz=>
  cases hz;obtain⟨hn,e4⟩:=M.aj e2;have cZ:0<=n:=by simpa using hn
  have key:∀(b o len cap:Nat),n<(len:Int)->(Instr.indexAt t (.slice (some ⟨b,o,none⟩) len cap) (.int kk n)).run P g.w = .ok (.pointer (some ⟨b,o+n.toNat*i.size,none⟩)) g.w:=by
   intro b o len cap aT;simp[Instr.indexAt,run_underlying dD,asIntOf,cZ,aT,run_sizeOf hi,Addr.add_lit]
  cases hv with
  |undef=>exact(ae e4).elim
  |agg=>exact(ae e4).elim
  |aR=>exact(ae e4).elim
  |ref=>exact(ae e4).elim
  |bp=>exact(ae e4).elim
  |iv hr=>
   cases hr with
   |dU a cap aD=>
    obtain⟨-,e2⟩:=M.aj e4;obtain⟨c,hc,e6⟩:=M.lift_bind e2;simp at hc
   |sl b off m cap aD es f hI hm eH hl hc hr=>
    obtain⟨he,e2⟩:=M.aj e4;obtain⟨c,bJ,e6⟩:=M.lift_bind e2;obtain⟨rfl,rfl⟩:=af e6;have cr:aD=i.size:=by simpa using he
    subst cr;have aT:n.toNat<es.length:=by
     rcases Nat.lt_or_ge n.toNat es.length with h | h
     ·exact h
     ·rw[List.getElem?_eq_none h]at bJ;cases bJ
    refine .same r (key b off m cap (by omega)) (.iv (.ptr b _ c (λj=>f n.toNat j) hI (λj x hx=>?_) λj x hx=>hr _ _ _ _ bJ hx));exact hc _ _ _ _ bJ hx
   |_=>exact(ae e4).elim
  |@own _ id o m ai j4 ho=>
   obtain⟨hm,e2⟩:=M.aj e4;obtain⟨ob,hg,e5⟩:=M.aM e2;have dv:n<(m:Int):=by simpa using hm
   unfold aE at ho;rw[hg]at ho;have fin:∀{v' aD:Nat} {es:List (List IV)},(get g.h id=some (.buf v' aD es)\/get g.h id=some (.aZ v' aD es))->v'=ai->aD=i.size->cD g.w (g.φ id) aD es o m v->
     bf ν k g g.h (.ref id ai (o+n.toNat) 0) ((Instr.indexAt t v (.int kk n)).run P g.w):=by
    intro v' aD es dc hv he hs;cases ah:g.φ id with
    |none=>rw[ah]at hs;obtain⟨_,rfl⟩:=hs;omega
    |some b=>
     rw[ah]at hs;obtain⟨x,cap,rfl,h2,h3,h4,_⟩:=hs;have hx:x=o*aD:=h4.resolve_right λh=>by have:=h.1;omega
     subst hx he;refine .same r (key b _ m cap dv) (.ref rfl ?_);unfold aG;rcases dc with dc | dc<;>rw[dc]<;>exact⟨Nat.le_of_eq hv.symm,λ_=>⟨b,ah,by rw[Nat.add_mul];rfl⟩⟩
   cases ob with
   |cells cs=>exact ho.elim
   |buf v' aD es=>
    obtain⟨cw,e7⟩:=M.aj e5;obtain⟨rfl,rfl⟩:=af e7;simp only[Bool.and_eq_true,beq_iff_eq]at cw;exact fin (.inl hg) cw.1 cw.2 (ho.2 cw.1)
   |aZ v' aD es=>
    obtain⟨cw,e7⟩:=M.aj e5;obtain⟨rfl,rfl⟩:=af e7;simp only[Bool.and_eq_true,beq_iff_eq]at cw;exact fin (.inr hg) cw.1 cw.2 (ho.2 cw.1)
   |map _=>exact ho.elim
section
variable {ν:Nat->Nat} {P:Program} {k:Cx} {g:Gh}
theorem RA.int {v:Value} {kk:IntKind} {n:Int} (h:RA ν g v (.iv (.int kk n))):v = .int kk n:=by cases h with | iv h=>cases h;rfl
theorem RA.bool {v:Value} {b:Bool} (h:RA ν g v (.iv (.bool b))):v = .bool b:=by cases h with | iv h=>cases h;rfl
theorem RA.str {v:Value} {s:ByteArray} (h:RA ν g v (.iv (.str s))):v = .string s:=by cases h with | iv h=>cases h;rfl
theorem RA.bc {v:Value} (h:RA ν g v (.iv .bc)):v = .pointer none:=by cases h with | iv h=>cases h;rfl
theorem RA.ptr {v:Value} {cs:List IV} (h:RA ν g v (.iv (.ptr cs))):∃b off,v = .pointer (some ⟨b,off,none⟩):=by cases h with | iv h=>cases h;exact⟨_,_,rfl⟩
theorem mkInt {kk:IntKind} {n:Int}:RA ν g (.int kk n) (.iv (.int kk n)):=.iv (.int _ _)
theorem bK {b:Bool}:RA ν g (.bool b) (.iv (.bool b)):=.iv (.bool _)
theorem mkStr {s:ByteArray}:RA ν g (.string s) (.iv (.str s)):=.iv (.str _)
theorem j7 {t:TypeId} {sz off:Nat} {agg:Bool} (ht:fO P t sz agg=true) {vs:Array Value} {cs:List AV} (hv:RA ν g (.agg vs) (.agg cs)) (hl:((cs.drop off).take sz).length=sz)
  {r:AV} (hr:agg=true/\r = .agg ((cs.drop off).take sz)\/agg=false/\(cs.drop off).take sz=[r]) (w:World):∃v,(part t vs off).run P w = .ok v w/\RA ν g v r:=by
 obtain⟨d,i,hu,hi,ha,hs,h1⟩:=c8 ht;subst hs;cases hv with
 |agg hn ho fg=>
  have cK:off+i.size<=cs.length\/i.size=0:=by simp only[List.length_take,List.length_drop]at hl;omega
  rcases hr with⟨di,rfl⟩|⟨di,hr⟩
  ·have key:∀(j:Nat) (v:Value),(vs.extract off (off+i.size))[j]?=some v->vs[off+j]?=some v/\j<i.size:=by
    intro j v h;rw[Array.getElem?_extract]at h;split at h
    ·exact⟨h,by omega⟩
    ·cases h
   refine⟨.agg (vs.extract off (off+i.size)),by simp[part,cJ hu,ha,di,run_sizeOf hi],.agg (by simp only[Array.size_extract,hl];omega) (λj v h=>ho _ v (key j v h).1) λj v c h h2=>?_⟩;obtain⟨h',aT⟩:=key j v h;rw[List.getElem?_take,if_pos aT,List.getElem?_drop]at h2;exact fg _ v c h' h2
  ·have hz:i.size=1:=h1 di;have hc:cs[off]?=some r:=by
    have:((cs.drop off).take i.size)[0]?=some r:=by rw[hr];rfl
    rw[List.getElem?_take,if_pos (by omega),List.getElem?_drop]at this;simpa using this
   have aT:off<vs.size:=by omega
   refine⟨vs[off],by simp[part,cJ hu,ha,di,Array.getElem?_eq_getElem aT],fg off _ r (Array.getElem?_eq_getElem aT) hc⟩
theorem mR {agg:Bool} {off sz:Nat} {x y:AV} {h h':Hp} (e:(fk agg off sz x).run h=some (y,h')) :
  h'=h/\∃cs,x = .agg cs/\((cs.drop off).take sz).length=sz/\(agg=true/\y = .agg ((cs.drop off).take sz)\/agg=false/\(cs.drop off).take sz=[y]):=by
 unfold fk at e;split at e
 ·rename_i cs;obtain⟨hl,e2⟩:=M.aj e;obtain⟨rfl,hm⟩:=iB e2;exact⟨rfl,cs,rfl,by simpa using hl,hm⟩
 ·exact(ae e).elim
theorem RA.dP {v:Value} {cs:List AV} (h:RA ν g v (.agg cs)):∃vs,v = .agg vs:=by cases h;exact⟨_,rfl⟩
def sf (P:Program) (s:TypeId) (f:Nat) (agg:Bool) (off sz:Nat):Bool:=
 match P.underlying s with
 |some (.struct fs)=>match fs[f]? with
  |some fd=>fd.offset==off&&fO P fd.type sz agg
  |none=>false
 |_=>false
theorem tM (r:Rel ν k g) {s:TypeId} {f off sz:Nat} {agg:Bool} (ht:sf P s f agg off sz=true) {v:Value} {x y:AV} {h':Hp} (hv:RA ν g v x)
  (e:(fk agg off sz x).run g.h=some (y,h')):bf ν k g h' y ((Instr.field s v f).run P g.w):=by
 unfold sf at ht;split at ht
 ·rename_i fs hu;split at ht
  ·rename_i fd hf;simp only[Bool.and_eq_true,beq_iff_eq]at ht;obtain⟨rfl,ht⟩:=ht;obtain⟨rfl,cs,rfl,hl,hm⟩:=mR e;obtain⟨vs,rfl⟩:=hv.dP;obtain⟨u,dD,hR⟩:=j7 ht hv hl hm g.w;exact .same r (by simp[Instr.field,run_underlying hu,hf,asAgg,dD]) hR
  ·cases ht
 ·cases ht
def py (P:Program) (t:TypeId) (agg:Bool) (len e:Nat):Bool:=
 match P.underlying t with
 |some (.array n el)=>n==len&&fO P el e agg
 |_=>false
theorem sg (r:Rel ν k g) {t:TypeId} {len e:Nat} {agg:Bool} (ht:py P t agg len e=true) {v u:Value} {x z y:AV} {h':Hp} (hv:RA ν g v x) (hu:RA ν g u z)
  (e':(eF agg len e x z).run g.h=some (y,h')):bf ν k g h' y ((Instr.index t v u).run P g.w):=by
 unfold py at ht;split at ht
 ·rename_i n el dD;simp only[Bool.and_eq_true,beq_iff_eq]at ht;obtain⟨rfl,ht⟩:=ht;obtain⟨m,h1,e1,e2⟩:=ag e';obtain⟨rfl,kk,rfl⟩:=dC e1;obtain rfl:=hu.int;obtain⟨hm,e4⟩:=M.aj e2;have dv:0<=m/\m<n:=by simpa using hm
  obtain⟨rfl,cs,rfl,hl,tN⟩:=mR e4;obtain⟨vs,rfl⟩:=hv.dP;obtain⟨d,i,_,hi,_,hs,_⟩:=c8 ht;obtain⟨u,zE,hR⟩:=j7 ht hv hl tN g.w;exact .same r (by simp[Instr.index,run_underlying dD,asIntOf,dv,run_sizeOf hi,hs,zE]) hR
 ·cases ht
theorem sh (r:Rel ν k g) {t:TypeId} (ht:P.underlying t=some .string) {v u:Value} {x z y:AV} {h':Hp} (hv:RA ν g v x) (hu:RA ν g u z)
  (e:(fH x z).run g.h=some (y,h')):bf ν k g h' y ((Instr.index t v u).run P g.w):=by
 unfold fH at e;split at e
 ·rename_i s kk n;obtain rfl:=hv.str;obtain rfl:=hu.int;obtain⟨hn,e2⟩:=M.aj e;have cZ:0<=n:=by simpa using hn
  split at e2
  ·rename_i b hb;obtain⟨rfl,rfl⟩:=af e2;exact .same r (by simp[Instr.index,run_underlying ht,asIntOf,cZ,hb]) mkInt
  ·exact(ae e2).elim
 ·exact(ae e).elim
theorem oo {op:BinOp} {t:TypeId} {kk k':IntKind} {a b:Int} {z:IV} (h:ew op kk k' a b=some z) (w:World) :
  ∃v,(binOp op t (.int kk a) (.int k' b)).run P w = .ok v w/\RI ν g.I g.w v z:=by
 cases op
 case shl=>
  simp only[ew]at h;split at h
  ·cases h
  ·rename_i hb;cases h;exact⟨_,by simp[binOp,Op.shift,hb],.int _ _⟩
 case shr=>
  simp only[ew]at h;split at h
  ·cases h
  ·rename_i hb;cases h;exact⟨_,by simp[binOp,Op.shift,hb],.int _ _⟩
 all_goals
  simp only[ew]at h;split at h
  case isFalse=>cases h
  rename_i hk;subst hk
 case quo=>
  split at h
  ·cases h
  ·rename_i hb;cases h;exact⟨_,by simp[binOp,Op.intDiv,hb],.int _ _⟩
 case rem=>
  split at h
  ·cases h
  ·rename_i hb;cases h;exact⟨_,by simp[binOp,Op.intDiv,hb],.int _ _⟩
 all_goals cases h
 case add | sub | mul=>exact⟨_,by simp[binOp,Op.intArith],.int _ _⟩
 case and | or | xor | andNot=>exact⟨_,by simp[binOp];rfl,.int _ _⟩
 all_goals exact⟨_,by simp[binOp,Op.intCmp],.bool _⟩
theorem oq {op:BinOp} {t:TypeId} {a b:ByteArray} {z:IV} (h:hY op a b=some z) (w:World) :
  ∃v,(binOp op t (.string a) (.string b)).run P w = .ok v w/\RI ν g.I g.w v z:=by
 cases op<;>simp only[hY]at h<;>(try cases h)
 case add=>
  split at h
  ·rename_i hb;cases h;refine⟨.string (a++b),?_,.str _⟩;have:¬(9223372036854775807:Int)<((a.size:Int)+b.size):=by omega
   simp[binOp,Op.stringOp,this]
  ·cases h
 all_goals exact⟨_,by simp[binOp,Op.stringOp,po,beq_toListBytes],.bool _⟩
def AP (P:Program) (op:BinOp) (t:TypeId) (q:Nat):Bool:=
 match q with
 |0=>true
 |1=>(match P.underlying t with | some .bool=>true | _=>false)
 |2=>(match P.underlying t with | some (.pointer _)=>true | _=>false)
 |_=>op==op
theorem ma (d:Nat) {t el:TypeId} (h:P.underlying t=some (.pointer el)) (w:World):(Op.equalIn (d+1) t (.pointer none) (.pointer none)).run P w = .ok true w:=by simp[Op.equalIn,run_underlying h]
theorem jm (d:Nat) {t el:TypeId} (h:P.underlying t=some (.pointer el)) (a:Addr) (w:World):(Op.equalIn (d+1) t (.pointer (some a)) (.pointer none)).run P w = .ok false w:=by simp[Op.equalIn,run_underlying h]
theorem jn (d:Nat) {t el:TypeId} (h:P.underlying t=some (.pointer el)) (a:Addr) (w:World):(Op.equalIn (d+1) t (.pointer none) (.pointer (some a))).run P w = .ok false w:=by simp[Op.equalIn,run_underlying h]
theorem iC {t:TypeId} {a b:Option Addr} {z:Bool} (h:∀(d:Nat) (w:World),(Op.equalIn (d+1) t (.pointer a) (.pointer b)).run P w = .ok z w) (x y:Operand) (w:World) :
  ((do eqGuard .eql t x y (.pointer a) (.pointer b);binOp .eql t (.pointer a) (.pointer b):Sem Value).run P w = .ok (.bool z) w)/\
  ((do eqGuard .neq t x y (.pointer a) (.pointer b);binOp .neq t (.pointer a) (.pointer b):Sem Value).run P w = .ok (.bool (!z)) w):=by
 have h':(Op.equal t (.pointer a) (.pointer b)).run P w = .ok z w:=h 9999 w;constructor
 ·simp only[Sem.run_bind,eqGuard_at_pointer,Sem.run_pure,Result.andThen_ok,binOp];simp[h']
 ·simp only[Sem.run_bind,eqGuard_at_pointer,Sem.run_pure,Result.andThen_ok,binOp];simp[h']
theorem tO (r:Rel ν k g) {op:BinOp} {t:TypeId} {q:Nat} (ht:AP P op t q=true) {a b:Operand} {v u:Value} {x z:AV} {y:IV} (hv:RA ν g v x) (hu:RA ν g u z) (e:bin op q x z=some y) :
  bf ν k g g.h (.iv y) ((do eqGuard op t a b v u;binOp op t v u:Sem Value).run P g.w):=by
 unfold bin at e;split at e
 ·obtain rfl:=hv.int;obtain rfl:=hu.int;obtain⟨w',h1,h2⟩:=oo (ν:=ν) (P:=P) (g:=g) (t:=t) e g.w;exact .same r (by simp[eqGuard_at_int,h1]) (.iv h2)
 ·obtain rfl:=hv.str;obtain rfl:=hu.str;obtain⟨w',h1,h2⟩:=oq (ν:=ν) (P:=P) (g:=g) (t:=t) e g.w;exact .same r (by simp[eqGuard_at_string,h1]) (.iv h2)
 ·obtain rfl:=hv.bool;obtain rfl:=hu.bool;have dE:P.underlying t=some .bool:=by
   simp only[AP]at ht;split at ht
   ·assumption
   ·cases ht
  split at e
  ·cases e;exact .same r (by simp only[Sem.run_bind,eqGuard_at_bool,Sem.run_pure,Result.andThen_ok];exact run_eql_bool _ _ _ _ dE) bK
  ·cases e;refine .same r (v:=.bool (!_)) ?_ bK;simp only[Sem.run_bind,eqGuard_at_bool,Sem.run_pure,Result.andThen_ok,binOp];simp[run_equal_bool g.w t _ _ dE]
  ·cases e
 case h_7=>cases e
 all_goals
  have dE:∃el,P.underlying t=some (.pointer el):=by
   simp only[AP]at ht;split at ht
   ·exact⟨_,by assumption⟩
   ·cases ht
  obtain⟨el,dE⟩:=dE
 ·obtain rfl:=hv.bc;obtain rfl:=hu.bc;have key:=iC (P:=P) (λd w=>ma d dE w) a b g.w;split at e
  ·cases e;exact .same r key.1 bK
  ·cases e;exact .same r key.2 bK
  ·cases e
 ·obtain⟨b',off,rfl⟩:=hv.ptr;obtain rfl:=hu.bc;have key:=iC (P:=P) (λd w=>jm d dE ⟨b',off,none⟩ w) a b g.w;split at e
  ·cases e;exact .same r key.1 bK
  ·cases e;exact .same r key.2 bK
  ·cases e
 ·obtain rfl:=hv.bc;obtain⟨b',off,rfl⟩:=hu.ptr;have key:=iC (P:=P) (λd w=>jn d dE ⟨b',off,none⟩ w) a b g.w;split at e
  ·cases e;exact .same r key.1 bK
  ·cases e;exact .same r key.2 bK
  ·cases e
def du (q:Nat) (d:Option TypeDesc):Bool:=
 match d with
 |some (.int _)=>q==0
 |some .bool=>q==1
 |some .string=>q==2
 |_=>false
theorem nw {d:Option TypeDesc} (h:du 0 d=true):∃kk,d=some (.int kk):=by
 unfold du at h;split at h<;>first | exact⟨_,rfl⟩|simp at h
theorem mb {d:Option TypeDesc} (h:du 1 d=true):d=some .bool:=by
 unfold du at h;split at h<;>first | rfl | simp at h
theorem ny {d:Option TypeDesc} (h:du 2 d=true):d=some .string:=by
 unfold du at h;split at h<;>first | rfl | simp at h
def vP (P:Program):List Field->List Nat->Nat->Bool
 |[],[],_=>true
 |f::fs,q::qs,i=>f.name != "_"&&f.offset==i&&fO P f.type 1 false&&du q (P.underlying f.type)&&vP P fs qs (i+1)
 |_,_,_=>false
theorem lp {q:Nat} {t:TypeId} {x y:AV} {b:Bool} (e:jv q x y=some b) (ht:du q (P.underlying t)=true) {v u:Value} (hv:RA ν g v x) (hu:RA ν g u y) (d:Nat) (w:World) :
  (Op.equalIn (d+1) t v u).run P w = .ok b w:=by
 unfold jv at e;split at e
 ·obtain rfl:=hv.int;obtain rfl:=hu.int;obtain⟨kk,h1⟩:=nw ht;simp only[Option.ite_none_right_eq_some,Option.some.injEq]at e;obtain⟨hk,rfl⟩:=e;subst hk;exact run_equalIn_int w d t _ _ _ _ h1
 ·cases e;obtain rfl:=hv.bool;obtain rfl:=hu.bool;exact run_equalIn_bool w d t _ _ (mb ht)
 ·cases e;obtain rfl:=hv.str;obtain rfl:=hu.str;rw[run_equalIn_string w d t _ _ (ny ht),beq_toListBytes]
 ·cases e
theorem B0 {xs ys:Array Value} (d:Nat) (w:World):∀(fs:List Field) (qs:List Nat) (i:Nat) (cs ds:List AV) (b:Bool),vP P fs qs i=true->eqs qs cs ds=some b->
  (∀(j:Nat) (c:AV),cs[j]?=some c->∃v,xs[i+j]?=some v/\RA ν g v c)->(∀(j:Nat) (c:AV),ds[j]?=some c->∃v,ys[i+j]?=some v/\RA ν g v c)->
  (Op.eqFields (d+1) xs ys fs).run P w = .ok b w:=by
 intro fs
 induction fs with
 |nil=>
  intro qs i cs ds b h1 h2 _ _;cases qs with
  |cons=>simp[vP]at h1
  |nil=>
   cases cs<;>cases ds<;>simp[eqs]at h2;subst h2;simp[Op.eqFields]
 |cons f fs ih=>
  intro qs i cs ds b h1 h2 hx hy;cases qs with
  |nil=>simp[vP]at h1
  |cons q qs=>
   cases cs with
   |nil=>simp[eqs]at h2
   |cons c cs=>
    cases ds with
    |nil=>simp[eqs]at h2
    |cons d' ds=>
     simp only[vP,Bool.and_eq_true]at h1;obtain⟨⟨⟨⟨hn,tP⟩,gO⟩,hq⟩,cN⟩:=h1;simp only[eqs,Option.bind_eq_some_iff]at h2;obtain⟨b1,e1,b2,e2,e3⟩:=h2;cases e3;obtain⟨v,hv,yf⟩:=hx 0 c rfl;obtain⟨u,hu,s4⟩:=hy 0 d' rfl;obtain⟨dd,ii,h3,h4,h5,h6,_⟩:=c8 gO;have tx:f.offset=i:=by simpa using tP
     have jw:(part f.type xs f.offset).run P w = .ok v w:=by simp[part,cJ h3,h5,tx,show xs[i]?=some v from hv]
     have bD:(part f.type ys f.offset).run P w = .ok u w:=by simp[part,cJ h3,h5,tx,show ys[i]?=some u from hu]
     have he:=lp (P:=P) e1 hq yf s4 d w;have hr:=ih qs (i+1) cs ds b2 cN e2 (λj c hc=>by have:=hx (j+1) c (by simpa using hc);rwa [show i+1+j=i+(j+1) by omega]) (λj c hc=>by
      have:=hy (j+1) c (by simpa using hc);rwa [show i+1+j=i+(j+1) by omega])
     have cZ:f.name≠"_":=by simpa using hn
     simp only[Op.eqFields,if_pos cZ,Sem.run_bind,jw,bD,he,Result.andThen_ok,Sem.run_ite];cases b1
     ·simp
     ·simp[hr]
def zF (P:Program) (t:TypeId) (qs:List Nat):Bool:=
 match P.underlying t with
 |some (.struct fs)=>vP P fs.toList qs 0&&!P.stoodInHeld t&&!P.eqGuardType P.depth t
 |_=>false
theorem RA.dQ {vs:Array Value} {cs:List AV} (h:RA ν g (.agg vs) (.agg cs)) (j:Nat) (c:AV) (hc:cs[j]?=some c):∃v,vs[j]?=some v/\RA ν g v c:=by
 cases h with
 |agg hn _ hr=>
  have hj:j<cs.length:=by
   rcases Nat.lt_or_ge j cs.length with h' | h'
   ·exact h'
   ·rw[List.getElem?_eq_none h']at hc;cases hc
  exact⟨vs[j],Array.getElem?_eq_getElem (by omega),hr j _ c (Array.getElem?_eq_getElem (by omega)) hc⟩
theorem B1 (r:Rel ν k g) {t:TypeId} {qs:List Nat} (ht:zF P t qs=true) {a b:Operand} {v u:Value} {cs ds:List AV} {z:Bool} (neg:Bool) (hv:RA ν g v (.agg cs)) (hu:RA ν g u (.agg ds)) (e:eqs qs cs ds=some z) :
  bf ν k g g.h (.iv (.bool (if neg then !z else z))) ((do eqGuard (if neg then .neq else .eql) t a b v u;binOp (if neg then .neq else .eql) t v u:Sem Value).run P g.w):=by
 unfold zF at ht;split at ht
 ·rename_i fs gn;simp only[Bool.and_eq_true,Bool.not_eq_true']at ht;obtain⟨⟨h1,h2⟩,h3⟩:=ht;obtain⟨xs,rfl⟩:=hv.dP;obtain⟨ys,rfl⟩:=hu.dP;have qW:P.fieldsOf t=fs:=by simp[Program.fieldsOf,gn]
  have aY:=B0 (ν:=ν) (P:=P) (g:=g) (xs:=xs) (ys:=ys) 9998 g.w fs.toList qs 0 cs ds z h1 e (λj c hc=>by simpa using hv.dQ j c hc) (λj c hc=>by simpa using hu.dQ j c hc);have fp:=run_equalIn_struct g.w 9999 t xs ys (by rw[qW];exact gn) h2;rw[qW]at fp;cases neg
  ·refine .same r ?_ bK;simp only[Bool.false_eq_true,if_false,Sem.run_bind,run_eqGuard_agg _ _ _ _ _ _ _ h3,Result.andThen_ok,run_eql_struct,fp,aY]
  ·refine .same r ?_ bK;simp only[if_true,Sem.run_bind,run_eqGuard_agg _ _ _ _ _ _ _ h3,Result.andThen_ok,run_neq_struct,fp,aY]
 ·cases ht
theorem wV (r:Rel ν k g) {op:UnOp} {v:Value} {x:AV} {y:IV} (hv:RA ν g v x) (e:un op x=some y):bf ν k g g.h (.iv y) ((Op.unary op v).run P g.w):=by
 unfold un at e;split at e
 ·obtain rfl:=hv.int;split at e
  ·cases e;exact .same r (by simp[Op.unary,Op.intArith]) mkInt
  ·cases e;exact .same r (v:=.int _ _) (by simp only[Op.unary,intBits_xor];rfl) mkInt
  ·cases e
 ·obtain rfl:=hv.bool;split at e
  ·cases e;exact .same r (by simp[Op.unary]) bK
  ·cases e
 ·cases e
def si (P:Program) (s d:TypeId) (kk:IntKind):Bool:=
 (P.underlying s).isSome&&(match P.underlying d with | some (.int k')=>k'==kk | _=>false)
theorem tQ (r:Rel ν k g) {s d:TypeId} {kk:IntKind} (ht:si P s d kk=true) {v:Value} {x:AV} {n:Int} {h':Hp} (hv:RA ν g v x) (e:(idx x).run g.h=some (n,h')) :
  bf ν k g g.h (.iv (.int kk (kk.wrap n))) ((convert s d v).run P g.w):=by
 obtain⟨_,k',rfl⟩:=dC e;obtain rfl:=hv.int;unfold si at ht;simp only[Bool.and_eq_true]at ht;obtain⟨h1,h2⟩:=ht;obtain⟨sd,hs⟩:=Option.isSome_iff_exists.1 h1;split at h2
 ·rename_i yg hd;have:yg=kk:=by simpa using h2
  subst this;exact .same r (by simp[convert,run_underlying hs,run_underlying hd,Conv.intToInt]) mkInt
 ·cases h2
theorem tR (r:Rel ν k g) {s d:TypeId} (hs:P.underlying s=some .string) (hd:P.underlying d=some .string) {v:Value} {t:ByteArray} (hv:RA ν g v (.iv (.str t))) :
  bf ν k g g.h (.iv (.str t)) ((convert s d v).run P g.w):=by
 obtain rfl:=hv.str;exact .same r (by simp[convert,run_underlying hs,run_underlying hd]) mkStr
end
section
variable {ν:Nat->Nat} {P:Program} {k:Cx} {g:Gh}
def RO (ν:Nat->Nat) (g:Gh):Option Value->Option AV->Prop
 |none,none=>True
 |some v,some x=>RA ν g v x
 |_,_=>False
theorem ib {y:Nat} {o:Option AV} {n:Option Nat} {h h':Hp} (e:(bound y o).run h=some (n,h')) {c:Option Value} (hc:RO ν g c o) :
  h'=h/\(o=none/\n=none/\c=none\/∃(kk:IntKind) (m:Nat),c=some (.int kk m)/\m<=y/\n=some m):=by
 unfold bound at e;split at e
 ·obtain⟨rfl,rfl⟩:=af e;cases c with
  |none=>exact⟨rfl,.inl ⟨rfl,rfl,rfl⟩⟩
  |some v=>exact hc.elim
 ·rename_i kk m;obtain⟨hm,e2⟩:=M.aj e;obtain⟨rfl,rfl⟩:=af e2;have dv:0<=m/\m<=y:=by simpa using hm
  cases c with
  |none=>exact hc.elim
  |some v=>
   obtain rfl:=RA.int hc;exact⟨rfl,.inr ⟨kk,m.toNat,by rw[Int.toNat_of_nonneg dv.1],by omega,rfl⟩⟩
 ·exact(ae e).elim
theorem cU {n cap:Nat} (eH:n<=cap) {lo hi:Option AV} {cl ch:Option Value} {l h:Option Nat} {g0 g1 g2:Hp} (dI:Bool)
  (eh:(bound n hi).run g0=some (h,g1)) (el:(bound (h.getD n) lo).run g1=some (l,g2)) (hh:RO ν g ch hi) (hl:RO ν g cl lo) (w:World) :
  g2=g0/\l.getD 0<=h.getD n/\h.getD n<=n/\(Instr.sliceBounds dI n cap cl ch none).run P w = .ok (l.getD 0,h.getD n,cap) w:=by
 obtain⟨rfl,h1⟩:=ib eh hh;obtain⟨rfl,h2⟩:=ib el hl;refine⟨rfl,?_⟩;rcases h1 with⟨-,rfl,rfl⟩|⟨k1,m1,rfl,fT,rfl⟩
 ·rcases h2 with⟨-,rfl,rfl⟩|⟨k2,m2,rfl,fU,rfl⟩
  ·simp[Instr.sliceBounds]
  ·simp only[Option.getD_none]at fU;have:(Instr.sliceBound (.int k2 m2) n .sliceB).run P w = .ok m2 w:=by simp[Instr.sliceBound,asIntOf,fU]
   simp[Instr.sliceBounds,this,fU]
 ·have hs:∀c,(Instr.sliceBound (.int k1 m1) cap c).run P w = .ok m1 w:=λc=>by
   have:m1<=cap:=by omega
   simp[Instr.sliceBound,asIntOf,this]
  rcases h2 with⟨-,rfl,rfl⟩|⟨k2,m2,rfl,fU,rfl⟩
  ·simp[Instr.sliceBounds,hs,fT]
  ·simp only[Option.getD_some]at fU;have:(Instr.sliceBound (.int k2 m2) m1 .sliceB).run P w = .ok m2 w:=by simp[Instr.sliceBound,asIntOf,fU]
   simp[Instr.sliceBounds,hs,this,fU,fT]
theorem dA {t el:TypeId} {i:TypeInfo} (hu:P.underlying t=some (.slice el)) (hi:P.info? el=some i) {a:Option Addr} {n cap l h:Nat} {cl ch:Option Value} {w:World}
  (hb:(Instr.sliceBounds true n cap cl ch none).run P w = .ok (l,h,cap) w) :
  (Instr.sliceAt t (.slice a n cap) cl ch none).run P w = .ok (.slice (if cap=l then a else a.map (·.add (l*i.size))) (h - l) (cap - l)) w:=by
 have:(Instr.slice t (.slice a n cap) cl ch none).run P w = .ok (.slice (if cap=l then a else a.map (·.add (l*i.size))) (h - l) (cap - l)) w:=by
  simp[Instr.slice,run_underlying hu,hb,run_sizeOf hi]
 simp[Instr.sliceAt,run_underlying hu,this]
theorem tS (r:Rel ν k g) {t:TypeId} {e:Nat} (ht:sliceB P t e=true) {v:Value} {cl ch:Option Value} {x y:AV} {lo hi:Option AV} {h':Hp} (hv:RA ν g v x) (hl:RO ν g cl lo) (hh:RO ν g ch hi)
  (e':(hU e x lo hi).run g.h=some (y,h')):bf ν k g h' y ((Instr.sliceAt t v cl ch none).run P g.w):=by
 obtain⟨el,i,hu,bY,rfl⟩:=dz ht;cases hv with
 |undef=>exact(ae e').elim
 |agg=>exact(ae e').elim
 |aR=>exact(ae e').elim
 |ref=>exact(ae e').elim
 |bp=>exact(ae e').elim
 |iv hr=>
  cases hr with
  |dU a cap aD=>
   obtain⟨-,e2⟩:=M.aj e';obtain⟨hb,h2,e3,e4⟩:=ag e2;obtain⟨lb,h3,e5,e6⟩:=ag e4;obtain⟨rfl,h4,h5,h6⟩:=cU (ν:=ν) (g:=g) (P:=P) (n:=0) (cap:=cap) (Nat.zero_le _) true e3 e5 hh hl g.w;obtain⟨rfl,rfl⟩:=af e6;simp only[List.length_nil]at *;have hz:hb.getD 0=0:=by omega
   have qX:lb.getD 0=0:=by omega
   refine .same r (dA hu bY h6) (.iv ?_);simp only[hz,qX,List.take_nil,List.drop_nil,Nat.sub_zero];exact .dU _ _ _
  |sl b off n cap aD es f hI hn eH lq hc hr=>
   obtain⟨he,e2⟩:=M.aj e';obtain⟨hb,h2,e3,e4⟩:=ag e2;obtain⟨lb,h3,e5,e6⟩:=ag e4;subst hn;obtain⟨rfl,h4,h5,h6⟩:=cU (ν:=ν) (g:=g) (P:=P) eH true e3 e5 hh hl g.w;obtain⟨rfl,rfl⟩:=af e6;have cr:aD=i.size:=by simpa using he
   subst cr;refine .same r (dA hu bY h6) (.iv ?_);generalize lb.getD 0=l at *;generalize hb.getD es.length=h at *;by_cases B2:l=h
   ·subst B2;have:(es.take l).drop l=[]:=by simp
    rw[this,Nat.sub_self];exact .dU _ _ _
   ·have bF:¬cap=l:=by omega
    rw[if_neg bF];simp only[Option.map_some,Addr.add_lit];have eI:∀(j:Nat) (c:List IV),((es.take h).drop l)[j]?=some c->es[l+j]?=some c:=by
     intro j c hj;rw[List.getElem?_drop,List.getElem?_take]at hj;split at hj
     ·exact hj
     ·cases hj
    refine .sl b _ _ _ i.size _ (λa b=>f (l+a) b) hI (by simp;omega) (by omega) (λc bJ=>lq c (List.mem_of_mem_take (List.mem_of_mem_drop bJ))) (λa j c x h1 h2=>?_) λa j c x h1 h2=>hr _ _ _ _ (eI a c h1) h2
    have:=hc _ _ _ _ (eI a c h1) h2
    rwa [Nat.add_mul,<-Nat.add_assoc]at this
  |_=>exact(ae e').elim
 |@own _ id o m ai j4 ho=>
  obtain⟨hb,h2,e3,e4⟩:=ag e';obtain⟨lb,h3,e5,e6⟩:=ag e4;obtain⟨ob,h4,e7,e8⟩:=ag e6;have q1:=(ib e3 hh).1;subst q1;have q2:=(ib e5 hl).1;subst q2;obtain⟨hg,rfl⟩:=ku e7;unfold aE at ho;rw[hg]at ho;have fin:∀{v' aD:Nat} {es:List (List IV)},(get g.h id=some (.buf v' aD es)\/get g.h id=some (.aZ v' aD es))->v'=ai->aD=i.size->cD g.w (g.φ id) aD es o m v->
    bf ν k g g.h (.own id (o+lb.getD 0) (hb.getD m - lb.getD 0) ai) ((Instr.sliceAt t v cl ch none).run P g.w):=by
   intro v' aD es dc hv he hs;have own:∀u:Value,u.oneCell'=true->cD g.w (g.φ id) aD es (o+lb.getD 0) (hb.getD m - lb.getD 0) u->RA ν g u (.own id (o+lb.getD 0) (hb.getD m - lb.getD 0) ai):=by
    intro u B3 IY;refine .own B3 ?_;unfold aE;rcases dc with dc | dc<;>rw[dc]<;>exact⟨Nat.le_of_eq hv.symm,λ_=>IY⟩
   cases ah:g.φ id with
   |none=>
    rw[ah]at hs;obtain⟨⟨a,rfl⟩,rfl⟩:=hs;obtain⟨-,h4,h5,h6⟩:=cU (ν:=ν) (g:=g) (P:=P) (n:=0) (cap:=0) (Nat.le_refl _) true e3 e5 hh hl g.w;refine .same r (dA hu bY h6) (own _ rfl ?_);rw[ah];have:hb.getD 0=0:=by omega
    have:lb.getD 0=0:=by omega
    exact⟨⟨a,by simp[*]⟩,by omega⟩
   |some b=>
    rw[ah]at hs;obtain⟨x,cap,rfl,q2,q3,q4,q5⟩:=hs;obtain⟨-,h4,h5,h6⟩:=cU (ν:=ν) (g:=g) (P:=P) q3 true e3 e5 hh hl g.w;refine .same r (dA hu bY h6) (own _ rfl ?_);rw[ah];subst he;generalize lb.getD 0=l at *;generalize hb.getD m=h at *;by_cases dw:cap=l
    ·rw[if_pos dw];refine⟨x,cap - l,rfl,by omega,by omega,?_,λhx c hc=>?_⟩
     ·rcases q4 with q4 | q4
      ·by_cases qY:l=0
       ·left;subst qY;simpa using q4
       ·right;omega
      ·right;omega
     ·by_cases ot:x=o*i.size
      ·exact q5 ot c (Nat.lt_of_lt_of_le hc (Nat.mul_le_mul_right _ (by omega)))
      ·have:=q4.resolve_left ot;have qY:l=0:=by omega
       subst qY;exact absurd (by simpa using hx) ot
    ·rw[if_neg dw];refine⟨x+l*i.size,cap - l,by simp[Addr.add_lit],by omega,by omega,?_,λhx c hc=>?_⟩
     ·rcases q4 with q4 | q4
      ·left;rw[q4,Nat.add_mul]
      ·right;omega
     ·have ot:x=o*i.size:=by rw[Nat.add_mul]at hx;omega
      exact q5 ot c (Nat.lt_of_lt_of_le hc (Nat.mul_le_mul_right _ (by omega)))
  cases ob with
  |cells cs=>exact ho.elim
  |buf v' aD es=>
   obtain⟨cw,dg⟩:=M.aj e8;obtain⟨rfl,rfl⟩:=af dg;simp only[Bool.and_eq_true,beq_iff_eq]at cw;exact fin (.inl hg) cw.1 cw.2 (ho.2 cw.1)
  |aZ v' aD es=>
   obtain⟨cw,dg⟩:=M.aj e8;obtain⟨rfl,rfl⟩:=af dg;simp only[Bool.and_eq_true,beq_iff_eq]at cw;exact fin (.inr hg) cw.1 cw.2 (ho.2 cw.1)
  |map _=>exact ho.elim
theorem sj (r:Rel ν k g) {t:TypeId} (ht:P.underlying t=some .string) {v:Value} {cl ch:Option Value} {x y:AV} {lo hi:Option AV} {h':Hp} (hv:RA ν g v x) (hl:RO ν g cl lo) (hh:RO ν g ch hi)
  (e:(fR x lo hi).run g.h=some (y,h')):bf ν k g h' y ((Instr.sliceAt t v cl ch none).run P g.w):=by
 unfold fR at e;split at e
 ·rename_i s;obtain rfl:=hv.str;obtain⟨hb,h2,e3,e4⟩:=ag e;obtain⟨lb,h3,e5,e6⟩:=ag e4;obtain⟨rfl,h4,h5,h6⟩:=cU (ν:=ν) (g:=g) (P:=P) (n:=s.size) (cap:=s.size) (Nat.le_refl _) false e3 e5 hh hl g.w;obtain⟨rfl,rfl⟩:=af e6;refine .same r (v:=.string (s.extract (lb.getD 0) (hb.getD s.size))) ?_ mkStr;simp[Instr.sliceAt,Instr.slice,run_underlying ht,h6]
 ·exact(ae e).elim
theorem vQ {t el:TypeId} {i:TypeInfo} (hu:P.underlying t=some (.slice el)) (hi:P.info? el=some i) {a:Option Addr} {n cap:Nat} {cl:Option Value} {k1 k2:IntKind} (dw:cl=none\/∃k3,cl=some (.int k3 0)) (w:World) :
  ∃a',(Instr.sliceAt t (.slice a n cap) cl (some (.int k1 0)) (some (.int k2 0))).run P w = .ok (.slice a' 0 0) w:=by
 rcases dw with rfl | ⟨k3,rfl⟩
 ·exact⟨a,by simp[Instr.sliceAt,Instr.slice,run_underlying hu,Instr.sliceBounds,Instr.sliceBound,asIntOf,run_sizeOf hi]⟩
 ·exact⟨a,by simp[Instr.sliceAt,Instr.slice,run_underlying hu,Instr.sliceBounds,Instr.sliceBound,asIntOf,run_sizeOf hi]⟩
theorem tT (r:Rel ν k g) {t:TypeId} {e:Nat} (ht:sliceB P t e=true) {v:Value} {cl:Option Value} {k1 k2:IntKind} (dw:cl=none\/∃k3,cl=some (.int k3 0)) {x y:AV} {h':Hp} (hv:RA ν g v x)
  (e':(lh e x).run g.h=some (y,h')):bf ν k g h' y ((Instr.sliceAt t v cl (some (.int k1 0)) (some (.int k2 0))).run P g.w):=by
 obtain⟨el,i,hu,hi,rfl⟩:=dz ht;have key:∀a n cap,bf ν k g g.h (.iv (.aq i.size)) ((Instr.sliceAt t (.slice a n cap) cl (some (.int k1 0)) (some (.int k2 0))).run P g.w):=by
  intro a n cap;obtain⟨a',h⟩:=vQ (k1:=k1) (k2:=k2) hu hi (a:=a) (n:=n) (cap:=cap) dw g.w;exact .same r h (.iv (.aq _ _))
 cases hv with
 |undef=>exact(ae e').elim
 |agg=>exact(ae e').elim
 |aR=>exact(ae e').elim
 |ref=>exact(ae e').elim
 |bp=>exact(ae e').elim
 |iv hr=>
  cases hr with
  |aq a aD=>obtain⟨rfl,rfl⟩:=af e';exact key _ _ _
  |dU a cap aD=>obtain⟨rfl,rfl⟩:=af e';exact key _ _ _
  |sl b off n cap aD es f hI hn eH lq hc hr=>obtain⟨rfl,rfl⟩:=af e';exact key _ _ _
  |_=>exact(ae e').elim
 |@own _ id o m ai j4 ho=>
  obtain⟨ob,hg,e2⟩:=M.aM e';obtain⟨cc,e4⟩:=M.aj e2;unfold aE at ho;rw[hg]at ho;have fin:∀{aD:Nat} {es:List (List IV)},cD g.w (g.φ id) aD es o m v->bf ν k g g.h (.iv (.aq i.size)) ((Instr.sliceAt t v cl (some (.int k1 0)) (some (.int k2 0))).run P g.w):=by
   intro aD es hs;cases ah:g.φ id with
   |none=>rw[ah]at hs;obtain⟨⟨a,rfl⟩,_⟩:=hs;exact key _ _ _
   |some b=>rw[ah]at hs;obtain⟨x,cap,rfl,_⟩:=hs;exact key _ _ _
  cases ob with
  |cells cs=>exact ho.elim
  |buf v' aD es=>obtain⟨rfl,rfl⟩:=af e4;exact fin (ho.2 (by simpa[valid]using cc))
  |aZ v' aD es=>obtain⟨rfl,rfl⟩:=af e4;exact fin (ho.2 (by simpa[valid]using cc))
  |map _=>exact ho.elim
def sk (P:Program) (t:TypeId) (str:Bool):Bool:=
 match P.underlying t with
 |some (.slice _)=>!str
 |some .string=>str
 |_=>false
theorem tU (r:Rel ν k g) {t ty:TypeId} {str:Bool} (ht:sk P t str=true) {v:Value} {x y:AV} {h':Hp} (hv:RA ν g v x) (e:(len str x).run g.h=some (y,h')) :
  bf ν k g h' y ((Builtin.len_ #[t] ty #[v]).run P g.w):=by
 unfold sk at ht;split at ht
 ·rename_i el hu;have:str=false:=by simpa using ht
  subst this;have key:∀(a:Option Addr) (n cap:Nat),bf ν k g g.h (.iv (.int .i64 n)) ((Builtin.len_ #[t] ty #[.slice a n cap]).run P g.w):=λa n cap=>
   .same r (v:=.int .i64 n) (by simp[Builtin.len_,run_underlying hu,goInt]) mkInt
  cases hv with
  |undef=>exact(ae e).elim
  |agg=>exact(ae e).elim
  |aR=>exact(ae e).elim
  |ref=>exact(ae e).elim
  |bp=>exact(ae e).elim
  |iv hr=>
   cases hr with
   |aq a aD=>obtain⟨rfl,rfl⟩:=af e;exact key _ _ _
   |dU a cap aD=>obtain⟨rfl,rfl⟩:=af e;exact key _ 0 _
   |sl b off n cap aD es f hI hn eH lq hc hr=>obtain⟨rfl,rfl⟩:=af e;rw[hn];exact key _ _ _
   |_=>exact(ae e).elim
  |@own _ id o m ai j4 ho=>
   obtain⟨ob,hg,e2⟩:=M.aM e;unfold aE at ho;rw[hg]at ho;have fin:∀{aD:Nat} {es:List (List IV)},cD g.w (g.φ id) aD es o m v->bf ν k g g.h (.iv (.int .i64 m)) ((Builtin.len_ #[t] ty #[v]).run P g.w):=by
    intro aD es hs;cases ah:g.φ id with
    |none=>rw[ah]at hs;obtain⟨⟨a,rfl⟩,rfl⟩:=hs;exact key _ _ _
    |some b=>rw[ah]at hs;obtain⟨x,cap,rfl,_⟩:=hs;exact key _ _ _
   cases ob with
   |cells cs=>exact ho.elim
   |buf v' aD es=>
    obtain⟨cc,e4⟩:=M.aj e2;obtain⟨rfl,rfl⟩:=af e4;exact fin (ho.2 (by simpa using cc))
   |aZ v' aD es=>
    obtain⟨cc,e4⟩:=M.aj e2;obtain⟨rfl,rfl⟩:=af e4;exact fin (ho.2 (by simpa using cc))
   |map _=>exact ho.elim
 ·rename_i hu;have:str=true:=ht;subst this;unfold len at e;split at e
  ·rename_i h;cases h
  ·rename_i h;cases h
  ·rename_i h;cases h
  ·obtain⟨rfl,rfl⟩:=af e;obtain rfl:=hv.str;exact .same r (v:=.int .i64 _) (by simp[Builtin.len_,run_underlying hu,goInt]) mkInt
  ·exact(ae e).elim
 ·cases ht
theorem wW (P:Program) (w:World):∀(xs:List AV) (vs:List Value) (a:Int) (kk:IntKind) (z:Int),mP a xs kk=some z->vs.length=xs.length->(∀(j:Nat) (v:Value) (x:AV),vs[j]?=some v->xs[j]?=some x->RA ν g v x)->
  (vs.foldlM Builtin.min2 (.int kk a)).run P w = .ok (.int kk z) w:=by
 intro xs
 induction xs with
 |nil=>
  intro vs a kk z h hl _;have:vs=[]:=List.eq_nil_of_length_eq_zero hl;subst this;simp[mP]at h;subst h;rfl
 |cons x xs ih=>
  intro vs a kk z h hl hr;cases vs with
  |nil=>simp at hl
  |cons v vs=>
   have h0:=hr 0 v x rfl rfl;unfold mP at h;split at h
   ·rename_i heq;cases heq
   ·rename_i B4 b r heq;cases heq;split at h
    ·rename_i hk;subst hk;obtain rfl:=h0.int;simp only[List.foldlM_cons,Sem.run_bind,Builtin.min2,Sem.run_pure,Result.andThen_ok];exact ih vs _ _ _ h (by simpa using hl) λj v' x' h1 h2=>hr (j+1) v' x' (by simpa using h1) (by simpa using h2)
    ·cases h
   ·cases h
theorem wX (P:Program) (w:World):∀(xs:List AV) (vs:List Value) (a:Int) (kk:IntKind) (z:Int),nW a xs kk=some z->vs.length=xs.length->(∀(j:Nat) (v:Value) (x:AV),vs[j]?=some v->xs[j]?=some x->RA ν g v x)->
  (vs.foldlM Builtin.max2 (.int kk a)).run P w = .ok (.int kk z) w:=by
 intro xs
 induction xs with
 |nil=>
  intro vs a kk z h hl _;have:vs=[]:=List.eq_nil_of_length_eq_zero hl;subst this;simp[nW]at h;subst h;rfl
 |cons x xs ih=>
  intro vs a kk z h hl hr;cases vs with
  |nil=>simp at hl
  |cons v vs=>
   have h0:=hr 0 v x rfl rfl;unfold nW at h;split at h
   ·rename_i heq;cases heq
   ·rename_i B4 b r heq;cases heq;split at h
    ·rename_i hk;subst hk;obtain rfl:=h0.int;simp only[List.foldlM_cons,Sem.run_bind,Builtin.max2,Sem.run_pure,Result.andThen_ok];exact ih vs _ _ _ h (by simpa using hl) λj v' x' h1 h2=>hr (j+1) v' x' (by simpa using h1) (by simpa using h2)
    ·cases h
   ·cases h
theorem fq {x:AV} {l:List AV} {h h':Hp} (e:(bU x).run h=some (l,h')) {v:Value} (hv:RA ν g v x) :
  h'=h/\v.cells.size=l.length/\∀(j:Nat) (c:AV),l[j]?=some c->∃u,v.cells[j]?=some u/\u.oneCell'=true/\RA ν g u c:=by
 have one:∀{z:AV},(M.ret [z]).run h=some (l,h')->RA ν g v z->v.oneCell'=true->h'=h/\v.cells.size=l.length/\∀(j:Nat) (c:AV),l[j]?=some c->∃u,v.cells[j]?=some u/\u.oneCell'=true/\RA ν g u c:=by
  intro z e hz h1;obtain⟨rfl,rfl⟩:=af e;have hc:v.cells=#[v]:=by cases v<;>first | rfl | simp[Value.oneCell']at h1
  refine⟨rfl,by rw[hc];rfl,λj c hj=>?_⟩;cases j with
  |zero=>simp at hj;subst hj;exact⟨v,by rw[hc];rfl,h1,hz⟩
  |succ j=>simp at hj
 cases hv with
 |undef=>exact(ae e).elim
 |aR=>exact(ae e).elim
 |agg hn h1 hr=>
  obtain⟨rfl,rfl⟩:=af e;refine⟨rfl,hn,λj c hj=>?_⟩;obtain⟨u,hu,hR⟩:=RA.dQ (.agg hn h1 hr) j c hj;exact⟨u,hu,h1 j u hu,hR⟩
 |iv hr=>exact one e (.iv hr) hr.one
 |own h1 h2=>exact one e (.own h1 h2) h1
 |ref h1 h2=>exact one e (.ref h1 h2) h1
 |bp hn hr=>exact one e (.bp hn hr) rfl
def RC (ν:Nat->Nat) (g:Gh) (vs:Array Value) (cs:List AV):Prop:=
 vs.size=cs.length/\∀(j:Nat) (c:AV),cs[j]?=some c->∃u,vs[j]?=some u/\u.oneCell'=true/\RA ν g u c
theorem RC.agg {vs:Array Value} {cs:List AV} (h:RC ν g vs cs):RA ν g (.agg vs) (.agg cs):=by
 have key:∀(j:Nat) (v:Value),vs[j]?=some v->∃c,cs[j]?=some c/\v.oneCell'=true/\RA ν g v c:=by
  intro j v hv;have hj:j<vs.size:=(Array.getElem?_eq_some_iff.1 hv).1;have hc:cs[j]?=some (cs[j]'(by have:=h.1;omega)):=List.getElem?_eq_getElem _;obtain⟨u,hu,h1,hR⟩:=h.2 j _ hc;rw[hv]at hu;cases hu;exact⟨_,hc,h1,hR⟩
 exact .agg h.1 (λj v hv=>let⟨_,_,h1,_⟩:=key j v hv;h1) λj v c hv hc=>by
  obtain⟨c',bJ,_,hR⟩:=key j v hv;rw[hc]at bJ;cases bJ;exact hR
theorem jh (off:Nat):∀(l:List Value) (s:Nat) (cs:Array Value),off+s+l.length<=cs.size->
  let r:=(l.zipIdx s).foldl (λcs (p:Value×Nat)=>cs.setIfInBounds (off+p.2) p.1) cs
  r.size=cs.size/\∀j,r[j]?=if off+s<=j/\j<off+s+l.length then l[j - (off+s)]? else cs[j]?:=by
 intro l
 induction l with
 |nil=>intro s cs _;simp;intro j h1 h2;omega
 |cons v l ih=>
  intro s cs hl;simp only[List.zipIdx_cons,List.foldl_cons];simp only[List.length_cons]at hl;obtain⟨h1,h2⟩:=ih (s+1) (cs.setIfInBounds (off+s) v) (by simp;omega);refine⟨by rw[h1];simp,λj=>?_⟩;rw[h2 j];by_cases hj:j=off+s
  ·subst hj;rw[if_neg (by omega),if_pos (by simp),Array.getElem?_setIfInBounds_self_of_lt (by omega)];simp
  ·by_cases AQ:off+(s+1)<=j/\j<off+(s+1)+l.length
   ·rw[if_pos AQ,if_pos (by simp;omega)];rw[show j - (off+s)=(j - (off+(s+1)))+1 by omega];simp
   ·rw[if_neg AQ,if_neg (by simp;omega)];rw[Array.getElem?_setIfInBounds_ne (Ne.symm hj)]
theorem gA {α:Type} (cs:List α) (o:Nat) (l:List α) (h:o+l.length<=cs.length) (j:Nat) :
  (cn cs o l)[j]?=if o<=j/\j<o+l.length then l[j - o]? else cs[j]?:=by
 unfold cn;rw[List.getElem?_append,List.getElem?_append];simp only[List.length_append,List.length_take,Nat.min_eq_left (show o<=cs.length by omega)];by_cases h1:j<o
 ·rw[if_pos (by omega),if_pos h1,if_neg (by omega),List.getElem?_take,if_pos h1]
 ·by_cases h2:j<o+l.length
  ·rw[if_pos h2,if_neg h1,if_pos ⟨by omega,h2⟩]
  ·rw[if_neg h2,if_neg (by omega),List.getElem?_drop,show o+l.length+(j - (o+l.length))=j by omega]
theorem de {α:Type} (cs:List α) (o:Nat) (l:List α) (h:o+l.length<=cs.length):(cn cs o l).length=cs.length:=by simp[cn];omega
theorem RC.cn {vs us:Array Value} {cs l:List AV} {o:Nat} (h:RC ν g vs cs) (hu:RC ν g us l) (cK:o+l.length<=cs.length) :
  RC ν g ((us.toList.zipIdx).foldl (λcs (p:Value×Nat)=>cs.setIfInBounds (o+p.2) p.1) vs) (ao.cn cs o l):=by
 have hs:=jh o us.toList 0 vs (by have:=h.1;have:=hu.1;simp;omega);simp only[Nat.add_zero,Array.length_toList]at hs;refine⟨by rw[hs.1,de _ _ _ cK,h.1],λj c hc=>?_⟩;rw[gA _ _ _ cK]at hc;rw[hs.2 j];have:=hu.1;by_cases hj:o<=j/\j<o+l.length
 ·rw[if_pos hj]at hc;rw[if_pos (by omega)];simpa using hu.2 _ c hc
 ·rw[if_neg hj]at hc;rw[if_neg (by omega)];exact h.2 j c hc
end
section
variable {ν:Nat->Nat} {P:Program} {k:Cx} {g:Gh}
theorem RC.mono {g':Gh} {vs:Array Value} {cs:List AV} (h:RC ν g vs cs) (hm:aV ν g g'):RC ν g' vs cs:=
 ⟨h.1,λj c hc=>let⟨u,h1,h2,h3⟩:=h.2 j c hc;⟨u,h1,h2,hm _ _ h3⟩⟩
theorem vR:∀(cs:List AV) (s:Nat) (k:Cx) (g:Gh) (ls:List AV) (h':Hp),(ep s cs).run g.h=some (ls,h')->Rel ν k g->∀vs:Array Value,RC ν g vs cs->
  ∃jx,Rel ν k { g with φ:=jx,h:=h' }/\aV ν g { g with φ:=jx,h:=h' }/\RC ν { g with φ:=jx,h:=h' } vs ls/\(∀id,(get g.h id).isSome=true->jx id=g.φ id/\get h' id=get g.h id)/\
   ∀id,id<s->get h' id=get g.h id:=by
 intro cs
 induction cs with
 |nil=>
  intro s k g ls h' e r vs hv;obtain⟨rfl,rfl⟩:=af e;exact⟨g.φ,r,.refl ν g,hv,λ_ _=>⟨rfl,rfl⟩,λ_ _=>rfl⟩
 |cons c cs ih=>
  intro s k g ls h' e r vs hv;have AR:RC ν g (vs.extract 1 vs.size) cs:=by
   refine⟨by have:=hv.1;simp at this ⊢;omega,λj c' hc=>?_⟩;obtain⟨u,h1,h2⟩:=hv.2 (j+1) c' (by simpa using hc)
   grind
  obtain⟨u,hu,B3,s4⟩:=hv.2 0 c rfl;have glue:∀{g':Gh} {c':AV} {rs:List AV},RC ν g' (vs.extract 1 vs.size) rs->RA ν g' u c'->RC ν g' vs (c'::rs):=by
   intro g' c' rs h1 h2;have bB:0<vs.size:=(Array.getElem?_eq_some_iff.1 hu).1;refine⟨by have:=h1.1;simp at this ⊢;omega,λj IZ hc=>?_⟩;cases j with
   |zero=>simp at hc;subst hc;exact⟨u,hu,B3,h2⟩
   |succ j=>
    obtain⟨u',h3,h4⟩:=h1.2 j IZ (by simpa using hc)
    grind
  have plain:∀{h1:Hp} {rs:List AV},(ep (s+1) cs).run g.h=some (rs,h1)->ls=c::rs->h'=h1->
    ∃jx,Rel ν k { g with φ:=jx,h:=h' }/\aV ν g { g with φ:=jx,h:=h' }/\RC ν { g with φ:=jx,h:=h' } vs ls/\(∀id,(get g.h id).isSome=true->jx id=g.φ id/\get h' id=get g.h id)/\
     ∀id,id<s->get h' id=get g.h id:=by
   intro h1 rs e1 e2 e3;subst e2 e3;obtain⟨jx,r1,m1,c1,o1,o2⟩:=ih (s+1) k g rs h' e1 r _ AR;exact⟨jx,r1,m1,glue c1 (m1 _ _ s4),o1,λid bt=>o2 id (by omega)⟩
  by_cases mC:∃e',c = .iv (.aq e')
  ·obtain⟨e',rfl⟩:=mC;obtain⟨_,h1,e1,e2⟩:=ag e;obtain⟨hf,rfl⟩:=M.ct e1;obtain⟨_,h2,e3,e4⟩:=ag e2;obtain rfl:=aI e3;obtain⟨rs,h3,e5,e6⟩:=ag e4;obtain⟨rfl,rfl⟩:=af e6;have hn:=r.new (s:=s) (ob:=.buf 0 e' []) (p:=none) (w':=g.w) hf (Nat.le_refl _) rfl rfl rfl (λ_ _=>rfl) (λb h=>by cases h) λ_=>.inl ⟨aw _ _ _,rfl⟩
   obtain⟨jx,r1,m1,c1,o1,o2⟩:=ih (s+1) k _ rs _ e5 hn.1 _ (AR.mono hn.2);have zG:RA ν { g with φ:=bl g.φ s none,h:=set g.h s (.buf 0 e' []) } u (.own s 0 0 0):=by
    cases s4 with
    |iv hr=>
     cases hr with
     |aq a _=>
      refine .own rfl ?_;unfold aE;simp only[an,aw];exact⟨Nat.le_refl _,λ_=>⟨⟨a,rfl⟩,rfl⟩⟩
   refine⟨jx,r1,hn.2.trans m1,glue c1 (m1 _ _ zG),λid bt=>?_,λid bt=>?_⟩
   ·have bF:id≠s:=λhe=>by rw[he,hf]at bt;cases bt
    obtain⟨p1,p2⟩:=o1 id (by rw[show get (set g.h s (.buf 0 e' [])) id=get g.h id from bO _ _ (Ne.symm bF)];exact bt);exact⟨p1.trans (dO _ _ bF),p2.trans (bO _ _ (Ne.symm bF))⟩
   ·exact(o2 id (by omega)).trans (bO _ _ (by omega))
  ·have EG:ep s (c::cs)=(ep (s+1) cs).bind λrs=>.ret (c::rs):=by
    cases c with
    |iv x=>
     cases x with
     |aq e'=>exact absurd ⟨e',rfl⟩ mC
     |_=>rfl
    |_=>rfl
   rw[EG]at e;obtain⟨rs,h1,e1,e2⟩:=ag e;obtain⟨rfl,rfl⟩:=af e2
   simp_all
theorem alloc_old (w:World) (o:Obj) (b:Nat) (h:b<w.heap.size):(w.alloc o).heap[b]?=w.heap[b]?:=by first | exact heap_alloc_old w o b h | exact heap_alloc_old w o h
theorem kG (r:Rel ν k g) {slot:Nat} {t:TypeId} {vs:Array Value} {cs:List AV} (hv:RC ν g vs cs) {h':Hp} {y:AV}
  (e:((M.fresh slot).bind λ_=>(ep (slot+1) cs).bind λl=>(M.write slot (.cells l)).bind λ_=>M.ret (.ref slot 0 0 0)).run g.h=some (y,h')) :
  bf ν k g h' y (.ok (.pointer (some ⟨g.w.heap.size,0,none⟩)) (g.w.alloc (.cells vs t))):=by
 obtain⟨_,h1,e1,e2⟩:=ag e;obtain⟨hf,rfl⟩:=M.ct e1;obtain⟨l,h2,e3,e4⟩:=ag e2;obtain⟨jx,r1,m1,c1,o1,o2⟩:=vR cs (slot+1) k g l h2 e3 r vs hv;obtain⟨_,h3,e5,e6⟩:=ag e4;obtain rfl:=aI e5;obtain⟨rfl,rfl⟩:=af e6;have hn:=r1.new (s:=slot) (ob:=.cells l) (p:=some g.w.heap.size) (w':=g.w.alloc (.cells vs t)) (by rw[o2 slot (by omega)];exact hf) (by simp) rfl rfl rfl (λb hb=>alloc_old _ _ _ hb)
  (λb h=>by cases h;exact Nat.le_refl _) λhm=>by
   refine⟨g.w.heap.size,aw _ _ _,λhi=>?_,⟨by simp,λo=>World.frozen?_alloc_new _ _ _ _⟩,λj c hc=>?_⟩
   ·exact Nat.lt_irrefl _ (r.small _ hi)
   ·obtain⟨u,h1,h2,h3⟩:=c1.2 j c hc;exact⟨u,by rw[World.cell?_alloc_new];exact h1,h2,hm _ _ h3⟩
 refine⟨_,_,rfl,rfl,hn.1,m1.trans hn.2,.ref rfl ?_⟩;unfold aG;simp only[an,aw];exact⟨trivial,trivial,_,rfl,rfl⟩
theorem tV (r:Rel ν k g) {slot:Nat} {t:TypeId} {v:Value} {x y:AV} (hv:RA ν g v x) {h':Hp}
  (e:((bU x).bind λxs=>(M.fresh slot).bind λ_=>(ep (slot+1) xs).bind λl=>(M.write slot (.cells l)).bind λ_=>M.ret (.ref slot 0 0 0)).run g.h=some (y,h')) :
  bf ν k g h' y ((Instr.box t v).run P g.w):=by
 obtain⟨xs,h1,e1,e2⟩:=ag e;obtain⟨rfl,hs,hc⟩:=fq e1 hv;have:=kG (t:=t) r ⟨hs,hc⟩ e2;simpa[Instr.box,newVar,newRow]using this
def sm:Value->IV->Bool
 |v,.junk=>v.oneCell'
 |.int kk n,.int k' m=>kk==k'&&n==m
 |.bool b,.bool c=>b==c
 |.string s,.str t=>s.data.toList==t.data.toList
 |.slice none 0 0,.aq _=>true
 |.pointer none,.bc=>true
 |_,_=>false
theorem j8 {v:Value} {x:IV} (h:sm v x=true) (I:Nat->Prop) (w:World):RI ν I w v x:=by
 unfold sm at h;split at h
 ·exact .junk _ h
 ·simp only[Bool.and_eq_true,beq_iff_eq]at h;obtain⟨rfl,rfl⟩:=h;exact .int _ _
 ·have:=beq_iff_eq.1 h;subst this;exact .bool _
 ·rename_i s t;have:=beq_iff_eq.1 h;have:s=t:=by
   cases s;cases t;simp at this;simp[this]
  subst this;exact .str _
 ·exact .aq _ _
 ·exact .bc
 ·cases h
def iD:List Value->List IV->Bool
 |[],[]=>true
 |v::vs,x::xs=>sm v x&&iD vs xs
 |_,_=>false
theorem jo:∀{vs:List Value} {xs:List IV},iD vs xs=true->vs.length=xs.length/\∀(j:Nat) (x:IV),xs[j]?=some x->∃v,vs[j]?=some v/\sm v x=true
 |[],[],_=>⟨rfl,λj x h=>by simp at h⟩
 |v::vs,x::xs,h=>by
  simp only[iD,Bool.and_eq_true]at h;obtain⟨h1,h2⟩:=jo h.2
  grind
 |[],_::_,h=>by simp[iD]at h
 |_::_,[],h=>by simp[iD]at h
theorem qj {vs:Array Value} {xs:List IV} (h:iD vs.toList xs=true):RC ν g vs (xs.map .iv):=by
 obtain⟨h1,h2⟩:=jo h;refine⟨by simpa using h1,λj c hc=>?_⟩;simp only[List.getElem?_map,Option.map_eq_some_iff]at hc;obtain⟨x,hx,rfl⟩:=hc;obtain⟨v,hv,gZ⟩:=h2 j x hx;have hR:RI ν g.I g.w v x:=j8 gZ _ _;exact⟨v,by simpa using hv,hR.one,.iv hR⟩
def mc (P:Program) (t:TypeId) (z:List IV):Bool:=
 match P.info? t with
 |some i=>(match i.zero with | some v=>iD v.cells.toList z | none=>false)
 |none=>false
theorem k7 {t:TypeId} {z:List IV} (h:mc P t z=true):∃i v,P.info? t=some i/\i.zero=some v/\iD v.cells.toList z=true:=by
 unfold mc at h
 grind
theorem ou (r:Rel ν k g) {slot:Nat} {t:TypeId} {z:List IV} (ht:mc P t z=true) {y:AV} {h':Hp}
  (e:((M.fresh slot).bind λ_=>(ep (slot+1) (z.map .iv)).bind λl=>(M.write slot (.cells l)).bind λ_=>M.ret (.ref slot 0 0 0)).run g.h=some (y,h')) :
  bf ν k g h' y ((Instr.alloc t true (.tuple #[])).run P g.w):=by
 obtain⟨i,v,hi,hz,hc⟩:=k7 ht;have:=kG (t:=t) r (qj hc) e;simpa[Instr.alloc,zeroValue,typeInfo,hi,hz,newVar,newRow]using this
theorem vS (r:Rel ν k g) {slot e:Nat} {a:Option Addr} {y:AV} {h':Hp}
  (e':((M.fresh slot).bind λ_=>(M.write slot (.buf 0 e [])).bind λ_=>M.ret (.own slot 0 0 0)).run g.h=some (y,h')):bf ν k g h' y (.ok (.slice a 0 0) g.w):=by
 obtain⟨_,h1,e1,e2⟩:=ag e';obtain⟨hf,rfl⟩:=M.ct e1;obtain⟨_,h2,e3,e4⟩:=ag e2;obtain rfl:=aI e3;obtain⟨rfl,rfl⟩:=af e4;have hn:=r.new (s:=slot) (ob:=.buf 0 e []) (p:=none) (w':=g.w) hf (Nat.le_refl _) rfl rfl rfl (λ_ _=>rfl) (λb h=>by cases h) λ_=>.inl ⟨aw _ _ _,rfl⟩
 refine⟨{ g with φ:=bl g.φ slot none,h:=set g.h slot (.buf 0 e []) },_,rfl,rfl,hn.1,hn.2,.own rfl ?_⟩;unfold aE;simp only[an,aw];exact⟨Nat.le_refl _,λ_=>⟨⟨a,rfl⟩,rfl⟩⟩
end
section
variable {ν:Nat->Nat} {P:Program} {k:Cx} {g:Gh}
theorem iE (w:World) (b:Nat):∀(vs:List Value) (o k:Nat),k≠b->(w.setCells b o vs).heap[k]?=w.heap[k]?:=by
 intro vs
 induction vs generalizing w with
 |nil=>intro o k _;rfl
 |cons v vs ih=>intro o k hk;rw[World.setCells,ih _ _ _ hk];exact heap_setCell_other _ _ _ _ hk
theorem dJ (w:World) (b:Nat):∀(vs:List Value) (o:Nat),(w.setCells b o vs).heap.size=w.heap.size:=by
 intro vs
 induction vs generalizing w with
 |nil=>intro o;rfl
 |cons v vs ih=>intro o;rw[World.setCells,ih];simp
theorem ji (w:World) (b:Nat):∀(vs:List Value) (o:Nat),(w.setCells b o vs).os=w.os/\(w.setCells b o vs).tape=w.tape/\(w.setCells b o vs).output=w.output:=by
 intro vs
 induction vs generalizing w with
 |nil=>intro o;exact⟨rfl,rfl,rfl⟩
 |cons v vs ih=>intro o;rw[World.setCells];exact ih _ _
theorem cR (w:World) (b o:Nat) (vs:List Value) (hc:∀j,j<vs.length->(w.cell? ⟨b,o+j,none⟩).isSome=true) (i:Nat) :
  (w.setCells b o vs).cell? ⟨b,i,none⟩=if o<=i/\i<o+vs.length then vs[i - o]? else w.cell? ⟨b,i,none⟩:=by
 by_cases h:o<=i/\i<o+vs.length
 ·rw[if_pos h];have:=World.cell?_setCells_in b vs o w hc (i - o) (by omega);rw[show o+(i - o)=i by omega]at this;rw[this,List.getElem?_eq_getElem (by omega)]
 ·rw[if_neg h];exact World.cell?_setCells_out b vs o w _ λ_ _=>by simp only[];omega
theorem fi (w:World) (b o:Nat) (vs:List Value) (hc:∀j,j<vs.length->(w.cell? ⟨b,o+j,none⟩).isSome=true) (i:Nat) (h:(w.cell? ⟨b,i,none⟩).isSome=true) :
  ((w.setCells b o vs).cell? ⟨b,i,none⟩).isSome=true:=by
 rw[cR w b o vs hc i];split
 ·rename_i h';rw[List.getElem?_eq_getElem (by omega)];rfl
 ·exact h
theorem cD.put {w w':World} {b e o n:Nat} {es es':List (List IV)} {v:Value} (h:cD w (some b) e es o n v) (hl:es.length<=es'.length)
  (hc:∀c,(w.cell? ⟨b,c,none⟩).isSome=true->(w'.cell? ⟨b,c,none⟩).isSome=true):cD w' (some b) e es' o n v:=by
 obtain⟨x,cap,e1,e2,e3,e4,e5⟩:=h;exact⟨x,cap,e1,by omega,e3,e4,λhx c h'=>hc c (e5 hx c h')⟩
theorem Rel.put (r:Rel ν k g) {id v e b off v':Nat} {es es':List (List IV)} {vs:List Value} (hg:get g.h id=some (.buf v e es)) (ah:g.φ id=some b)
  (ey:∀j,j<vs.length->(g.w.cell? ⟨b,off+j,none⟩).isSome=true) (hv:v'=v/\es.length<=es'.length\/v'=v+1)
  (aC:(∀v x,RI ν g.I g.w v x->RI ν g.I (g.w.setCells b off vs) v x)->Row ν g.I (g.w.setCells b off vs) b e es') :
  Rel ν k { g with w:=g.w.setCells b off vs,h:=set g.h id (.buf v' e es') }/\aV ν g { g with w:=g.w.setCells b off vs,h:=set g.h id (.buf v' e es') }:=by
 obtain⟨b8,cE⟩:¬g.I b/\sa g.w b:=by
  rcases r.ob id _ hg with⟨h1,_⟩|⟨b',h1,h2,h3,_⟩
  ·rw[ah]at h1;cases h1
  ·rw[ah]at h1;cases h1;exact⟨h2,h3⟩
 have aN:bl g.φ id (g.φ id)=g.φ:=by funext i;simp only[bl];split<;>simp_all
 have cN:=ji g.w b vs off;have ht:=r.iR (s:=id) (ob:=.buf v' e es') (p:=g.φ id) (w':=g.w.setCells b off vs) (I':=g.I) hg (λb' h=>by rw[ah]at h;cases h;exact b8) (by rw[dJ];exact Nat.le_refl _) cN.1 cN.2.1 cN.2.2
  (λb' _ bF=>iE _ _ _ _ _ λhe=>bF (by rw[he];exact ah)) (λ_ h=>h) (λ_ h=>.inl h) (.inl rfl)
  (λu o n ai ho=>by
   unfold aE at ho ⊢;rw[hg]at ho;simp only[an,aw];obtain⟨h1,h2⟩:=ho;rcases hv with⟨rfl,hl⟩|rfl
   ·refine⟨h1,λhe=>?_⟩;have:=h2 he;rw[ah]at this ⊢;exact this.put hl λc hc=>fi _ _ _ _ ey _ hc
   ·exact⟨by omega,λhe=>by omega⟩)
  (λu ai i j hr=>by
   unfold aG at hr ⊢;rw[hg]at hr;simp only[an,aw];obtain⟨h1,h2⟩:=hr;rcases hv with⟨rfl,hl⟩|rfl
   ·exact⟨h1,h2⟩
   ·exact⟨by omega,λhe=>by omega⟩)
  (λcp _=>.inr ⟨b,(aw _ _ _).trans ah,b8,⟨by rw[dJ];exact cE.1,λo=>by rw[World.frozen?_setCells];exact cE.2 o⟩,aC cp⟩)
 rw[aN]at ht;exact ht
theorem mD {t:TypeId} {i:TypeInfo} (hi:P.info? t=some i) {b off:Nat} {v:Value} {w:World} (hs:v.cells.size=i.size) (hc:∀j,j<i.size->(w.cell? ⟨b,off+j,none⟩).isSome=true)
  (hf:∀o,w.frozen? ⟨b,o,none⟩=false) (h1:∀u ∈ v.cells.toList,u.oneCell'=true) :
  (Instr.storeAt t (.pointer (some ⟨b,off,none⟩)) v).run P w = .ok () (w.setCells b off v.cells.toList):=by
 have:=run_storeCells_cells (P:=P) b off v.cells.toList 0 w (by simpa[hs]using hc) (λ_ _=>hf _) h1;simp[Instr.storeAt,Instr.sureAddr,storeVar,run_sizeOf hi,hs,this]
def jj (P:Program) (t:TypeId) (sz:Nat):Bool:=match P.info? t with | some i=>i.size==sz | none=>false
theorem ft {t:TypeId} {sz:Nat} (h:jj P t sz=true):∃i,P.info? t=some i/\i.size=sz:=by
 unfold jj at h;split at h
 ·exact⟨_,by assumption,by simpa using h⟩
 ·cases h
theorem qk (r:Rel ν k g) {slot:Nat} {t:TypeId} {sz:Nat} (ht:jj P t sz=true) {va vx:Value} {a x y:AV} (cc:RA ν g va a) (ov:RA ν g vx x) {h':Hp}
  (e':(store slot sz a x).run g.h=some (y,h')) :
  ∃g',(Instr.storeAt t va vx).run P g.w = .ok () g'.w/\y = .aR []/\g'.h=h'/\Rel ν k g'/\aV ν g g':=by
 obtain⟨i,hi,rfl⟩:=ft ht;obtain⟨xs,h1,e1,e2⟩:=ag e';obtain⟨rfl,hs,hc⟩:=fq e1 ov;obtain⟨hl,e4⟩:=M.aj e2;have jL:xs.length=i.size:=by simpa using hl
 have ef:∀u ∈ vx.cells.toList,u.oneCell'=true:=by
  intro u hu;obtain⟨j,hj,rfl⟩:=List.getElem_of_mem hu;simp only[Array.length_toList]at hj;obtain⟨u',h1,h2,_⟩:=hc j _ (List.getElem?_eq_getElem (by omega));rw[Array.getElem?_eq_getElem hj]at h1;cases h1;simpa using h2
 split at e4
 case h_2=>exact(ae e4).elim
 rename_i id ai i' j;cases cc with
 |ref kF hr=>
  obtain⟨ob,hg,e6⟩:=M.aM e4;unfold aG at hr;rw[hg]at hr;cases ob with
  |aZ _ _ _=>exact(ae e6).elim
  |map _=>exact(ae e6).elim
  |cells cs=>
   obtain⟨rfl,rfl,b,ah,rfl⟩:=hr;obtain⟨cK,e8⟩:=M.aj e6;have qZ:j+i.size<=cs.length:=by simpa using cK
   obtain⟨l,h5,e9,dg⟩:=ag e8;obtain⟨jx,r1,m1,c1,o1,o2⟩:=vR xs slot k g l h5 e9 r vx.cells ⟨hs,hc⟩;obtain⟨_,h6,ow,lr⟩:=ag dg;obtain rfl:=aI ow;obtain⟨rfl,rfl⟩:=af lr;obtain⟨b',aN,b8,cE,ox⟩:=r.ob id _ hg;rw[ah]at aN;cases aN;have lq:l.length=i.size:=by have:=c1.1;omega
   have hex:∀m,m<vx.cells.toList.length->(g.w.cell? ⟨b,j+m,none⟩).isSome=true:=by
    intro m hm;simp only[Array.length_toList]at hm;obtain⟨u,hu,_⟩:=ox (j+m) _ (List.getElem?_eq_getElem (by omega));rw[hu];rfl
   have aY:=mD hi (b:=b) (off:=j) (v:=vx) (w:=g.w) (by omega) (λm hm=>hex m (by simp;omega)) cE.2 ef;have B5:get h5 id=some (.cells cs):=by rw[(o1 id (by rw[hg];rfl)).2];exact hg
   have zH:jx id=some b:=by rw[(o1 id (by rw[hg];rfl)).1];exact ah
   have cN:=ji g.w b vx.cells.toList j;have Gs:bl jx id (jx id)=jx:=by funext m;simp only[bl];split<;>simp_all
   have ht:=r1.iR (s:=id) (ob:=.cells (cn cs j l)) (p:=jx id) (w':=g.w.setCells b j vx.cells.toList) (I':=g.I) B5 (λb' h=>by simp only[zH]at h;cases h;exact b8)
    (by rw[dJ];exact Nat.le_refl _) cN.1 cN.2.1 cN.2.2
    (λb' _ bF=>iE _ _ _ _ _ λhe=>bF (by rw[he];exact zH)) (λ_ h=>h) (λ_ h=>.inl h) (.inl rfl)
    (λu o n ai ho=>by
     unfold aE at ho;simp only[B5]at ho)
    (λu ai m n hr=>by
     unfold aG at hr ⊢;simp only[B5]at hr;simp only[an,aw];exact hr)
    (λ_ hm=>by
     refine⟨b,(aw _ _ _).trans zH,b8,⟨by rw[dJ];exact cE.1,λo=>by rw[World.frozen?_setCells];exact cE.2 o⟩,λm c dv=>?_⟩;rw[gA _ _ _ (by omega)]at dv;simp only[];rw[cR _ _ _ _ hex];simp only[Array.length_toList,hs,jL];by_cases dV:j<=m/\m<j+i.size
     ·rw[if_pos (by omega)]at dv;rw[if_pos dV];obtain⟨u,h1,h2,h3⟩:=c1.2 _ c dv;exact⟨u,by simpa using h1,h2,hm _ _ h3⟩
     ·rw[if_neg (by omega)]at dv;rw[if_neg dV];obtain⟨u,h1,h2,h3⟩:=ox m c dv;exact⟨u,h1,h2,hm _ _ (m1 _ _ h3)⟩)
   rw[Gs]at ht;exact⟨_,aY,rfl,rfl,ht.1,m1.trans ht.2⟩
  |buf v0 e0 KM=>
   obtain⟨l,h4,e7,e8⟩:=ag e6;obtain⟨V,hV⟩:=pick hc;obtain⟨I1,f1,lq,hx⟩:=(jl ν 8).list xs k g l h4 e7 r V λj c h=>(hV j c h).2.2
   obtain⟨jI,dc,dg⟩:=M.aM e8;cases jI with
   |cells _=>exact(ae dg).elim
   |aZ _ _ _=>exact(ae dg).elim
   |map _=>exact(ae dg).elim
   |buf v e es=>
    obtain⟨bx,lr⟩:=M.aj dg;simp only[Bool.and_eq_true,beq_iff_eq,Nat.ble_eq]at bx;obtain⟨hv,cK⟩:=bx;obtain⟨c,kW,q8⟩:=M.lift_bind lr;obtain⟨_,h8,B6,B7⟩:=ag q8;obtain rfl:=aI B6;obtain⟨rfl,rfl⟩:=af B7;have hR:=f1.mono _ _ (.ref kF (by unfold aG;rw[hg];exact hr):RA ν g va (.ref id ai i' j));cases hR with
    |ref _ hR=>
    unfold aG at hR;simp only[dc]at hR;obtain⟨b,ah,rfl⟩:=hR.2 hv;have r1:=f1.rel;rcases r1.ob id _ dc with⟨h1,_⟩|⟨b',h1,b8,cE,aC⟩
    ·simp only[ah]at h1;cases h1
    simp only[ah]at h1;cases h1;simp only[]at b8 cE aC;have AS:c.length=e:=aC.1 c (List.mem_of_getElem? kW);have hex:∀m,m<vx.cells.toList.length->(g.w.cell? ⟨b,i'*e+j+m,none⟩).isSome=true:=by
     intro m hm;simp only[Array.length_toList]at hm;obtain⟨u,hu,_⟩:=aC.2 i' (j+m) c _ kW (List.getElem?_eq_getElem (by omega));rw[Nat.add_assoc,hu];rfl
    have aY:=mD hi (b:=b) (off:=i'*e+j) (v:=vx) (w:=g.w) (by omega) (λm hm=>hex m (by simp;omega)) cE.2 ef;have bY:i'<es.length:=by
     rcases Nat.lt_or_ge i' es.length with h | h
     ·exact h
     ·rw[List.getElem?_eq_none h]at kW;cases kW
    have eJ:=r1.put (id:=id) (v:=v) (e:=e) (b:=b) (off:=i'*e+j) (v':=v) (es:=es) (es':=es.set i' (cn c j l)) (vs:=vx.cells.toList) dc ah hex (.inl ⟨rfl,by simp⟩)
     (λcp=>by
      refine⟨λc' bJ=>?_,λi2 j2 c' x' h1 h2=>?_⟩
      ·rcases List.mem_or_eq_of_mem_set bJ with h | h
       ·exact aC.1 c' h
       ·rw[h,de _ _ _ (by omega)];exact AS
      ·simp only[];rw[cR _ _ _ _ hex];simp only[Array.length_toList,hs,jL];rw[List.getElem?_set]at h1;by_cases tW:i'=i2
       ·subst tW;rw[if_pos rfl,if_pos bY]at h1;cases h1;rw[gA _ _ _ (by omega)]at h2;by_cases dV:j<=j2/\j2<j+l.length
        ·rw[if_pos dV]at h2;rw[if_pos (by omega)];obtain⟨c0,yh⟩:∃c0,xs[j2 - j]?=some c0:=⟨_,List.getElem?_eq_getElem (by omega)⟩;obtain⟨u,hu,_,_⟩:=hc _ c0 yh;refine⟨u,?_,?_⟩
         ·rw[show i'*e+j2 - (i'*e+j)=j2 - j by omega];simpa using hu
         ·have:=(hV _ c0 yh).1;rw[hu]at this;cases this;exact cp _ _ (hx _ x' h2)
        ·rw[if_neg dV]at h2;rw[if_neg (by omega)];obtain⟨u,h3,h4⟩:=aC.2 i' j2 c x' kW h2;exact⟨u,h3,cp _ _ h4⟩
       ·rw[if_neg tW]at h1;have AQ:j2<e:=by
         have:=aC.1 c' (List.mem_of_getElem? h1);rcases Nat.lt_or_ge j2 c'.length with h | h
         ·omega
         ·rw[List.getElem?_eq_none h]at h2;cases h2
        have cW:¬(i'*e+j<=i2*e+j2/\i2*e+j2<i'*e+j+i.size):=by
         intro⟨ha,hb⟩;rcases Nat.lt_or_gt_of_ne tW with aT | aT
         ·have:i'*e+e<=i2*e:=by rw[<-Nat.succ_mul];exact Nat.mul_le_mul_right _ aT
          omega
         ·have:i2*e+e<=i'*e:=by rw[<-Nat.succ_mul];exact Nat.mul_le_mul_right _ aT
          omega
        rw[if_neg cW];obtain⟨u,h3,h4⟩:=aC.2 i2 j2 c' x' h1 h2;exact⟨u,h3,cp _ _ h4⟩)
    exact⟨_,aY,rfl,rfl,eJ.1,f1.mono.trans eJ.2⟩
end
theorem M.lu {α β γ:Type} (f:β->M γ) (h:α->β):∀l:List α,M.aJ f (l.map h)=M.aJ (λx=>f (h x)) l
 |[]=>rfl
 |x::r=>by simp only[List.map_cons,M.aJ,M.lu f h r]
section
variable {ν:Nat->Nat} {P:Program} {k:Cx} {g:Gh}
def j9 (ν:Nat->Nat) (I:Nat->Prop) (w:World) (vs:Array Value) (e:Nat) (es:List (List IV)):Prop:=
 vs.size=es.length*e/\(∀c ∈ es,c.length=e)/\∀(i j:Nat) (c:List IV) (x:IV),es[i]?=some c->c[j]?=some x->∃u,vs[i*e+j]?=some u/\RI ν I w u x
theorem ay {α:Type} {l:List α} {i:Nat} {x:α} (h:l[i]?=some x):i<l.length:=by
 rcases Nat.lt_or_ge i l.length with h' | h'
 ·exact h'
 ·rw[List.getElem?_eq_none h']at h;cases h
theorem j9.step {I:Nat->Prop} {w:World} {vs us:Array Value} {e i0:Nat} {es:List (List IV)} {l:List IV} (h:j9 ν I w vs e es) (hi:i0<es.length) (hu:us.size=e) (hl:l.length=e)
  (hr:∀(m:Nat) (x:IV),l[m]?=some x->∃u,us[m]?=some u/\RI ν I w u x) :
  j9 ν I w ((us.toList.zipIdx).foldl (λcs (p:Value×Nat)=>cs.setIfInBounds (i0*e+p.2) p.1) vs) e (es.set i0 l):=by
 have cK:i0*e+e<=vs.size:=by rw[h.1,<-Nat.succ_mul];exact Nat.mul_le_mul_right _ hi
 have hs:=jh (i0*e) us.toList 0 vs (by simp;omega);simp only[Nat.add_zero,Array.length_toList,hu]at hs;refine⟨by rw[hs.1,h.1];simp,λc hc=>?_,λi j c x h1 h2=>?_⟩
 ·rcases List.mem_or_eq_of_mem_set hc with h' | h'
  ·exact h.2.1 c h'
  ·rw[h',hl]
 ·rw[hs.2,List.getElem?_set]at *;by_cases oy:i0=i
  ·subst oy;rw[if_pos rfl,if_pos hi]at h1;cases h1;have hj:=ay h2;rw[if_pos (by omega),show i0*e+j - i0*e=j by omega];simpa using hr j x h2
  ·rw[if_neg oy]at h1;have hj:j<e:=by have:=ay h2;rw[h.2.1 c (List.mem_of_getElem? h1)]at this;exact this
   have cW:¬(i0*e<=i*e+j/\i*e+j<i0*e+e):=by
    intro⟨ha,hb⟩;rcases Nat.lt_or_gt_of_ne oy with aT | aT
    ·have:i0*e+e<=i*e:=by rw[<-Nat.succ_mul];exact Nat.mul_le_mul_right _ aT
     omega
    ·have:i*e+e<=i0*e:=by rw[<-Nat.succ_mul];exact Nat.mul_le_mul_right _ aT
     omega
   rw[if_neg cW];exact h.2.2 i j c x h1 h2
theorem zI {e n:Nat}:∀(ps:List (Nat×AV)) (k:Cx) (g:Gh) (out:List (Nat×List IV)) (h':Hp),
  (M.aJ (λp:Nat×AV=>(bU p.2).bind λxs=>(M.ok (xs.length==e&&Nat.blt p.1 n)).bind λ_=>(M.aJ (fz true 8) xs).bind λl=>M.ret (p.1,l)) ps).run g.h=some (out,h')->Rel ν k g->
  ∀vs:List (Nat×Value),vs.length=ps.length->(∀(j:Nat) (q:Nat×Value) (p:Nat×AV),vs[j]?=some q->ps[j]?=some p->q.1=p.1/\RA ν g q.2 p.2)->
  ∃I',cj ν k g h' I'/\out.length=vs.length/\∀(j:Nat) (p:Nat×List IV) (q:Nat×Value),out[j]?=some p->vs[j]?=some q->
   q.1=p.1/\p.1<n/\q.2.cells.size=e/\p.2.length=e/\∀(m:Nat) (x:IV),p.2[m]?=some x->∃u,q.2.cells[m]?=some u/\RI ν I' g.w u x:=by
 intro ps
 induction ps with
 |nil=>
  intro k g out h' e' r vs hl _;obtain⟨rfl,rfl⟩:=b7 e';have:vs=[]:=List.eq_nil_of_length_eq_zero hl;subst this;exact⟨g.I,.refl r,rfl,λj p q h=>by simp at h⟩
 |cons p ps ih=>
  intro k g out h' e' r vs hl hv;obtain⟨y,h1,zs,e1,e2,rfl⟩:=bR e';cases vs with
  |nil=>simp at hl
  |cons q vs=>
   obtain⟨hq,B8⟩:=hv 0 q p rfl rfl;obtain⟨xs,h2,e3,e4⟩:=ag e1;obtain⟨rfl,hs,hc⟩:=fq e3 B8;obtain⟨bx,e6⟩:=M.aj e4;simp only[Bool.and_eq_true,beq_iff_eq,Nat.blt_eq]at bx;obtain⟨l,h4,e7,e8⟩:=ag e6;obtain⟨V,hV⟩:=pick hc;obtain⟨I1,f1,lq,hx⟩:=(jl ν 8).list xs k g l h4 e7 r V λj c h=>(hV j c h).2.2
   obtain⟨rfl,rfl⟩:=af e8;obtain⟨I2,f2,mS,s5⟩:=ih k _ zs h' e2 f1.rel vs (by simpa using hl) λj q' p' h1 h2=>by
    obtain⟨a1,a2⟩:=hv (j+1) q' p' (by simpa using h1) (by simpa using h2);exact⟨a1,f1.mono _ _ a2⟩
   refine⟨I2,f1.trans f2,by simp[mS],λj p' q' h1 h2=>?_⟩;cases j with
   |zero=>
    simp at h1 h2;subst h1 h2;refine⟨hq,bx.2,by omega,by simp only[];omega,λm x hm=>?_⟩;have aT:=ay hm;simp only[]at aT;have hu:=(hV m _ (List.getElem?_eq_getElem (show m<xs.length by omega))).1;exact⟨V m,hu,(hx m x hm).mono f2.sub λ_ _ _ _ h=>h⟩
   |succ j=>exact s5 j p' q' (by simpa using h1) (by simpa using h2)
theorem ql {I:Nat->Prop} {w:World} {e:Nat}:∀(out:List (Nat×List IV)) (vs:List (Nat×Value)) (cells:Array Value) (es:List (List IV)),out.length=vs.length->j9 ν I w cells e es->
  (∀(j:Nat) (p:Nat×List IV) (q:Nat×Value),out[j]?=some p->vs[j]?=some q->
   q.1=p.1/\p.1<es.length/\q.2.cells.size=e/\p.2.length=e/\∀(m:Nat) (x:IV),p.2[m]?=some x->∃u,q.2.cells[m]?=some u/\RI ν I w u x)->
  ∃eR,Instr.fill (λi=>some (i*e,e)) cells vs=some eR/\j9 ν I w eR e (dK es out):=by
 intro out
 induction out with
 |nil=>
  intro vs cells es hl aC _;have:vs=[]:=List.eq_nil_of_length_eq_zero hl.symm;subst this;exact⟨cells,rfl,aC⟩
 |cons p out ih=>
  intro vs cells es hl aC hh;cases vs with
  |nil=>simp at hl
  |cons q vs=>
   obtain⟨h1,h2,h3,h4,h5⟩:=hh 0 p q rfl rfl;have pz:=aC.step (i0:=p.1) (us:=q.2.cells) (l:=p.2) h2 h3 h4 h5;obtain⟨c',bJ,gp⟩:=ih vs _ (es.set p.1 p.2) (by simpa using hl) pz λj p' q' a b=>by
    obtain⟨x1,x2,x3⟩:=hh (j+1) p' q' (by simpa using a) (by simpa using b);exact⟨x1,by simpa using x2,x3⟩
   refine⟨c',?_,gp⟩;rw[<-bJ];have cK:¬(cells.size<q.1*e+e):=by
    have:p.1*e+e<=es.length*e:=by rw[<-Nat.succ_mul];exact Nat.mul_le_mul_right _ h2
    rw[aC.1,h1];omega
   obtain⟨i,v⟩:=q;simp only at h1 h3 cK;subst h1;simp only[Instr.fill,h3];rw[if_neg (by simp;omega)];congr 1;rw[<-Array.foldl_toList,Array.toList_zipIdx]
def wY (P:Program) (t:TypeId) (len e:Nat) (z:List IV):Bool:=
 match P.underlying t with
 |some (.slice el)=>jj P el e&&mc P el z&&Nat.ble (len*e) 16777216&&z.length==e&&Nat.blt 0 e
 |_=>false
theorem me {zs:Array Value} {z:List IV} (hz:iD zs.toList z=true) (n:Nat) {I:Nat->Prop} {w:World} :
  j9 ν I w ((Array.range (n*zs.size)).map (zs[· % zs.size]!)) zs.size (List.replicate n z):=by
 obtain⟨h1,h2⟩:=jo hz;refine⟨by simp,λc hc=>by rw[List.eq_of_mem_replicate hc];simpa using h1.symm,λi j c x hi hj=>?_⟩;have bY:=ay hi;simp only[List.length_replicate]at bY;rw[List.getElem?_replicate,if_pos bY]at hi;cases hi;have AT:=ay hj;obtain⟨v,hv,hc⟩:=h2 j x hj;have tX:j<zs.size:=by simp at h1;omega
 have aT:i*zs.size+j<n*zs.size:=by
  have:i*zs.size+zs.size<=n*zs.size:=by rw[<-Nat.succ_mul];exact Nat.mul_le_mul_right _ bY
  omega
 refine⟨v,?_,j8 hc _ _⟩;have qm:(i*zs.size+j) % zs.size=j:=by rw[Nat.add_comm,Nat.add_mul_mod_self_right,Nat.mod_eq_of_lt tX]
 simp only[Array.getElem?_map,Array.getElem?_range,if_pos aT,Option.map_some,qm];rw[getElem!_pos zs j tX];have:zs[j]?=some v:=by simpa using hv
 rw[Array.getElem?_eq_getElem tX]at this;exact this
theorem tY (r:Rel ν k g) {slot:Nat} {t:TypeId} {n e:Nat} {z:List IV} (ht:wY P t n e z=true) {ps:List (Nat×AV)} {vs:List (Nat×Value)} (hl:vs.length=ps.length)
  (hv:∀(j:Nat) (q:Nat×Value) (p:Nat×AV),vs[j]?=some q->ps[j]?=some p->q.1=p.1/\RA ν g q.2 p.2) {y:AV} {h':Hp}
  (e':((M.ok (z.length==e)).bind λ_=>
   (M.aJ (λp:Nat×AV=>(bU p.2).bind λxs=>(M.ok (xs.length==e&&Nat.blt p.1 n)).bind λ_=>(M.aJ (fz true 8) xs).bind λl=>M.ret (p.1,l)) ps).bind λl=>
   (M.fresh slot).bind λ_=>(M.write slot (.buf 0 e (dK (List.replicate n z) l))).bind λ_=>M.ret (.own slot 0 n 0)).run g.h=some (y,h')) :
  bf ν k g h' y ((Instr.buildSlice t n vs.toArray).run P g.w):=by
 unfold wY at ht;split at ht
 case h_2=>cases ht
 rename_i el hu;simp only[Bool.and_eq_true,beq_iff_eq,Nat.ble_eq,Nat.blt_eq]at ht;obtain⟨⟨⟨⟨bB,hz⟩,Gt⟩,s6⟩,dL⟩:=ht;obtain⟨i,hi,q9⟩:=ft bB;obtain⟨i',v,bY,oz,gZ⟩:=k7 hz;rw[hi]at bY;cases bY;subst q9;have eS:v.cells.size=i.size:=by have:=(jo gZ).1;simp at this;omega
 obtain⟨-,e2⟩:=M.aj e';obtain⟨out,h2,e3,e4⟩:=ag e2;obtain⟨I1,f1,iO,sn⟩:=zI ps k g out h2 e3 r vs hl hv;obtain⟨_,h3,e5,e6⟩:=ag e4;obtain⟨hf,rfl⟩:=M.ct e5;obtain⟨_,h4,e7,e8⟩:=ag e6;obtain rfl:=aI e7;obtain⟨rfl,rfl⟩:=af e8;have ra:=me (ν:=ν) gZ n (I:=I1) (w:=g.w);rw[eS]at ra;obtain⟨cells,fu,aC⟩:=ql out vs _ _ iO ra λj p q a b=>by
  obtain⟨x1,x2,x3⟩:=sn j p q a b;exact⟨x1,by simpa using x2,x3⟩
 have hlen:(dK (List.replicate n z) out).length=n:=by
  have:∀(o:List (Nat×List IV)) (l:List (List IV)),(dK l o).length=l.length:=by
   intro o
   induction o with
   |nil=>intro l;rfl
   |cons a o ih=>intro l;simp[dK,ih]
  rw[this];simp
 have aY:(Instr.buildSlice t n vs.toArray).run P g.w = .ok (.slice (some ⟨g.w.heap.size,0,none⟩) n n) (g.w.alloc (.cells cells el)):=by
  have B9:¬(2 ^ 24<n*i.size):=by omega
  by_cases gP:n=0
  ·subst gP;simp only[Nat.zero_mul,Array.range_zero',List.map_toArray]at fu;simp only[Instr.buildSlice,Sem.run_bind,run_underlying hu,Result.andThen_ok,run_sizeOf hi];simp at fu;simp[fu,newRow,Array.range_zero']
  ·simp only[Instr.buildSlice,Sem.run_bind,run_underlying hu,Result.andThen_ok,run_sizeOf hi];have Ca:¬n*i.size=0:=Nat.mul_ne_zero gP (by omega);simp[B9,Ca,zeroValue,typeInfo,hi,oz,eS,fu,newRow]
 have r1:=f1.rel;have hn:=r1.new (s:=slot) (ob:=.buf 0 i.size (dK (List.replicate n z) out)) (p:=some g.w.heap.size) (w':=g.w.alloc (.cells cells el)) hf (by simp) rfl rfl rfl (λb hb=>alloc_old _ _ _ hb)
  (λb h=>by cases h;exact Nat.le_refl _) λhm=>by
   have cp:∀u x,RI ν I1 g.w u x->RI ν I1 (g.w.alloc (.cells cells el)) u x:=λu x h=>h.mono (λ_ h=>h) λb off w hb hc=>by
    rw[bw (alloc_old _ _ _ (r1.small b hb))];exact hc
   refine .inr ⟨g.w.heap.size,aw _ _ _,λbY=>Nat.lt_irrefl _ (r1.small _ bY),⟨by simp,λo=>World.frozen?_alloc_new _ _ _ _⟩,aC.2.1,λa b c x h1 h2=>?_⟩;obtain⟨u,dD,hR⟩:=aC.2.2 a b c x h1 h2;exact⟨u,by simp only[];rw[World.cell?_alloc_new];exact dD,cp _ _ hR⟩
 refine⟨_,_,aY,rfl,hn.1,f1.mono.trans hn.2,.own rfl ?_⟩;unfold aE;simp only[an,aw];refine⟨Nat.le_refl _,λ_=>⟨0,n,rfl,by omega,Nat.le_refl _,.inl (by simp),λ_ c hc=>?_⟩⟩;rw[World.cell?_alloc_new,Array.getElem?_eq_getElem (by rw[aC.1,hlen];simpa using hc)];rfl
end
section
variable {ν:Nat->Nat} {P:Program} {k:Cx} {g:Gh}
theorem oA {e m:Nat} {f:Nat->Nat->Value}:∃news:List Value,news.length=m*e/\∀i j,i<m->j<e->news[i*e+j]?=some (f i j):=by
 refine⟨(List.range (m*e)).map λp=>f (p / e) (p % e),by simp,λi j hi hj=>?_⟩;have aT:i*e+j<m*e:=by
  have:i*e+e<=m*e:=by rw[<-Nat.succ_mul];exact Nat.mul_le_mul_right _ hi
  omega
 have hd:(i*e+j) / e=i:=by rw[Nat.mul_comm,Nat.mul_add_div (by omega),Nat.div_eq_of_lt hj,Nat.add_zero]
 have hm:(i*e+j) % e=j:=by rw[Nat.mul_comm,Nat.mul_add_mod,Nat.mod_eq_of_lt hj]
 simp[aT,hd,hm]
theorem k8 {e m p:Nat} (h:p<m*e):∃i j,i<m/\j<e/\p=i*e+j:=by
 have he:0<e:=by
  rcases Nat.eq_zero_or_pos e with h0 | h0
  ·subst h0;simp at h
  ·exact h0
 refine⟨p / e,p % e,(Nat.div_lt_iff_lt_mul he).2 h,Nat.mod_lt _ he,?_⟩;rw[Nat.mul_comm];exact(Nat.div_add_mod p e).symm
def ka (ν:Nat->Nat) (g:Gh) (v:Value) (e:Nat) (ys:List (List IV)) (news:List Value):Prop:=
 (∃a c,v = .slice a ys.length c/\(ys.length=0\/∃b off,a=some ⟨b,off,none⟩/\∀(p:Nat) (u:Value),news[p]?=some u->g.w.cell? ⟨b,off+p,none⟩=some u))/\
 news.length=ys.length*e/\(∀c ∈ ys,c.length=e)/\(∀u ∈ news,u.oneCell'=true)/\
 ∀(i j:Nat) (c:List IV) (x:IV),ys[i]?=some c->c[j]?=some x->∃u,news[i*e+j]?=some u/\RI ν g.I g.w u x
theorem kb {b off a0 e m cap:Nat} {ys:List (List IV)} (hm:m=ys.length) (hl:∀c ∈ ys,c.length=e)
  (hc:∀(i j:Nat) (c:List IV) (x:IV),ys[i]?=some c->c[j]?=some x->∃u,g.w.cell? ⟨b,off+i*e+j,none⟩=some u/\RI ν g.I g.w u x) (ha:off=a0) :
  ∃news,ka ν g (.slice (some ⟨b,a0,none⟩) m cap) e ys news:=by
 subst hm ha;have cf:∀i j,i<ys.length->j<e->∃u:Value,∀c x,ys[i]?=some c->c[j]?=some x->g.w.cell? ⟨b,off+i*e+j,none⟩=some u/\RI ν g.I g.w u x:=by
  intro i j hi hj;have kW:ys[i]?=some ys[i]:=List.getElem?_eq_getElem hi;have hle:=hl _ (List.getElem_mem hi);obtain⟨u,h1,h2⟩:=hc i j _ _ kW (List.getElem?_eq_getElem (by omega));exact⟨u,λc x h3 h4=>by
   rw[kW]at h3;cases h3;rw[List.getElem?_eq_getElem (by omega)]at h4;cases h4;exact⟨h1,h2⟩⟩
 obtain⟨f,hf⟩:∃f:Nat->Nat->Value,∀i j,i<ys.length->j<e->∀c x,ys[i]?=some c->c[j]?=some x->g.w.cell? ⟨b,off+i*e+j,none⟩=some (f i j)/\RI ν g.I g.w (f i j) x:=by
  refine⟨λi j=>if h:i<ys.length/\j<e then Classical.choose (cf i j h.1 h.2) else .bool true,λi j hi hj=>?_⟩;have h:i<ys.length/\j<e:=⟨hi,hj⟩;simp only[dif_pos h];exact Classical.choose_spec (cf i j hi hj)
 obtain⟨news,hn,rb⟩:=oA (e:=e) (m:=ys.length) (f:=f);have fV:∀(p:Nat) (u:Value),news[p]?=some u->∃i j c x,i<ys.length/\j<e/\p=i*e+j/\u=f i j/\ys[i]?=some c/\c[j]?=some x:=by
  intro p u hu;have hp:=ay hu;rw[hn]at hp;obtain⟨i,j,hi,hj,rfl⟩:=k8 hp;rw[rb i j hi hj]at hu;cases hu;have hle:=hl _ (List.getElem_mem hi);exact⟨i,j,_,_,hi,hj,rfl,rfl,List.getElem?_eq_getElem hi,List.getElem?_eq_getElem (by omega)⟩
 refine⟨news,⟨_,cap,rfl,.inr ⟨b,off,rfl,λp u hu=>?_⟩⟩,hn,hl,λu hu=>?_,λi j c x h1 h2=>?_⟩
 ·obtain⟨i,j,c,x,hi,hj,rfl,rfl,h3,h4⟩:=fV p u hu;rw[<-Nat.add_assoc];exact(hf i j hi hj c x h3 h4).1
 ·obtain⟨p,hp,rfl⟩:=List.getElem_of_mem hu;obtain⟨i,j,c,x,hi,hj,_,h5,h3,h4⟩:=fV p _ (List.getElem?_eq_getElem hp);rw[h5];exact(hf i j hi hj c x h3 h4).2.one
 ·have hi:=ay h1;have hj:j<e:=by have:=ay h2;rwa [hl c (List.mem_of_getElem? h1)]at this
  exact⟨_,rb i j hi hj,(hf i j hi hj c x h1 h2).2⟩
theorem gB {v:Value} {e:Nat} {a:Option Addr} {c:Nat} (hv:v = .slice a 0 c):ka ν g v e [] []:=
 ⟨⟨a,c,hv,.inl rfl⟩,by simp,λc h=>by simp at h,λu h=>by simp at h,λi j c x h=>by simp at h⟩
theorem kc (r:Rel ν k g) {e:Nat} {x:AV} {ys:List (List IV)} {h':Hp} (e':(elems e x).run g.h=some (ys,h')) {v:Value} (hv:RA ν g v x):h'=g.h/\∃news,ka ν g v e ys news:=by
 cases hv with
 |undef=>exact(ae e').elim
 |agg=>exact(ae e').elim
 |aR=>exact(ae e').elim
 |ref=>exact(ae e').elim
 |bp=>exact(ae e').elim
 |iv hr=>
  cases hr with
  |aq a _=>obtain⟨rfl,rfl⟩:=af e';exact⟨rfl,_,gB rfl⟩
  |dU a cap _=>
   obtain⟨-,e2⟩:=M.aj e';obtain⟨rfl,rfl⟩:=af e2;exact⟨rfl,_,gB rfl⟩
  |sl b off n cap aD es f hI hn eH lq hc hr=>
   obtain⟨he,e2⟩:=M.aj e';obtain⟨rfl,rfl⟩:=af e2;have cr:aD=e:=by simpa using he
   subst cr;exact⟨rfl,kb hn lq (λi j c x h1 h2=>⟨_,hc i j c x h1 h2,hr i j c x h1 h2⟩) rfl⟩
  |_=>exact(ae e').elim
 |@own _ id o m ai j4 ho=>
  obtain⟨ob,hg,e2⟩:=M.aM e';unfold aE at ho;rw[hg]at ho;have fin:∀{aD:Nat} {es:List (List IV)},(∀b,g.φ id=some b->Row ν g.I g.w b aD es)->aD=e->cD g.w (g.φ id) aD es o m v->∃news,ka ν g v e ((es.drop o).take m) news:=by
   intro aD es aC he hs;subst he;cases ah:g.φ id with
   |none=>
    rw[ah]at hs;obtain⟨⟨a,rfl⟩,rfl⟩:=hs;exact⟨[],by simpa using gB (ν:=ν) (g:=g) (e:=aD) (v:=.slice a 0 0) rfl⟩
   |some b=>
    rw[ah]at hs;obtain⟨x,cap,rfl,h2,h3,h4,_⟩:=hs;by_cases hm:m=0
    ·subst hm;exact⟨[],by simpa using gB (ν:=ν) (g:=g) (e:=aD) (a:=some ⟨b,x,none⟩) (c:=cap) rfl⟩
    ·have hx:x=o*aD:=h4.resolve_right λh=>hm h.1
     have aC:=aC b ah;have eI:∀(i:Nat) (c:List IV),((es.drop o).take m)[i]?=some c->es[o+i]?=some c:=by
      intro i c hi;rw[List.getElem?_take]at hi;split at hi
      ·rwa [List.getElem?_drop]at hi
      ·cases hi
     exact kb (by simp;omega) (λc hc=>aC.1 c (List.mem_of_mem_drop (List.mem_of_mem_take hc))) (λi j c y h1 h2=>by
      obtain⟨u,hu,hR⟩:=aC.2 (o+i) j c y (eI i c h1) h2;exact⟨u,by rwa [Nat.add_mul]at hu,hR⟩) hx.symm
  cases ob with
  |cells cs=>exact ho.elim
  |buf v' aD es=>
   obtain⟨cw,dg⟩:=M.aj e2;obtain⟨rfl,rfl⟩:=af dg;simp only[Bool.and_eq_true,beq_iff_eq]at cw;refine⟨rfl,fin (λb ah=>?_) cw.2 (ho.2 cw.1)⟩;rcases r.ob id _ hg with⟨h1,_⟩|⟨b',h1,_,_,aC⟩
   ·rw[ah]at h1;cases h1
   ·rw[ah]at h1;cases h1;exact aC
  |aZ v' aD es=>
   obtain⟨cw,dg⟩:=M.aj e2;obtain⟨rfl,rfl⟩:=af dg;simp only[Bool.and_eq_true,beq_iff_eq]at cw;refine⟨rfl,fin (λb ah=>?_) cw.2 (ho.2 cw.1)⟩;rcases r.ob id _ hg with⟨h1,_⟩|⟨b',h1,_,aC⟩
   ·rw[ah]at h1;cases h1
   ·rw[ah]at h1;cases h1;exact aC
  |map _=>exact ho.elim
def oB (P:Program) (t u:TypeId) (e:Nat):Bool:=
 match P.underlying t,P.underlying u with
 |some (.slice el),some d=>(match d with | .int _=>false | _=>true)&&Nat.blt 0 e&&(match P.info? el with
  |some i=>i.size==e&&Nat.ble i.bytes 4096&&(match i.zero with | some z=>z.cells.size==e | none=>false)
  |none=>false)
 |_,_=>false
theorem s7 {t u:TypeId} {e:Nat} (h:oB P t u e=true):∃el d i z,P.underlying t=some (.slice el)/\P.underlying u=some d/\(∀kk,d≠.int kk)/\P.info? el=some i/\i.size=e/\i.bytes<=4096/\i.zero=some z/\z.cells.size=e/\0<e:=by
 unfold oB at h;split at h
 case h_2=>cases h
 rename_i el d hu hd;simp only[Bool.and_eq_true,Nat.blt_eq]at h;obtain⟨⟨h1,h2⟩,h3⟩:=h;split at h3
 case h_2=>cases h3
 rename_i i hi;simp only[Bool.and_eq_true,beq_iff_eq,Nat.ble_eq]at h3;obtain⟨⟨h4,h5⟩,h6⟩:=h3;split at h6
 case h_2=>cases h6
 rename_i z hz;exact⟨el,d,i,z,hu,hd,(λkk he=>by subst he;cases h1),hi,h4,h5,hz,by simpa using h6,h2⟩
theorem mf {v:Value} {e:Nat} {ys:List (List IV)} {news:List Value} (h:ka ν g v e ys news) {w:World} (hw:∀b off u,g.w.cell? ⟨b,off,none⟩=some u->w.cell? ⟨b,off,none⟩=some u) :
  (Builtin.lenOf v).run P w = .ok ys.length w/\(Builtin.firstCells e ys.length v).run P w = .ok news.toArray w:=by
 obtain⟨⟨a,c,rfl,ha⟩,hn,_⟩:=h;refine⟨by simp[Builtin.lenOf],?_⟩;rcases ha with h0 | ⟨b,off,rfl,hc⟩
 ·have:news=[]:=List.eq_nil_of_length_eq_zero (by rw[hn,h0];simp);subst this;cases a with
  |none=>simp[Builtin.firstCells]
  |some a=>simp[Builtin.firstCells,h0,loadCells,loadCellsFrom]
 ·exact run_firstCells_some w e ys.length _ _ _ news hn λj u hu=>by rw[Addr.add_lit];exact hw _ _ _ (hc j u hu)
theorem lv {need cap bytes:Nat} (h:cap<need) (hn:need<=1073741824) (hb:bytes<=4096):Builtin.nextslicecap need cap*bytes<=281474976710656:=by
 refine growslice_fits h ?_;exact Nat.le_trans (Nat.mul_le_mul hn hb) (by decide)
theorem fw {t u ty:TypeId} {e:Nat} (ht:oB P t u e=true) {base:Option Addr} {n cap:Nat} {olds:List Value} (iO:olds.length=n*e)
  (ho:n=0\/∃b,base=some ⟨b,0,none⟩/\∀(p:Nat) (x:Value),olds[p]?=some x->g.w.cell? ⟨b,p,none⟩=some x) {y:Value} {ys:List (List IV)} {news:List Value} (hy:ka ν g y e ys news)
  (dF:n+ys.length<=1073741824) :
  (n+ys.length<=cap/\∀R,(match base with | some a=>(storeCells (a.add (n*e)) news).run P g.w | none=>.ok () g.w) = .ok () R->
    (Builtin.append_ #[t,u] ty #[.slice base n cap,y]).run P g.w = .ok (.slice base (n+ys.length) cap) R)\/
  (cap<n+ys.length/\∃(el dn:Nat) (arr:Array Value),n+ys.length<=dn/\arr.size=dn*e/\(∀(p:Nat) (x:Value),(olds++news)[p]?=some x->arr[p]?=some x)/\
    (Builtin.append_ #[t,u] ty #[.slice base n cap,y]).run P g.w = .ok (.slice (some ⟨g.w.heap.size,0,none⟩) (n+ys.length) dn) (g.w.drew.alloc (.cells arr el))):=by
 obtain⟨el,d,i,z,hu,hd,I0,hi,rfl,hb,hz,kH,dL⟩:=s7 ht;obtain⟨f1,f2⟩:=mf (P:=P) hy (w:=g.w) λ_ _ _ h=>h
 by_cases hc:n+ys.length<=cap
 ·refine .inl ⟨hc,λR hR=>?_⟩;cases base with
  |none=>
   simp only[Result.ok.injEq,true_and]at hR;subst hR;simp[Builtin.append_,run_underlying hu,run_underlying hd,run_sizeOf hi,f1,f2,hc]
  |some a=>
   simp only[]at hR;simp[Builtin.append_,run_underlying hu,run_underlying hd,run_sizeOf hi,f1,f2,hc,hR]
 ·refine .inr ⟨by omega,el,grownCap g.w (n+ys.length) cap el,olds.toArray++news.toArray++Builtin.zeroCells z.cells (grownCap g.w (n+ys.length) cap el - (n+ys.length)),grownCap_ge _ _ _ _,?_,?_,?_⟩
  ·have:=grownCap_ge g.w (n+ys.length) cap el;simp only[Array.size_append,List.size_toArray];rw[size_zeroCells,kH,iO,hy.2.1,<-Nat.add_mul,<-Nat.add_mul];congr 1;omega
  ·intro p x hx;have hp:=ay hx;rw[Array.getElem?_append_left (by simpa using hp)];simpa using hx
  ·obtain⟨-,Cb⟩:=mf (P:=P) hy (w:=g.w.drew) λ_ _ _ h=>h
   have hold:(Builtin.firstCells i.size n (.slice base n cap)).run P g.w.drew = .ok olds.toArray g.w.drew:=by
    rcases ho with h0 | ⟨b,rfl,df⟩
    ·have:olds=[]:=List.eq_nil_of_length_eq_zero (by rw[iO,h0];simp);subst this;cases base with
     |none=>simp[Builtin.firstCells]
     |some a=>simp[Builtin.firstCells,h0,loadCells,loadCellsFrom]
    ·exact run_firstCells_some g.w.drew i.size n _ _ _ olds iO λj x hx=>by rw[Addr.add_lit];simpa using df j x hx
   have eH:=lv (need:=n+ys.length) (cap:=cap) (bytes:=i.bytes) (by omega) dF hb;have tZ:¬(281474976710656<Builtin.nextslicecap (n+ys.length) cap*i.bytes):=by omega
   have Cc:¬((9223372036854775807:Int)<(n:Int)+ys.length):=by omega
   simp[Builtin.append_,run_underlying hu,run_underlying hd,run_sizeOf hi,f1,hc,Cc,typeInfo,hi,tZ,Question.forced,hold,Cb,zeroValue,hz,newRow,grownCap];congr 2;apply Array.ext';simp
theorem ua (r:Rel ν k g) {slot:Nat} {t u ty:TypeId} {e:Nat} (ht:oB P t u e=true) {v yv:Value} {x y z:AV} (hv:RA ν g v x) (yi:RA ν g yv y) {h':Hp}
  (e':(app e slot x y).run g.h=some (z,h')):bf ν k g h' z ((Builtin.append_ #[t,u] ty #[v,yv]).run P g.w):=by
 obtain⟨ys,h1,e1,e2⟩:=ag e';obtain⟨rfl,news,hy⟩:=kc r e1 yi;have oC:=hy.2.1;have mT:=hy.2.2.1;have re:=hy.2.2.2.2;cases hv with
 |undef=>exact(ae e2).elim
 |agg=>exact(ae e2).elim
 |aR=>exact(ae e2).elim
 |ref=>exact(ae e2).elim
 |bp=>exact(ae e2).elim
 |iv hr=>
  cases hr with
  |aq a _=>
   obtain⟨dF,e4⟩:=M.aj e2;obtain⟨_,h3,e5,e6⟩:=ag e4;obtain⟨hf,rfl⟩:=M.ct e5;obtain⟨_,h4,e7,e8⟩:=ag e6;obtain rfl:=aI e7;obtain⟨rfl,rfl⟩:=af e8;have fW:0+ys.length<=1073741824:=by simpa[roomy]using dF
   rcases fw (ty:=ty) (base:=a) (n:=0) (cap:=0) (olds:=[]) ht (by simp) (.inl rfl) hy fW with⟨hc,aY⟩|⟨hc,el,dn,arr,h1,h2,h3,aY⟩
   ·have h0:ys=[]:=List.eq_nil_of_length_eq_zero (by omega);subst h0;have gP:news=[]:=List.eq_nil_of_length_eq_zero (by simpa using oC);subst gP;have:=aY g.w (by cases a<;>simp[storeCells]);have hn:=r.new (s:=slot) (ob:=.buf 0 e []) (p:=none) (w':=g.w) hf (Nat.le_refl _) rfl rfl rfl (λ_ _=>rfl) (λb h=>by cases h) λ_=>.inl ⟨aw _ _ _,rfl⟩
    refine⟨{ g with φ:=bl g.φ slot none,h:=set g.h slot (.buf 0 e []) },_,this,rfl,hn.1,hn.2,.own rfl ?_⟩;unfold aE;simp only[an,aw];exact⟨Nat.le_refl _,λ_=>⟨⟨a,rfl⟩,rfl⟩⟩
   ·simp only[Nat.zero_add]at *;have hn:=r.new (s:=slot) (ob:=.buf 0 e ys) (p:=some g.w.heap.size) (w':=g.w.drew.alloc (.cells arr el)) hf (by simp) rfl rfl rfl (λb hb=>alloc_old g.w.drew _ _ hb)
     (λb h=>by cases h;exact Nat.le_refl _) λ_=>by
      have cp:∀u x,RI ν g.I g.w u x->RI ν g.I (g.w.drew.alloc (.cells arr el)) u x:=λu x h=>h.mono (λ_ h=>h) λb off w hb hc=>by
       rw[bw (alloc_old g.w.drew _ _ (r.small b hb))];exact hc
      refine .inr ⟨g.w.heap.size,aw _ _ _,λbY=>Nat.lt_irrefl _ (r.small _ bY),⟨by simp,λo=>World.frozen?_alloc_new g.w.drew _ _ _⟩,mT,λi j c x hi hj=>?_⟩;obtain⟨u,hu,hR⟩:=re i j c x hi hj;exact⟨u,by simp only[];rw[show(g.w.drew.alloc (.cells arr el)).cell? ⟨g.w.heap.size,i*e+j,none⟩=arr[i*e+j]? from World.cell?_alloc_new g.w.drew _ _ _];exact h3 _ _ (by simpa using hu),cp _ _ hR⟩
    refine⟨_,_,aY,rfl,hn.1,hn.2,.own rfl ?_⟩;unfold aE;simp only[an,aw];refine⟨Nat.le_refl _,λ_=>⟨0,dn,rfl,by omega,h1,.inl (by simp),λ_ c hc=>?_⟩⟩;rw[show(g.w.drew.alloc (.cells arr el)).cell? ⟨g.w.heap.size,c,none⟩=arr[c]? from World.cell?_alloc_new g.w.drew _ _ _,Array.getElem?_eq_getElem (by rw[h2];simpa using hc)];rfl
  |_=>exact(ae e2).elim
 |@own _ id o n ai j4 ho=>
  obtain⟨ob,hg,e4⟩:=M.aM e2;unfold aE at ho;rw[hg]at ho;cases ob with
  |cells _=>exact ho.elim
  |aZ _ _ _=>exact(ae e4).elim
  |map _=>exact(ae e4).elim
  |buf v' aD es=>
   obtain⟨bx,e6⟩:=M.aj e4;simp only[Bool.and_eq_true,beq_iff_eq]at bx;obtain⟨⟨⟨rfl,rfl⟩,rfl⟩,dF⟩:=bx;obtain⟨_,h4,e7,e8⟩:=ag e6;obtain rfl:=aI e7;obtain⟨rfl,rfl⟩:=af e8;have fW:n+ys.length<=1073741824:=by simpa[roomy]using dF
   have hs:=ho.2 rfl;have grow:∀{cap:Nat} {base:Option Addr} {olds:List Value} {el dn:Nat} {arr:Array Value},v = .slice base n cap->olds.length=n*aD->(∀c ∈ es.take n,c.length=aD)->n<=es.length->
     (∀(i j:Nat) (c:List IV) (x:IV),(es.take n)[i]?=some c->c[j]?=some x->∃u,olds[i*aD+j]?=some u/\RI ν g.I g.w u x)->
     n+ys.length<=dn->arr.size=dn*aD->(∀(p:Nat) (x:Value),(olds++news)[p]?=some x->arr[p]?=some x)->
     (Builtin.append_ #[t,u] ty #[v,yv]).run P g.w = .ok (.slice (some ⟨g.w.heap.size,0,none⟩) (n+ys.length) dn) (g.w.drew.alloc (.cells arr el))->
     bf ν k g (set g.h id (.buf (v'+1) aD (es.take n++ys))) (.own id 0 (n+ys.length) (v'+1)) ((Builtin.append_ #[t,u] ty #[v,yv]).run P g.w):=by
    intro cap base olds el dn arr _ iO FE hn hold h1 h2 h3 aY;have b8:∀b,g.φ id=some b->¬g.I b:=by
     intro b ah;rcases r.ob id _ hg with⟨h1,_⟩|⟨b',h1,h2,_⟩
     ·rw[ah]at h1;cases h1
     ·rw[ah]at h1;cases h1;exact h2
    have cp:∀u x,RI ν g.I g.w u x->RI ν g.I (g.w.drew.alloc (.cells arr el)) u x:=λu x h=>h.mono (λ_ h=>h) λb off w hb hc=>by
     rw[bw (alloc_old g.w.drew _ _ (r.small b hb))];exact hc
    have ht:=r.iR (s:=id) (ob:=.buf (v'+1) aD (es.take n++ys)) (p:=some g.w.heap.size) (w':=g.w.drew.alloc (.cells arr el)) (I':=g.I) hg b8 (by simp) rfl rfl rfl
     (λb hb _=>alloc_old g.w.drew _ _ hb) (λ_ h=>h) (λ_ h=>.inl h) (.inr ⟨_,rfl,Nat.le_refl _⟩)
     (λw o n ai h=>by
      unfold aE at h ⊢;rw[hg]at h;simp only[an,aw];have:=h.1;exact⟨by omega,λhe=>by omega⟩)
     (λw ai i j h=>by
      unfold aG at h ⊢;rw[hg]at h;simp only[an,aw];have:=h.1;exact⟨by omega,λhe=>by omega⟩)
     (λ_ _=>by
      refine .inr ⟨g.w.heap.size,aw _ _ _,λbY=>Nat.lt_irrefl _ (r.small _ bY),⟨by simp,λo=>World.frozen?_alloc_new g.w.drew _ _ _⟩,λc hc=>?_,λi j c x hi hj=>?_⟩
      ·rcases List.mem_append.1 hc with h | h
       ·exact FE c h
       ·exact mT c h
      ·rw[List.getElem?_append]at hi;simp only[List.length_take,Nat.min_eq_left hn]at hi;have key:∃u,(olds++news)[i*aD+j]?=some u/\RI ν g.I g.w u x:=by
        split at hi
        ·obtain⟨u,hu,hR⟩:=hold i j c x hi hj;exact⟨u,by rw[List.getElem?_append_left (ay hu)];exact hu,hR⟩
        ·rename_i dV;obtain⟨u,hu,hR⟩:=re (i - n) j c x hi hj;refine⟨u,?_,hR⟩;have:n*aD+(i - n)*aD=i*aD:=by rw[<-Nat.add_mul];congr 1;omega
         rw[List.getElem?_append_right (by omega),show i*aD+j - olds.length=(i - n)*aD+j by omega];exact hu
       obtain⟨u,hu,hR⟩:=key;exact⟨u,by simp only[];rw[show(g.w.drew.alloc (.cells arr el)).cell? ⟨g.w.heap.size,i*aD+j,none⟩=arr[i*aD+j]? from World.cell?_alloc_new g.w.drew _ _ _];exact h3 _ _ hu,cp _ _ hR⟩)
    refine⟨_,_,aY,rfl,ht.1,ht.2,.own rfl ?_⟩;unfold aE;simp only[an,aw];refine⟨Nat.le_refl _,λ_=>⟨0,dn,rfl,by simp;omega,h1,.inl (by simp),λ_ c hc=>?_⟩⟩;rw[show(g.w.drew.alloc (.cells arr el)).cell? ⟨g.w.heap.size,c,none⟩=arr[c]? from World.cell?_alloc_new g.w.drew _ _ _,Array.getElem?_eq_getElem (by rw[h2];simpa using hc)];rfl
   cases ah:g.φ id with
   |none=>
    rw[ah]at hs;obtain⟨⟨a,rfl⟩,rfl⟩:=hs;rcases fw (ty:=ty) (base:=a) (n:=0) (cap:=0) (olds:=[]) ht (by simp) (.inl rfl) hy fW with⟨hc,aY⟩|⟨hc,el,dn,arr,h1,h2,h3,aY⟩
    ·have h0:ys=[]:=List.eq_nil_of_length_eq_zero (by omega);subst h0;have gP:news=[]:=List.eq_nil_of_length_eq_zero (by simpa using oC);subst gP;have k9:=aY g.w (by cases a<;>simp[storeCells]);have dE:=r.iR (s:=id) (ob:=.buf (v'+1) aD []) (p:=g.φ id) (w':=g.w) (I':=g.I) hg (λb h=>by rw[ah]at h;cases h) (Nat.le_refl _) rfl rfl rfl
      (λ_ _ _=>rfl) (λ_ h=>h) (λ_ h=>.inl h) (.inl rfl)
      (λw o n ai h=>by
       unfold aE at h ⊢;rw[hg]at h;simp only[an,aw];have:=h.1;exact⟨by omega,λhe=>by omega⟩)
      (λw ai i j h=>by
       unfold aG at h ⊢;rw[hg]at h;simp only[an,aw];have:=h.1;exact⟨by omega,λhe=>by omega⟩)
      (λ_ _=>.inl ⟨(aw _ _ _).trans ah,rfl⟩)
     simp only[List.take_zero,List.append_nil]at *;refine⟨⟨g.I,bl g.φ id (g.φ id),g.w,set g.h id (.buf (v'+1) aD [])⟩,_,k9,rfl,dE.1,dE.2,.own rfl ?_⟩;unfold aE;simp only[an,aw,ah];exact⟨Nat.le_refl _,λ_=>⟨⟨a,rfl⟩,rfl⟩⟩
    ·exact grow rfl (olds:=[]) (by simp) (λc h=>by simp at h) (Nat.zero_le _) (λi j c x h=>by simp at h) h1 h2 h3 aY
   |some b=>
    rw[ah]at hs;obtain⟨x,cap,rfl,q2,q3,q4,q5⟩:=hs;have hx:x=0:=by
     rcases q4 with h | h
     ·simpa using h
     ·exact absurd rfl h.2
    subst hx;have q5:=q5 (by simp);rcases r.ob id _ hg with⟨h1,_⟩|⟨b',h1,b8,cE,aC⟩
    ·rw[ah]at h1;cases h1
    rw[ah]at h1;cases h1;have EH:=kb (ν:=ν) (g:=g) (b:=b) (off:=0) (a0:=0) (e:=aD) (m:=n) (cap:=cap) (ys:=es.take n) (by simp;omega) (λc hc=>aC.1 c (List.mem_of_mem_take hc)) (λi j c x h1 h2=>by
     rw[List.getElem?_take]at h1;split at h1
     ·obtain⟨w,hw,hR⟩:=aC.2 i j c x h1 h2;exact⟨w,by rw[Nat.zero_add];exact hw,hR⟩
     ·cases h1) rfl
    obtain⟨olds,⟨a,c,ha,I3⟩,iO,FE,ef,hold⟩:=EH;simp only[Value.slice.injEq]at ha;obtain⟨rfl, -,rfl⟩:=ha;have rf:(es.take n).length=n:=by simp;omega
    rw[rf]at iO;have df:n=0\/∃b',some (⟨b,0,none⟩:Addr)=some ⟨b',0,none⟩/\∀(p:Nat) (x:Value),olds[p]?=some x->g.w.cell? ⟨b',p,none⟩=some x:=by
     rcases I3 with h | ⟨BY,off,hb,hh⟩
     ·exact .inl (by omega)
     ·cases hb;exact .inr ⟨b,rfl,λp x hp=>by have:=hh p x hp;rwa [Nat.zero_add]at this⟩
    rcases fw (ty:=ty) (base:=some ⟨b,0,none⟩) (n:=n) (cap:=cap) (olds:=olds) ht iO df hy fW with⟨hc,aY⟩|⟨hc,el,dn,arr,h1,h2,h3,aY⟩
    ·
     have hex:∀j,j<news.length->(g.w.cell? ⟨b,n*aD+j,none⟩).isSome=true:=λj hj=>q5 _ (by
      have:n*aD+ys.length*aD<=cap*aD:=by rw[<-Nat.add_mul];exact Nat.mul_le_mul_right _ hc
      rw[Nat.zero_add];omega)
     have fp:=run_storeCells_cells (P:=P) b (n*aD) news 0 g.w (by simpa using hex) (λ_ _=>cE.2 _) hy.2.2.2.1;have k9:=aY (g.w.setCells b (n*aD) news) (by simpa[Addr.add_lit]using fp);have eJ:=r.put (id:=id) (v:=v') (e:=aD) (b:=b) (off:=n*aD) (v':=v'+1) (es:=es) (es':=es.take n++ys) (vs:=news) hg ah hex (.inr rfl) (λcp=>by
      refine⟨λc hc=>?_,λi j c x hi hj=>?_⟩
      ·rcases List.mem_append.1 hc with h | h
       ·exact aC.1 c (List.mem_of_mem_take h)
       ·exact mT c h
      ·rw[cR _ _ _ _ hex];rw[List.getElem?_append]at hi;simp only[rf]at hi;split at hi
       ·rename_i dV;rw[List.getElem?_take,if_pos dV]at hi;have mU:j<aD:=by have:=ay hj;rwa [aC.1 c (List.mem_of_getElem? hi)]at this
        have:i*aD+aD<=n*aD:=by rw[<-Nat.succ_mul];exact Nat.mul_le_mul_right _ dV
        rw[if_neg (by omega)];obtain⟨w,hw,hR⟩:=aC.2 i j c x hi hj;exact⟨w,hw,cp _ _ hR⟩
       ·rename_i dV;obtain⟨w,hw,hR⟩:=re (i - n) j c x hi hj;have aT:=ay hw;have:n*aD+(i - n)*aD=i*aD:=by rw[<-Nat.add_mul];congr 1;omega
        rw[if_pos (by omega),show i*aD+j - n*aD=(i - n)*aD+j by omega];exact⟨w,hw,cp _ _ hR⟩)
     refine⟨_,_,k9,rfl,eJ.1,eJ.2,.own rfl ?_⟩;unfold aE;simp only[an,ah];refine⟨Nat.le_refl _,λ_=>⟨0,cap,rfl,by simp;omega,hc,.inl (by simp),λ_ c hc=>fi _ _ _ _ hex _ (q5 c hc)⟩⟩
    ·exact grow rfl iO (λc hc=>aC.1 c (List.mem_of_mem_take hc)) (by omega) hold h1 h2 h3 aY
def zJ (P:Program) (t:TypeId) (e:Nat) (z:List IV):Bool:=
 match P.underlying t with
 |some (.slice el)=>jj P el e&&mc P el z
 |_=>false
theorem ub (r:Rel ν k g) {t ty:TypeId} {e:Nat} {z:List IV} (ht:zJ P t e z=true) {v:Value} {x y:AV} (hv:RA ν g v x) {h':Hp} (e':(kV e z x).run g.h=some (y,h')) :
  bf ν k g h' y ((Builtin.clear_ #[t] ty #[v]).run P g.w):=by
 unfold zJ at ht;split at ht
 case h_2=>cases ht
 rename_i el hu;simp only[Bool.and_eq_true]at ht;obtain⟨bB,hz⟩:=ht;obtain⟨i,hi,rfl⟩:=ft bB;obtain⟨i',zv,bY,oz,gZ⟩:=k7 hz;rw[hi]at bY;cases bY;cases hv with
 |undef=>exact(ae e').elim
 |agg=>exact(ae e').elim
 |aR=>exact(ae e').elim
 |ref=>exact(ae e').elim
 |bp=>exact(ae e').elim
 |iv=>exact(ae e').elim
 |@own _ id o n ai j4 ho=>
  obtain⟨ob,hg,e4⟩:=M.aM e';unfold aE at ho;rw[hg]at ho;cases ob with
  |cells _=>exact ho.elim
  |aZ _ _ _=>exact(ae e4).elim
  |map _=>exact(ae e4).elim
  |buf v' aD es=>
   obtain⟨bx,e6⟩:=M.aj e4;simp only[Bool.and_eq_true,beq_iff_eq]at bx;obtain⟨⟨rfl,rfl⟩,s6⟩:=bx;obtain⟨_,h4,e7,e8⟩:=ag e6;obtain rfl:=aI e7;obtain⟨rfl,rfl⟩:=af e8;have hs:=ho.2 rfl;have kH:zv.cells.size=i.size:=by have:=(jo gZ).1;simp at this;omega
   have yj:RA ν g (.tuple #[]) (.aR []):=.aR rfl λj v c h=>by simp at h
   cases ah:g.φ id with
   |none=>
    rw[ah]at hs;obtain⟨⟨a,rfl⟩,rfl⟩:=hs;have yl:es=[]:=by
     rcases r.ob id _ hg with⟨_,h2⟩|⟨b',h1,_⟩
     ·exact h2
     ·rw[ah]at h1;cases h1
    subst yl;have qn:set g.h id (.buf v' i.size ([].take o++List.replicate 0 z++[].drop (o+0)))=set g.h id (.buf v' i.size []):=by simp
    rw[qn];have aY:(Builtin.clear_ #[t] ty #[.slice a 0 0]).run P g.w = .ok (.tuple #[]) g.w:=by
     cases a<;>simp[Builtin.clear_,run_underlying hu]
    have dE:=r.iR (s:=id) (ob:=.buf v' i.size []) (p:=g.φ id) (w':=g.w) (I':=g.I) hg (λb h=>by rw[ah]at h;cases h) (Nat.le_refl _) rfl rfl rfl
     (λ_ _ _=>rfl) (λ_ h=>h) (λ_ h=>.inl h) (.inl rfl)
     (λw o n ai h=>by
      unfold aE at h ⊢;rw[hg]at h;simp only[an,aw];exact h)
     (λw ai i j h=>by
      unfold aG at h ⊢;rw[hg]at h;simp only[an,aw];exact h)
     (λ_ _=>.inl ⟨(aw _ _ _).trans ah,rfl⟩)
    exact⟨⟨g.I,bl g.φ id (g.φ id),g.w,set g.h id (.buf v' i.size [])⟩,_,aY,rfl,dE.1,dE.2,dE.2 _ _ yj⟩
   |some b=>
    rw[ah]at hs;obtain⟨x,cap,rfl,q2,q3,q4,q5⟩:=hs;rcases r.ob id _ hg with⟨h1,_⟩|⟨b',h1,b8,cE,aC⟩
    ·rw[ah]at h1;cases h1
    rw[ah]at h1;cases h1;generalize eS:(Builtin.zeroCells zv.cells n).toList=vs;have uc:vs.length=n*i.size:=by rw[<-eS];simp[size_zeroCells,kH]
    have ef:∀u ∈ vs,u.oneCell'=true:=by
     intro u dD;rw[<-eS]at dD;simp only[Builtin.zeroCells,Array.toList_map,List.mem_map]at dD;obtain⟨p,hp,rfl⟩:=dD;simp only[Array.toList_range,List.mem_range]at hp;have aT:p % zv.cells.size<zv.cells.size:=Nat.mod_lt _ (by
      rcases Nat.eq_zero_or_pos zv.cells.size with h0 | h0
      ·rw[h0]at hp;simp at hp
      ·exact h0)
     rw[getElem!_pos zv.cells _ aT];obtain⟨hl,fV⟩:=jo gZ;obtain⟨w,hw,hc⟩:=fV (p % zv.cells.size) _ (List.getElem?_eq_getElem (by simp at hl;omega));have:w=zv.cells[p % zv.cells.size]:=by
      have h':zv.cells[p % zv.cells.size]?=some w:=by simpa using hw
      rw[Array.getElem?_eq_getElem aT]at h';exact(Option.some.inj h').symm
     rw[<-this];exact(j8 (ν:=ν) hc g.I g.w).one
    have hex:∀j,j<vs.length->(g.w.cell? ⟨b,o*i.size+j,none⟩).isSome=true:=by
     intro j hj;have gP:n≠0:=λh=>by rw[uc,h]at hj;simp at hj
     have hx:x=o*i.size:=q4.resolve_right λh=>gP h.1
     refine q5 hx _ ?_;have:n*i.size<=cap*i.size:=Nat.mul_le_mul_right _ q3;rw[Nat.add_mul];omega
    have aY:(Builtin.clear_ #[t] ty #[.slice (some ⟨b,x,none⟩) n cap]).run P g.w = .ok (.tuple #[]) (g.w.setCells b (o*i.size) vs):=by
     by_cases gP:n=0
     ·subst gP;have:vs=[]:=List.eq_nil_of_length_eq_zero (by simpa using uc);subst this;simp[Builtin.clear_,run_underlying hu,World.setCells]
     ·have hx:x=o*i.size:=q4.resolve_right λh=>gP h.1
      subst hx;have fp:=run_storeCells_cells (P:=P) b (o*i.size) vs 0 g.w (by simpa using hex) (λ_ _=>cE.2 _) ef;simp only[Nat.add_zero]at fp;have tN:∀m,n=m+1->(Builtin.clear_ #[t] ty #[.slice (some ⟨b,o*i.size,none⟩) n cap]).run P g.w = .ok (.tuple #[]) (g.w.setCells b (o*i.size) vs):=by
       intro m hm;subst hm;simp[Builtin.clear_,run_underlying hu,zeroValue,typeInfo,hi,oz,eS,fp]
      exact tN (n - 1) (by omega)
    have eJ:=r.put (id:=id) (v:=v') (e:=i.size) (b:=b) (off:=o*i.size) (v':=v') (es:=es) (es':=es.take o++List.replicate n z++es.drop (o+n)) (vs:=vs) hg ah hex (.inl ⟨rfl,by simp;omega⟩) (λcp=>by
     have Cd:(es.take o).length=o:=by simp;omega
     refine⟨λc hc=>?_,λa j c y ha hj=>?_⟩
     ·simp only[List.mem_append]at hc;rcases hc with(h | h) | h
      ·exact aC.1 c (List.mem_of_mem_take h)
      ·rw[List.eq_of_mem_replicate h];exact s6
      ·exact aC.1 c (List.mem_of_mem_drop h)
     ·rw[cR _ _ _ _ hex,uc];rw[List.getElem?_append,List.getElem?_append]at ha;simp only[List.length_append,List.length_replicate,Cd]at ha;have ud:∀{p q:Nat},p<q->p*i.size+i.size<=q*i.size:=λh=>by rw[<-Nat.succ_mul];exact Nat.mul_le_mul_right _ h
      split at ha
      ·rename_i h1;split at ha
       ·rename_i h2;rw[List.getElem?_take,if_pos h2]at ha;have mU:j<i.size:=by have:=ay hj;rwa [aC.1 c (List.mem_of_getElem? ha)]at this
        have:=ud h2;rw[if_neg (by omega)];obtain⟨w,hw,hR⟩:=aC.2 a j c y ha hj;exact⟨w,hw,cp _ _ hR⟩
       ·rename_i h2;rw[List.getElem?_replicate,if_pos (by omega)]at ha;cases ha;have mU:j<i.size:=by have:=ay hj;omega
        have e1:o*i.size+(a - o)*i.size=a*i.size:=by rw[<-Nat.add_mul];congr 1;omega
        have e2:(a - o)*i.size+i.size<=n*i.size:=ud (by omega);rw[if_pos (by omega),show a*i.size+j - o*i.size=(a - o)*i.size+j by omega];obtain⟨hl,fV⟩:=jo gZ;obtain⟨w,hw,hc⟩:=fV j y hj;refine⟨w,?_,j8 hc _ _⟩;rw[<-eS];have hp:(a - o)*i.size+j<n*i.size:=by omega
        have qm:((a - o)*i.size+j) % i.size=j:=by rw[Nat.add_comm,Nat.add_mul_mod_self_right,Nat.mod_eq_of_lt mU]
        simp only[Builtin.zeroCells,Array.getElem?_toList,Array.getElem?_map,Array.getElem?_range,if_pos hp,Option.map_some,kH,qm];rw[getElem!_pos zv.cells j (by omega)];have h':zv.cells[j]?=some w:=by simpa using hw
        rw[Array.getElem?_eq_getElem (by omega)]at h';exact h'
      ·rename_i h1;rw[List.getElem?_drop,show o+n+(a - (o+n))=a by omega]at ha;have mU:j<i.size:=by have:=ay hj;rwa [aC.1 c (List.mem_of_getElem? ha)]at this
       have:o*i.size+n*i.size<=a*i.size:=by rw[<-Nat.add_mul];exact Nat.mul_le_mul_right _ (by omega)
       rw[if_neg (by omega)];obtain⟨w,hw,hR⟩:=aC.2 a j c y ha hj;exact⟨w,hw,cp _ _ hR⟩)
    exact⟨_,_,aY,rfl,eJ.1,eJ.2,eJ.2 _ _ yj⟩
end
def jM (P:Program) (t:TypeId) (qs:List Nat):Bool:=
 match P.underlying t with
 |some (.array n e)=>qs.length==n&&qs.length != 1&&fO P e 1 false&&qs.all λq=>du q (P.underlying e)
 |d=>(match qs with | [q]=>du q d | _=>false)
section
variable {ν:Nat->Nat} {P:Program} {k:Cx} {g:Gh}
theorem gC {t:TypeId} {qs:List Nat} (h:jM P t qs=true):(∃n e,P.underlying t=some (.array n e)/\qs.length=n/\qs.length≠1/\fO P e 1 false=true/\∀q ∈ qs,du q (P.underlying e)=true)\/∃q,qs=[q]/\du q (P.underlying t)=true:=by
 unfold jM at h;split at h
 ·rename_i n e hu;simp only[Bool.and_eq_true,beq_iff_eq,bne_iff_ne,ne_eq,List.all_eq_true]at h;exact .inl ⟨n,e,hu,h.1.1.1,h.1.1.2,h.1.2,h.2⟩
 ·split at h
  ·rename_i q;exact .inr ⟨q,rfl,h⟩
  ·cases h
theorem qo {e:TypeId} (he:fO P e 1 false=true) {xs ys:Array Value} (d:Nat) (w:World):∀(qs:List Nat) (i:Nat) (cs ds:List AV) (b:Bool),(∀q ∈ qs,du q (P.underlying e)=true)->eqs qs cs ds=some b->
  (∀(j:Nat) (c:AV),cs[j]?=some c->∃v,xs[i+j]?=some v/\RA ν g v c)->(∀(j:Nat) (c:AV),ds[j]?=some c->∃v,ys[i+j]?=some v/\RA ν g v c)->
  (Op.eqItems (d+1) e 1 xs ys (List.range' i qs.length)).run P w = .ok b w:=by
 intro qs
 induction qs with
 |nil=>
  intro i cs ds b _ h2 _ _;cases cs<;>cases ds<;>simp[eqs]at h2;subst h2;simp[Op.eqItems]
 |cons q qs ih=>
  intro i cs ds b h1 h2 hx hy;cases cs with
  |nil=>simp[eqs]at h2
  |cons c cs=>
   cases ds with
   |nil=>simp[eqs]at h2
   |cons d' ds=>
    simp only[eqs,Option.bind_eq_some_iff]at h2;obtain⟨b1,e1,b2,e2,e3⟩:=h2;cases e3;obtain⟨v,hv,yf⟩:=hx 0 c rfl;obtain⟨u,hu,s4⟩:=hy 0 d' rfl;obtain⟨dd,ii,h3,h4,h5,h6,_⟩:=c8 he;have jw:(part e xs (i*1)).run P w = .ok v w:=by simp[part,cJ h3,h5,show xs[i]?=some v from hv]
    have bD:(part e ys (i*1)).run P w = .ok u w:=by simp[part,cJ h3,h5,show ys[i]?=some u from hu]
    have dL:=lp (P:=P) e1 (h1 q (by simp)) yf s4 d w;have hr:=ih (i+1) cs ds b2 (λq hq=>h1 q (by simp[hq])) e2 (λj c hc=>by have:=hx (j+1) c (by simpa using hc);rwa [show i+1+j=i+(j+1) by omega]) (λj c hc=>by
     have:=hy (j+1) c (by simpa using hc);rwa [show i+1+j=i+(j+1) by omega])
    simp only[List.length_cons,List.range'_succ,Op.eqItems,Sem.run_bind,jw,bD,dL,Result.andThen_ok,Sem.run_ite];cases b1
    ·simp
    ·simp[hr]
theorem iV {e:TypeId} (he:fO P e 1 false=true):P.cellsOf e=1/\∃i,P.info? e=some i/\i.size=1:=by
 obtain⟨dd,ii,h3,h4,h5,h6,_⟩:=c8 he;exact⟨by simp[Program.cellsOf,h4,h6],ii,h4,h6⟩
theorem oD {t:TypeId} {qs:List Nat} (h:jM P t qs=true) {x y:AV} {b:Bool} (e:kC qs x y=some b) {v u:Value} (hv:RA ν g v x) (hu:RA ν g u y) (w:World):(Op.equal t v u).run P w = .ok b w:=by
 unfold kC at e;split at e
 ·split at e
  ·cases e
  rename_i cs ds h1;rcases gC h with⟨n,el,gn,rfl,_,he,hq⟩|⟨q,rfl,_⟩
  ·obtain⟨xs,rfl⟩:=hv.dP;obtain⟨ys,rfl⟩:=hu.dP;obtain⟨hc,i,hi,_⟩:=iV he
   show(Op.equalIn (9999+1) t (.agg xs) (.agg ys)).run P w=_
   rw[run_equalIn_array w 9999 xs ys gn hi,hc,List.range_eq_range'];exact qo he 9998 w qs 0 cs ds b hq e (λj c hc=>by simpa using hv.dQ j c hc) (λj c hc=>by simpa using hu.dQ j c hc)
  ·simp at h1
 ·split at e
  case isFalse=>cases e
  rename_i x y h1;rcases gC h with⟨n,el,gn,rfl,bF,_⟩|⟨q,rfl,hq⟩
  ·exact absurd h1 bF
  ·simp only[eqs,Option.bind_eq_some_iff]at e;obtain⟨b1,e1,b2,e2,e3⟩:=e;cases e2;cases e3;have:=lp (P:=P) e1 hq hv hu 9999 w;simpa[Op.equal,Op.maxDepth]using this
 ·cases e
def iF (es:List MapEntry) (i:Nat):Option (Nat×AV)->Option (Nat×Value)->Prop
 |none,r=>r=none
 |some p,r=>∃e,i<=p.1/\es[p.1 - i]?=some e/\r=some (p.1,e.val)
theorem iF.up {es:List MapEntry} {e:MapEntry} {i:Nat} {a:Option (Nat×AV)} {r:Option (Nat×Value)} (h:iF es (i+1) a r):iF (e::es) i a r:=by
 cases a with
 |none=>exact h
 |some p=>
  obtain⟨e',h1,h2,h3⟩:=h;refine⟨e',by omega,?_,h3⟩;rw[show p.1 - i=(p.1 - (i+1))+1 by omega];simpa using h2
theorem jq {qs:List Nat} {kk:AV}:∀{aL:List (AV×AV)} {i:Nat} {p:Nat×AV},cM qs kk aL i=some (some p)->∃y,i<=p.1/\aL[p.1 - i]?=some (y,p.2)/\kC qs kk y=some true
 |[],i,p,h=>by simp[cM]at h
 |kv::aL,i,p,h=>by
  unfold cM at h;split at h
  ·rename_i hk;cases h;exact⟨kv.1,Nat.le_refl _,by simp,hk⟩
  ·obtain⟨y,h1,h2,h3⟩:=jq h;refine⟨y,by omega,?_,h3⟩;rw[show p.1 - i=(p.1 - (i+1))+1 by omega];simpa using h2
  ·cases h
def gD (ν:Nat->Nat) (g:Gh) (es:List MapEntry) (aL:List (AV×AV)):Prop:=es.length=aL.length/\∀(j:Nat) (e:MapEntry) (p:AV×AV),es[j]?=some e->aL[j]?=some p->RA ν g e.key p.1
theorem gD.cons {e:MapEntry} {es:List MapEntry} {p:AV×AV} {aL:List (AV×AV)} (h:gD ν g (e::es) (p::aL)):RA ν g e.key p.1/\gD ν g es aL:=
 ⟨h.2 0 e p rfl rfl,by have:=h.1;simpa using this,λj e p h1 h2=>h.2 (j+1) e p (by simpa using h1) (by simpa using h2)⟩
theorem kR {t:TypeId} {qs:List Nat} (h:jM P t qs=true) {x:AV} {v:Value} (hv:RA ν g v x) (w:World):∀(es:List MapEntry) (aL:List (AV×AV)) (i:Nat) (a:Option (Nat×AV)),gD ν g es aL->cM qs x aL i=some a->
  ∃r,(Instr.findAsking t v es i).run P w = .ok r w/\iF es i a r:=by
 intro es
 induction es with
 |nil=>
  intro aL i a hR hf;obtain rfl:aL=[]:=List.eq_nil_of_length_eq_zero hR.1.symm;simp[cM]at hf;subst hf;exact⟨none,by simp[Instr.findAsking],rfl⟩
 |cons e es ih=>
  intro aL i a hR hf;cases aL with
  |nil=>have:=hR.1;simp at this
  |cons p aL=>
   obtain⟨h0,kI⟩:=hR.cons;unfold cM at hf;split at hf
   ·rename_i hk;cases hf;have:=oD h hk hv h0 w;exact⟨some (i,e.val),by simp[Instr.findAsking,this],e,Nat.le_refl _,by simp,rfl⟩
   ·rename_i hk;have:=oD h hk hv h0 w;obtain⟨r,h1,h2⟩:=ih aL (i+1) a kI hf;exact⟨r,by simp[Instr.findAsking,this,h1],h2.up⟩
   ·cases hf
theorem uf {q:Nat} {d:TypeDesc} (hq:du q (some d)=true) {x y:AV} {b:Bool} (e:jv q x y=some b) {v u:Value} (hv:RA ν g v x) (hu:RA ν g u y):Instr.sameNow d v u=some b:=by
 unfold jv at e;split at e
 ·obtain rfl:=hv.int;obtain rfl:=hu.int;obtain⟨kk,h1⟩:=nw hq;cases h1;simp only[Option.ite_none_right_eq_some,Option.some.injEq]at e;obtain⟨hk,rfl⟩:=e;simp[Instr.sameNow,hk]
 ·cases e;obtain rfl:=hv.bool;obtain rfl:=hu.bool;have:=mb hq;cases this;rfl
 ·cases e;obtain rfl:=hv.str;obtain rfl:=hu.str;have:=ny hq;cases this;rfl
 ·cases e
theorem nz {q:Nat} {d:TypeDesc} (hq:du q (some d)=true) {x:AV} {v:Value} (hv:RA ν g v x):∀(es:List MapEntry) (aL:List (AV×AV)) (i:Nat) (a:Option (Nat×AV)),gD ν g es aL->cM [q] x aL i=some a->
  ∃r,Instr.findNow d v es i=some r/\iF es i a r:=by
 intro es
 induction es with
 |nil=>
  intro aL i a hR hf;obtain rfl:aL=[]:=List.eq_nil_of_length_eq_zero hR.1.symm;simp[cM]at hf;subst hf;exact⟨none,by simp[Instr.findNow],rfl⟩
 |cons e es ih=>
  intro aL i a hR hf;cases aL with
  |nil=>have:=hR.1;simp at this
  |cons p aL=>
   obtain⟨h0,kI⟩:=hR.cons;have key:∀{b:Bool},kC [q] x p.1=some b->Instr.sameNow d v e.key=some b:=by
    intro b hk;unfold kC at hk;split at hk
    ·simp at hk
    ·simp only[List.length_singleton,if_true,eqs,Option.bind_eq_some_iff]at hk;obtain⟨b1,e1,b2,e2,e3⟩:=hk;rename_i hp;cases e2;cases e3;rw[<-hp]at e1;simpa using uf hq e1 hv h0
    ·cases hk
   unfold cM at hf;split at hf
   ·rename_i hk;cases hf;exact⟨some (i,e.val),by simp[Instr.findNow,key hk],e,Nat.le_refl _,by simp,rfl⟩
   ·rename_i hk;obtain⟨r,h1,h2⟩:=ih aL (i+1) a kI hf;exact⟨r,by simp[Instr.findNow,key hk,h1],h2.up⟩
   ·cases hf
theorem ke {t:TypeId} {qs:List Nat} (h:jM P t qs=true) {x:AV} {v:Value} (hv:RA ν g v x) (w:World) {es:List MapEntry} {aL:List (AV×AV)} {a:Option (Nat×AV)} (hR:gD ν g es aL) (hf:cM qs x aL 0=some a) :
  ∃r,(Instr.findKey t v es).run P w = .ok r w/\iF es 0 a r:=by
 rcases gC h with⟨n,el,gn,_⟩|⟨q,rfl,hq⟩
 ·rw[run_findKey_eq w (by rw[gn])];exact kR h hv w es aL 0 a hR hf
 ·cases hd:P.underlying t with
  |none=>rw[hd]at hq;simp[du]at hq
  |some d=>
   rw[hd]at hq;obtain⟨r,h1,h2⟩:=nz hq hv es aL 0 a hR hf;exact⟨r,Go.MapKept.run_findKey hd h1,h2⟩
theorem iW {q:Nat} {e:TypeId} (hq:du q (P.underlying e)=true) (em:Bool) (n:Nat) (v:Value) (w:World):(Instr.checkKey em (n+1) e v).run P w = .ok () w:=by
 cases hd:P.underlying e with
 |none=>rw[hd]at hq;simp[du]at hq
 |some d=>
  rw[hd]at hq;unfold Instr.checkKey;simp only[Sem.run_bind,run_underlying hd,Result.andThen_ok];cases d<;>first | (simp[du]at hq;done) | (cases v<;>rfl)
theorem jr {t:TypeId} {qs:List Nat} (h:jM P t qs=true) {x:AV} (hx:gw qs x=true) {v:Value} (hv:RA ν g v x) (em:Bool) (w:World):(Instr.checkKey em 10000 t v).run P w = .ok () w:=by
 rcases gC h with⟨n,el,gn,hn,bF,he,hq⟩|⟨q,rfl,hq⟩
 ·cases x with
  |agg cs=>
   simp only[gw,Bool.and_eq_true,beq_iff_eq]at hx;obtain⟨xs,rfl⟩:=hv.dP;obtain⟨hc,i,hi,Ce⟩:=iV he
   show(Instr.checkKey em (9999+1) t (.agg xs)).run P w=_
   rw[Instr.checkKey];simp only[Sem.run_bind,run_underlying gn,Result.andThen_ok];simp only[Std.Legacy.Range.forIn_eq_forIn_range',Std.Legacy.Range.size,Nat.sub_zero,Nat.add_one_sub_one,Nat.div_one];have all:∀j ∈ List.range' 0 n,∃c,xs[j]?=some c:=by
    intro j hj;simp only[List.mem_range'_1]at hj;obtain⟨v,dm,_⟩:=hv.dQ j cs[j] (List.getElem?_eq_getElem (by omega));exact⟨v,dm⟩
   cases qs with
   |nil=>simp only[List.length_nil]at hn;subst hn;simp
   |cons q qs=>
   have Cf:∀v,(Instr.checkKey em 9999 el v).run P w = .ok () w:=λv=>iW (hq q (by simp)) em 9998 v w
   clear hn hx hv;generalize List.range' 0 n=is at all
   induction is with
   |nil=>simp
   |cons j is ih=>
    obtain⟨c,Cg⟩:=all j (by simp);obtain⟨dd,ii,h3,h4,h5,h6,_⟩:=c8 he;have hp:(part el xs (j*1)).run P w = .ok c w:=by simp[part,cJ h3,h5,Cg]
    simp only[List.forIn_cons,Sem.run_bind,run_sizeOf hi,Ce,Result.andThen_ok,hp,Cf,Sem.run_pure];exact ih λy hy=>all y (by simp[hy])
  |iv y=>simp only[gw,beq_iff_eq]at hx;exact absurd hx bF
  |_=>simp[gw]at hx
 ·exact iW hq em 9999 v w
end
def iS (P:Program) (t:TypeId) (qs:List Nat):Bool:=match P.underlying t with | some (.map kt _)=>jM P kt qs | _=>false
theorem jy {P:Program} {t:TypeId} {qs:List Nat} (h:iS P t qs=true):∃kt et,P.underlying t=some (.map kt et)/\jM P kt qs=true:=by
 unfold iS at h;split at h
 ·exact⟨_,_,by assumption,h⟩
 ·cases h
def isMap (P:Program) (t:TypeId):Bool:=match P.underlying t with | some (.map _ _)=>true | _=>false
theorem rh {P:Program} {t:TypeId} (h:isMap P t=true):∃kt et,P.underlying t=some (.map kt et):=by
 unfold isMap at h;split at h
 ·exact⟨_,_,by assumption⟩
 ·cases h
def Ch (P:Program) (t:TypeId) (agg:Bool) (z:List IV):Bool:=match P.underlying t with
 |some (.map _ et)=>(match P.info? et with
  |some i=>(match i.zero with
   |some (.agg cs)=>agg&&iD cs.toList z
   |some (.tuple _)=>false
   |some v=>!agg&&iD [v] z
   |none=>false)
  |none=>false)
 |_=>false
section
variable {ν:Nat->Nat} {P:Program} {k:Cx} {g:Gh}
theorem eK {x:AV} {q:Nat×List (AV×AV)} {h':Hp} (r:Rel ν k g) (e:(dj x).run g.h=some (q,h')) {v:Value} (hv:RA ν g v x) :
  h'=g.h/\∃b es clock,x = .ref q.1 0 0 0/\get g.h q.1=some (.map q.2)/\g.φ q.1=some b/\v = .map (some b)/\¬g.I b/\b<g.w.heap.size/\g.w.heap[b]?=some (.map es clock)/\es.size=q.2.length/\
   ∀(j:Nat) (e:MapEntry) (p:AV×AV),es[j]?=some e->q.2[j]?=some p->RA ν g e.key p.1/\RA ν g e.val p.2:=by
 unfold dj at e;split at e
 case h_2=>exact(ae e).elim
 rename_i id;obtain⟨ob,hg,e2⟩:=M.aM e;cases ob with
 |cells _=>exact(ae e2).elim
 |buf _ _ _=>exact(ae e2).elim
 |aZ _ _ _=>exact(ae e2).elim
 |map aL=>
  obtain⟨rfl,rfl⟩:=af e2;refine⟨rfl,?_⟩;cases hv with
  |ref h1 h=>
   unfold aG at h;simp only[hg]at h;obtain⟨-, -, -,b,ah,rfl⟩:=h;obtain⟨b',es,clock,e1,e2,e3,e4,e5,e6⟩:=r.ob id _ hg;rw[ah]at e1;cases e1;exact⟨b,es,clock,rfl,hg,ah,rfl,e2,e3,e4,e5,e6⟩
theorem ug (r:Rel ν k g) {slot:Nat} {t:TypeId} {y:AV} {h':Hp} (e:((M.fresh slot).bind λ_=>(M.write slot (.map [])).bind λ_=>M.ret (.ref slot 0 0 0)).run g.h=some (y,h')):bf ν k g h' y ((Instr.makeMap t none).run P g.w):=by
 obtain⟨_,h1,e1,e2⟩:=ag e;obtain⟨hf,rfl⟩:=M.ct e1;obtain⟨_,h2,e3,e4⟩:=ag e2;obtain rfl:=aI e3;obtain⟨rfl,rfl⟩:=af e4;have nA:(g.w.heap.push (.map #[] 0))[g.w.heap.size]?=some (.map #[] 0):=by simp
 have hold:∀b,b<g.w.heap.size->(g.w.heap.push (.map #[] 0))[b]?=g.w.heap[b]?:=λb h=>by simp[Array.getElem?_push,Nat.ne_of_lt h]
 have hn:=r.new (s:=slot) (ob:=.map []) (p:=some g.w.heap.size) (w':={ g.w with heap:=g.w.heap.push (.map #[] 0) }) hf (by simp) rfl rfl rfl hold (λb h=>by cases h;exact Nat.le_refl _)
  λ_=>⟨g.w.heap.size,#[],0,aw _ _ _,λhi=>absurd (r.small _ hi) (Nat.lt_irrefl _),by simp,nA,rfl,λj e p h=>by simp at h⟩
 refine⟨_,.map (some g.w.heap.size),rfl,rfl,hn.1,hn.2,.ref rfl ?_⟩;unfold aG;simp only[an,aw];exact⟨trivial,trivial,trivial,_,rfl,rfl⟩
theorem nB {es:Array MapEntry} {aL:List (AV×AV)} (h:es.size=aL.length) (hr:∀(j:Nat) (e:MapEntry) (p:AV×AV),es[j]?=some e->aL[j]?=some p->RA ν g e.key p.1/\RA ν g e.val p.2):gD ν g es.toList aL:=
 ⟨by simpa using h,λj e p h1 h2=>(hr j e p (by simpa using h1) h2).1⟩
theorem sq (r:Rel ν k g) {t:TypeId} {ok agg:Bool} {qs:List Nat} {z:List IV} (hq:iS P t qs=true) (hz:Ch P t agg z=true) {m kk y:AV} {vm vk:Value} {h':Hp} (hm:RA ν g vm m) (hk:RA ν g vk kk)
  (e:(gT ok agg qs z m kk).run g.h=some (y,h')):bf ν k g h' y ((Instr.lookup t vm vk ok).run P g.w):=by
 obtain⟨bx,e2⟩:=M.aj e;obtain⟨⟨id,aL⟩,h2,e3,e4⟩:=ag e2;obtain⟨rfl,b,es,clock, -,hg,ah,rfl,b8,aT,hb,bB,hr⟩:=eK r e3 hm;obtain⟨a,hf,e6⟩:=M.lift_bind e4;obtain⟨kt,et,hu,kJ⟩:=jy hq;obtain⟨rr,dW,kK⟩:=ke kJ hk g.w (nB bB hr) hf;have fJ:=jr kJ bx hk es.isEmpty g.w;have cf:=MapKept.run_getObj_map (P:=P) hb;cases a with
 |some p=>
  obtain⟨e0, -,dL,rfl⟩:=kK;obtain⟨yk, -,hp, -⟩:=jq hf;simp only[Nat.sub_zero]at dL hp;have fX:=(hr p.1 e0 _ (by simpa using dL) hp).2;cases ok with
  |true=>
   simp only[if_true]at e6;obtain⟨rfl,rfl⟩:=af e6;refine .same r (v:=.tuple #[e0.val,.bool true]) (by simp[Instr.lookup,run_underlying hu,cf,fJ,dW]) ?_;refine .aR rfl λj v c h1 h2=>?_
   match j with
   |0=>simp at h1 h2;subst h1 h2;exact fX
   |1=>simp at h1 h2;subst h1 h2;exact bK
   |j+2=>simp at h1
  |false=>
   simp only[Bool.false_eq_true,if_false]at e6;obtain⟨rfl,rfl⟩:=af e6;exact .same r (v:=e0.val) (by simp[Instr.lookup,run_underlying hu,cf,fJ,dW]) fX
 |none=>
  have fg:rr=none:=kK;subst fg;obtain⟨zv,h4,e7,e8⟩:=ag e6;have key:∃v0,(zeroValue et).run P g.w = .ok v0 g.w/\h4=g.h/\RA ν g v0 zv:=by
   unfold Ch at hz;rw[hu]at hz;simp only at hz;cases hi:P.info? et with
   |none=>rw[hi]at hz;cases hz
   |some i=>
    rw[hi]at hz;simp only at hz;cases mg:i.zero with
    |none=>rw[mg]at hz;cases hz
    |some v0=>
     rw[mg]at hz;have aY:(zeroValue et).run P g.w = .ok v0 g.w:=by simp[zeroValue,typeInfo,hi,mg]
     have one:∀{v:Value},iD [v] z=true->agg=false->(mk agg (z.map .iv)).run g.h=some (zv,h4)->h4=g.h/\RA ν g v zv:=by
      intro v hc ha em;subst ha;unfold mk at em;simp only[Bool.false_eq_true,if_false]at em;cases z with
      |nil=>exact(ae em).elim
      |cons z0 zr=>
       cases zr with
       |cons _ _=>exact(ae em).elim
       |nil=>
        obtain⟨rfl,rfl⟩:=af em;simp only[iD,Bool.and_true]at hc;exact⟨rfl,.iv (j8 hc _ _)⟩
     cases v0 with
     |agg cs=>
      simp only[Bool.and_eq_true]at hz;obtain⟨ha,hc⟩:=hz;subst ha;unfold mk at e7;simp only[if_true]at e7;obtain⟨rfl,rfl⟩:=af e7;exact⟨_,aY,rfl,(qj hc).agg⟩
     |tuple vs=>cases hz
     |_=>
      simp only[Bool.and_eq_true,Bool.not_eq_true']at hz;exact⟨_,aY,one hz.2 hz.1 e7⟩
  obtain⟨v0,aY,rfl,lx⟩:=key;cases ok with
  |true=>
   simp only[if_true]at e8;obtain⟨rfl,rfl⟩:=af e8;refine .same r (v:=.tuple #[v0,.bool false]) (by simp[Instr.lookup,run_underlying hu,cf,fJ,dW,aY]) ?_;refine .aR rfl λj v c h1 h2=>?_
   match j with
   |0=>simp at h1 h2;subst h1 h2;exact lx
   |1=>simp at h1 h2;subst h1 h2;exact bK
   |j+2=>simp at h1
  |false=>
   simp only[Bool.false_eq_true,if_false]at e8;obtain⟨rfl,rfl⟩:=af e8;exact .same r (v:=v0) (by simp[Instr.lookup,run_underlying hu,cf,fJ,dW,aY]) lx
theorem sr (r:Rel ν k g) {t ty:TypeId} (ht:isMap P t=true) {m y:AV} {vm:Value} {h':Hp} (hm:RA ν g vm m) (e:((dj m).bind λx=>M.ret (.iv (.int .i64 x.2.length))).run g.h=some (y,h')) :
  bf ν k g h' y ((Builtin.len_ #[t] ty #[vm]).run P g.w):=by
 obtain⟨⟨id,aL⟩,h2,e3,e4⟩:=ag e;obtain⟨rfl,b,es,clock, -,hg,ah,rfl,b8,aT,hb,bB,hr⟩:=eK r e3 hm;obtain⟨rfl,rfl⟩:=af e4;obtain⟨kt,et,hu⟩:=rh ht;exact .same r (v:=.int .i64 aL.length) (by simp[Builtin.len_,run_underlying hu,MapKept.run_getObj_map (P:=P) hb,goInt,bB]) mkInt
theorem gE (r:Rel ν k g) {id b:Nat} {aL ig:List (AV×AV)} {es':Array MapEntry} {clock':Nat} (hg:get g.h id=some (.map aL)) (ah:g.φ id=some b) (b8:¬g.I b) (aT:b<g.w.heap.size) (bB:es'.size=ig.length)
  (hr:∀(g':Gh),aV ν g g'->∀(j:Nat) (e:MapEntry) (p:AV×AV),es'[j]?=some e->ig[j]?=some p->RA ν g' e.key p.1/\RA ν g' e.val p.2) :
  ∃g',g'.w={ g.w with heap:=g.w.heap.setIfInBounds b (.map es' clock') }/\g'.h=set g.h id (.map ig)/\Rel ν k g'/\aV ν g g':=by
 have ht:=r.iR (s:=id) (ob:=.map ig) (p:=g.φ id) (w':={ g.w with heap:=g.w.heap.setIfInBounds b (.map es' clock') }) (I':=g.I) hg (λb' h=>by rw[ah]at h;cases h;exact b8) (by simp) rfl rfl rfl
  (λb' _ bF=>by
   have:b≠b':=λe=>bF (by rw[ah,e])
   simp[this])
  (λ_ h=>h) (λ_ h=>.inl h) (.inl rfl)
  (λv o n ai ho=>by unfold aE at ho;rw[hg]at ho;exact ho.elim)
  (λv ai i j h=>by
   unfold aG at h ⊢;rw[hg]at h;simp only[an,aw];exact h)
  (λ_ hm=>⟨b,es',clock',(aw _ _ _).trans ah,b8,by simpa using aT,by simp[aT],bB,hr _ hm⟩)
 exact⟨_,rfl,rfl,ht.1,ht.2⟩
theorem ly {q:Nat} {x y:AV} (e:jv q x y=some true) {v u:Value} (hv:RA ν g v x) (hu:RA ν g u y) (n:Nat):Instr.sameBits n u v=true:=by
 unfold jv at e;split at e
 ·obtain rfl:=hv.int;obtain rfl:=hu.int;simp only[Option.ite_none_right_eq_some,Option.some.injEq,beq_iff_eq]at e;obtain⟨rfl,rfl⟩:=e;simp[Instr.sameBits]
 ·obtain rfl:=hv.bool;obtain rfl:=hu.bool;simp only[Option.some.injEq,beq_iff_eq]at e;subst e;simp[Instr.sameBits]
 ·obtain rfl:=hv.str;obtain rfl:=hu.str;simp only[Option.some.injEq]at e;simp only[Instr.sameBits];rw[beq_toListBytes]at e ⊢;exact BEq.symm e
 ·cases e
theorem jN:∀(qs:List Nat) (cs ds:List AV) (xs ys:List Value),eqs qs cs ds=some true->xs.length=cs.length->ys.length=ds.length->(∀(j:Nat) (v:Value) (c:AV),xs[j]?=some v->cs[j]?=some c->RA ν g v c)->
  (∀(j:Nat) (v:Value) (c:AV),ys[j]?=some v->ds[j]?=some c->RA ν g v c)->((ys.zip xs).all fun(x,y)=>Instr.sameBits 9999 x y)=true/\ys.length=xs.length
 |[],[],[],xs,ys,_,hx,hy,_,_=>by
  obtain rfl:=List.eq_nil_of_length_eq_zero hx;obtain rfl:=List.eq_nil_of_length_eq_zero hy;exact⟨rfl,rfl⟩
 |q::qs,c::cs,d::ds,xs,ys,e,hx,hy,h1,h2=>by
  cases xs with
  |nil=>simp at hx
  |cons v xs=>
   cases ys with
   |nil=>simp at hy
   |cons u ys=>
    simp only[eqs,Option.bind_eq_some_iff]at e;obtain⟨b1,e1,b2,e2,e3⟩:=e;simp only[Option.some.injEq,Bool.and_eq_true]at e3;obtain⟨rfl,rfl⟩:=e3;obtain⟨i1,i2⟩:=jN qs cs ds xs ys e2 (by simpa using hx) (by simpa using hy) (λj v c a b=>h1 (j+1) v c (by simpa using a) (by simpa using b)) λj v c a b=>h2 (j+1) v c (by simpa using a) (by simpa using b)
    have hv:=h1 0 v c rfl rfl;have hu:=h2 0 u d rfl rfl;refine⟨?_,by simp[i2]⟩;simp only[List.zip_cons_cons,List.all_cons,Bool.and_eq_true];refine⟨?_,i1⟩;exact ly e1 hv hu 9999
 |[],_::_,_,_,_,e,_,_,_,_=>by simp[eqs]at e
 |[],[],_::_,_,_,e,_,_,_,_=>by simp[eqs]at e
 |_::_,[],_,_,_,e,_,_,_,_=>by simp[eqs]at e
 |_::_,_::_,[],_,_,e,_,_,_,_=>by simp[eqs]at e
theorem qp {qs:List Nat} {x y:AV} (e:kC qs x y=some true) {v u:Value} (hv:RA ν g v x) (hu:RA ν g u y) (w:World):(Instr.keyThatStays u v).run P w = .ok v w:=by
 have hs:Instr.sameBits 10000 u v=true:=by
  unfold kC at e;split at e
  ·split at e
   ·cases e
   rename_i cs ds _;obtain⟨xs,rfl⟩:=hv.dP;obtain⟨ys,rfl⟩:=hu.dP;have n1:xs.size=cs.length:=by cases hv;assumption
   have n2:ys.size=ds.length:=by cases hu;assumption
   have r1:∀(j:Nat) (v:Value) (c:AV),xs[j]?=some v->cs[j]?=some c->RA ν g v c:=by cases hv;assumption
   have r2:∀(j:Nat) (v:Value) (c:AV),ys[j]?=some v->ds[j]?=some c->RA ν g v c:=by cases hu;assumption
   obtain⟨i1,i2⟩:=jN qs cs ds xs.toList ys.toList e (by simpa using n1) (by simpa using n2) (λj v c a b=>r1 j v c (by simpa using a) b) λj v c a b=>r2 j v c (by simpa using a) b
   show Instr.sameBits (9999+1) (.agg ys) (.agg xs)=true
   simp only[Instr.sameBits,Bool.and_eq_true,beq_iff_eq];exact⟨by simpa using i2,i1⟩
  ·split at e
   case isFalse=>cases e
   rename_i h1;obtain⟨q,rfl⟩:=List.length_eq_one_iff.1 h1;simp only[eqs,Option.bind_eq_some_iff]at e;obtain⟨b1,e1,b2,e2,e3⟩:=e;cases e2;simp only[Bool.and_true,Option.some.injEq]at e3;subst e3;exact ly e1 hv hu 10000
  ·cases e
 simp[Instr.keyThatStays,hs]
theorem su (r:Rel ν k g) {t:TypeId} {qs:List Nat} (hq:iS P t qs=true) {m kk x y:AV} {vm vk vx:Value} {h':Hp} (hm:RA ν g vm m) (hk:RA ν g vk kk) (hx:RA ν g vx x) (e:(gU qs m kk x).run g.h=some (y,h')) :
  ∃g',(Instr.mapUpdate t vm vk vx).run P g.w = .ok () g'.w/\y = .aR []/\g'.h=h'/\Rel ν k g'/\aV ν g g':=by
 obtain⟨bx,e2⟩:=M.aj e;obtain⟨⟨id,aL⟩,h2,e3,e4⟩:=ag e2;obtain⟨rfl,b,es,clock, -,hg,ah,rfl,b8,aT,hb,bB,hr⟩:=eK r e3 hm;obtain⟨a,hf,e6⟩:=M.lift_bind e4;obtain⟨kt,et,hu,kJ⟩:=jy hq;obtain⟨rr,dW,kK⟩:=ke kJ hk g.w (nB bB hr) hf;have fJ:=jr kJ bx hk false g.w;have cf:=MapKept.run_getObj_map (P:=P) hb;simp only at bB hr hg;cases a with
 |some p=>
  obtain⟨e0, -,dL,rfl⟩:=kK;obtain⟨yk, -,hp,Ci⟩:=jq hf;simp only[Nat.sub_zero]at dL hp;simp only[Array.getElem?_toList]at dL;have fp:=qp (P:=P) Ci hk (hr p.1 e0 _ dL hp).1 g.w;obtain⟨_,h4,e7,e8⟩:=ag e6;obtain rfl:=aI e7;obtain⟨rfl,rfl⟩:=af e8;obtain⟨g',q1,q2,q3,q4⟩:=gE (es':=es.modify p.1 λe=>{ e with key:=vk,val:=vx }) (clock':=clock) (ig:=aL.set p.1 (kk,x)) r hg ah b8 aT (by simpa using bB) λg' ei j e q h1 h2=>by
   by_cases hj:p.1=j
   ·subst hj;rw[Array.getElem?_modify,if_pos rfl,dL]at h1;have hl:p.1<aL.length:=ay hp;simp[hl]at h2;cases h1;rw[<-h2];exact⟨ei _ _ hk,ei _ _ hx⟩
   ·rw[Array.getElem?_modify,if_neg hj]at h1;rw[List.getElem?_set_ne hj]at h2;obtain⟨c1,c2⟩:=hr j e q h1 h2;exact⟨ei _ _ c1,ei _ _ c2⟩
  exact⟨g',by simp[Instr.mapUpdate,run_underlying hu,cf,fJ,dW,dL,fp,MapKept.run_setObj_map (P:=P) _ hb,q1],rfl,q2,q3,q4⟩
 |none=>
  have fg:rr=none:=kK;subst fg;obtain⟨_,h4,e7,e8⟩:=ag e6;obtain rfl:=aI e7;obtain⟨rfl,rfl⟩:=af e8;obtain⟨g',q1,q2,q3,q4⟩:=gE (es':=es.push { key:=vk,val:=vx,born:=clock }) (clock':=clock+1) (ig:=aL++[(kk,x)]) r hg ah b8 aT (by simpa using bB) λg' ei j e q h1 h2=>by
   rw[Array.getElem?_push]at h1;split at h1
   ·rename_i hj;cases h1;rw[hj,bB]at h2;simp at h2;rw[<-h2];exact⟨ei _ _ hk,ei _ _ hx⟩
   ·have hl:j<es.size:=(Array.getElem?_eq_some_iff.1 h1).1;rw[List.getElem?_append_left (by omega)]at h2;obtain⟨c1,c2⟩:=hr j e q h1 h2;exact⟨ei _ _ c1,ei _ _ c2⟩
  exact⟨g',by simp[Instr.mapUpdate,run_underlying hu,cf,fJ,dW,MapKept.run_setObj_map (P:=P) _ hb,q1],rfl,q2,q3,q4⟩
theorem sw (r:Rel ν k g) {t u ty:TypeId} {qs:List Nat} (hq:iS P t qs=true) {m kk y:AV} {vm vk:Value} {h':Hp} (hm:RA ν g vm m) (hk:RA ν g vk kk) (e:(gV qs m kk).run g.h=some (y,h')) :
  bf ν k g h' y ((Builtin.delete_ #[t,u] ty #[vm,vk]).run P g.w):=by
 obtain⟨bx,e2⟩:=M.aj e;obtain⟨⟨id,aL⟩,h2,e3,e4⟩:=ag e2;obtain⟨rfl,b,es,clock, -,hg,ah,rfl,b8,aT,hb,bB,hr⟩:=eK r e3 hm;obtain⟨a,hf,e6⟩:=M.lift_bind e4;obtain⟨kt,et,hu,kJ⟩:=jy hq;obtain⟨rr,dW,kK⟩:=ke kJ hk g.w (nB bB hr) hf;have fJ:=jr kJ bx hk es.isEmpty g.w;have cf:=MapKept.run_getObj_map (P:=P) hb;simp only at bB hr hg;cases a with
 |some p=>
  obtain⟨e0, -,dL,rfl⟩:=kK;simp only[Nat.sub_zero]at dL;simp only[Array.getElem?_toList]at dL;have iP:p.1<es.size:=(Array.getElem?_eq_some_iff.1 dL).1;obtain⟨_,h4,e7,e8⟩:=ag e6;obtain rfl:=aI e7;obtain⟨rfl,rfl⟩:=af e8;have cr:es.eraseIdxIfInBounds p.1=es.eraseIdx p.1 iP:=by simp[Array.eraseIdxIfInBounds,iP]
  obtain⟨g',q1,q2,q3,q4⟩:=gE (es':=es.eraseIdxIfInBounds p.1) (clock':=clock) (ig:=aL.eraseIdx p.1) r hg ah b8 aT (by rw[cr,Array.size_eraseIdx,List.length_eraseIdx,if_pos (by omega)];omega) λg' ei j e q h1 h2=>by
   rw[cr,Array.getElem?_eraseIdx]at h1;rw[List.getElem?_eraseIdx]at h2;split at h1
   ·rename_i hj;rw[if_pos hj]at h2;obtain⟨c1,c2⟩:=hr j e q h1 h2;exact⟨ei _ _ c1,ei _ _ c2⟩
   ·rename_i hj;rw[if_neg hj]at h2;obtain⟨c1,c2⟩:=hr (j+1) e q h1 h2;exact⟨ei _ _ c1,ei _ _ c2⟩
  refine⟨g',.tuple #[],?_,q2,q3,q4,.aR rfl λj v c h=>by simp at h⟩;simp[Builtin.delete_,run_underlying hu,cf,fJ,dW,MapKept.run_setObj_map (P:=P) _ hb,q1]
 |none=>
  have fg:rr=none:=kK;subst fg;obtain⟨_,h4,e7,e8⟩:=ag e6;obtain rfl:=aI e7;obtain⟨rfl,rfl⟩:=af e8;obtain⟨g',q1,q2,q3,q4⟩:=gE (es':=es) (clock':=clock) (ig:=aL) r hg ah b8 aT bB λg' ei j e q h1 h2=>by
   obtain⟨c1,c2⟩:=hr j e q h1 h2;exact⟨ei _ _ c1,ei _ _ c2⟩
  refine⟨g',.tuple #[],?_,q2,q3,q4,.aR rfl λj v c h=>by simp at h⟩;simp[Builtin.delete_,run_underlying hu,cf,fJ,dW,MapKept.run_setObj_map (P:=P) _ hb,q1]
end
def aF (ν:Nat->Nat):Operand->aH->Bool
 |.tmp t,.t n=>t==n
 |.const v,.c x=>sm v x
 |.func f,.c (.fn h [])=>f==ν h
 |_,_=>false
def dG (ν:Nat->Nat):List Operand->List aH->Bool
 |[],[]=>true
 |x::xs,y::ys=>aF ν x y&&dG ν xs ys
 |_,_=>false
def js (ν:Nat->Nat):Option Operand->Option aH->Bool
 |none,none=>true
 |some x,some y=>aF ν x y
 |_,_=>false
def fY (ν:Nat->Nat):List (Nat×Operand)->List (Nat×aH)->Bool
 |[],[]=>true
 |x::xs,y::ys=>x.1==y.1&&aF ν x.2 y.2&&fY ν xs ys
 |_,_=>false
def placesOf (P:Program) (t:TypeId):Option (Nat->Option (Nat×Nat)):=
 match P.underlying t with
 |some (.array _ e)=>(P.info? e).map λie=>λi=>some (i*ie.size,ie.size)
 |some (.struct fields)=>(fields.toList.mapM (λf=>(P.info? f.type).map λi=>(f.offset,i.size))).map λplaces=>(places.toArray[·]?)
 |_=>none
def dR (ν:Nat->Nat) (pl:Nat->Option (Nat×Nat)):List (Nat×Operand)->List (Nat×Nat×aH)->Bool
 |[],[]=>true
 |x::xs,y::ys=>pl x.1==some (y.1,y.2.1)&&aF ν x.2 y.2.2&&dR ν pl xs ys
 |_,_=>false
def isStr (P:Program) (t:TypeId):Bool:=match P.underlying t with | some .string=>true | _=>false
theorem dX {P:Program} {t:TypeId} (h:isStr P t=true):P.underlying t=some .string:=by
 unfold isStr at h;split at h<;>first | assumption | cases h
def mV (P:Program) (t:TypeId):Bool:=match P.underlying t with | some (.slice e)=>(match P.underlying e with | some (.int .u8)=>true | _=>false) | _=>false
def pR:Operand->Bool
 |.const (.int _ n)=>n==0
 |_=>false
def rj (P:Program) (ν:Nat->Nat) (op:Op) (io:jF):Bool:=
 match io with
 |.nU y=>(match op with | .move x | .assign x=>aF ν x y | _=>false)
 |.wu _=>(match op with | .move (.const (.slice none 0 0)) | .assign (.const (.slice none 0 0))=>true | _=>false)
 |.pick c' a' b'=>(match op with | .pick c a b=>aF ν c c'&&aF ν a a'&&aF ν b b' | _=>false)
 |.alloc z=>(match op with | .alloc t=>mc P t z | _=>false)
 |.box y=>(match op with | .box _ x=>aF ν x y | _=>false)
 |.build z qs=>(match op with | .build t ps=>mc P t z&&(match placesOf P t with | some pl=>dR ν pl ps.toList qs | none=>false) | _=>false)
 |.nV e z n' qs=>(match op with | .buildSlice t n ps=>n==n'&&wY P t n e z&&fY ν ps.toList qs | _=>false)
 |.load agg sz a'=>(match op with | .load t a=>fO P t sz agg&&aF ν a a' | _=>false)
 |.store sz a' x'=>(match op with | .store t a x=>jj P t sz&&aF ν a a'&&aF ν x x' | _=>false)
 |.eD off x'=>(match op with | .fieldAddr s x f=>pr P s f off&&aF ν x x' | _=>false)
 |.fk agg off sz x'=>(match op with | .field s x f=>sf P s f agg off sz&&aF ν x x' | _=>false)
 |.eE len e x' i'=>(match op with | .indexAddr t x i=>px P t len e&&aF ν x x'&&aF ν i i' | _=>false)
 |.gX e x' i'=>(match op with | .indexAddr t x i=>sliceB P t e&&aF ν x x'&&aF ν i i' | _=>false)
 |.eF agg len e x' i'=>(match op with | .index t x i=>py P t agg len e&&aF ν x x'&&aF ν i i' | _=>false)
 |.fH x' i'=>(match op with | .index t x i=>isStr P t&&aF ν x x'&&aF ν i i' | _=>false)
 |.bin bo q x' y'=>(match op with | .binOp b t x y _=>b==bo&&AP P b t q&&aF ν x x'&&aF ν y y' | _=>false)
 |.oi neg qs x' y'=>(match op with | .binOp b t x y _=>b==(if neg then .neq else .eql)&&zF P t qs&&aF ν x x'&&aF ν y y' | _=>false)
 |.un uo x'=>(match op with | .unOp u _ x=>u==uo&&aF ν x x' | _=>false)
 |.qO kk x'=>(match op with | .convert s d x=>si P s d kk&&aF ν x x' | _=>false)
 |.tC x'=>(match op with | .convert s d x=>isStr P s&&isStr P d&&aF ν x x' | _=>false)
 |.hU e x' rk bY=>(match op with | .slice t x lo hi none=>sliceB P t e&&aF ν x x'&&js ν lo rk&&js ν hi bY | _=>false)
 |.fR x' rk bY=>(match op with | .slice t x lo hi none=>isStr P t&&aF ν x x'&&js ν lo rk&&js ν hi bY | _=>false)
 |.lh e x'=>(match op with | .slice t x lo (some hi) (some mx)=>sliceB P t e&&aF ν x x'&&(match lo with | none=>true | some l=>pR l)&&pR hi&&pR mx | _=>false)
 |.kV e z x'=>(match op with | .call { callee:=.builtin .clear,args,argTypes }=>(match args.toList,argTypes.toList with | [x],[t]=>zJ P t e z&&aF ν x x' | _,_=>false) | _=>false)
 |.len str x'=>(match op with | .call { callee:=.builtin .len,args,argTypes }=>(match args.toList,argTypes.toList with | [x],[t]=>sk P t str&&aF ν x x' | _,_=>false) | _=>false)
 |.app e x' y'=>(match op with | .call { callee:=.builtin .append,args,argTypes }=>(match args.toList,argTypes.toList with | [x,y],[t,u]=>oB P t u e&&aF ν x x'&&aF ν y y' | _,_=>false) | _=>false)
 |.mn x' ys=>(match op with | .call { callee:=.builtin .min,args,.. }=>dG ν args.toList (x'::ys) | _=>false)
 |.mx x' ys=>(match op with | .call { callee:=.builtin .max,args,.. }=>dG ν args.toList (x'::ys) | _=>false)
 |.ext x' i'=>(match op with | .extract x i=>i==i'&&aF ν x x' | _=>false)
 |.mz x'=>(match op with | .nilCheck x=>aF ν x x' | _=>false)
 |.oj f' rl=>(match op with | .makeFunc (.func f) first ax=>f==ν f'&&first.isEmpty&&dG ν ax.toList rl | _=>false)
 |.call _ f' kx=>(match op with | .call { callee:=.value f,args,.. }=>aF ν f f'&&dG ν args.toList kx | _=>false)
 |.sY x'=>(match op with | .convert s d x=>mV P s&&isStr P d&&aF ν x x' | _=>false)
 |.sZ=>(match op with | .makeMap _ none=>true | _=>false)
 |.gT ok agg qs z m' k'=>(match op with | .lookup t m k o=>o==ok&&iS P t qs&&Ch P t agg z&&aF ν m m'&&aF ν k k' | _=>false)
 |.gU qs m' k' x'=>(match op with | .mapUpdate t m k x | .insert t m k x=>iS P t qs&&aF ν m m'&&aF ν k k'&&aF ν x x' | _=>false)
 |.gV qs m' k'=>(match op with | .call { callee:=.builtin .delete,args,argTypes }=>(match args.toList,argTypes.toList with | [m,k],[t,_]=>iS P t qs&&aF ν m m'&&aF ν k k' | _,_=>false) | _=>false)
 |.qh m'=>(match op with | .call { callee:=.builtin .len,args,argTypes }=>(match args.toList,argTypes.toList with | [m],[t]=>isMap P t&&aF ν m m' | _,_=>false) | _=>false)
def eU (ν:Nat->Nat) (g:Gh) (tmps:Array Value) (fr:Fr):Prop:=∀(t:Nat) (x:AV),get fr t=some x->∃v,tmps[t]?=some v/\RA ν g v x
theorem eU.mono {ν:Nat->Nat} {g g':Gh} {tmps:Array Value} {fr:Fr} (h:eU ν g tmps fr) (hm:aV ν g g'):eU ν g' tmps fr:=
 λt x ht=>let⟨v,h1,h2⟩:=h t x ht;⟨v,h1,hm _ _ h2⟩
section
variable {ν:Nat->Nat} {P:Program} {k:Cx} {g:Gh}
theorem ak {a:Act} {fr:Fr} (hf:eU ν g a.tmps fr) {x:Operand} {y:aH} (h:aF ν x y=true):RA ν g (a.eval x) (ev fr y):=by
 unfold aF at h;split at h
 ·rename_i t n;have:=beq_iff_eq.1 h;subst this;simp only[ev];cases hg:get fr t with
  |none=>exact .undef _
  |some z=>
   obtain⟨v,hv,hR⟩:=hf t z hg;have:a.eval (.tmp t)=v:=by simp[Act.eval,Array.getD,(Array.getElem?_eq_some_iff.1 hv).1,(Array.getElem?_eq_some_iff.1 hv).2]
   rw[this];exact hR
 ·rename_i v x;exact .iv (j8 h _ _)
 ·rename_i f h';have:=beq_iff_eq.1 h;subst this;exact .iv (.fn h' #[] [] rfl λj v x h=>by simp at h)
 ·cases h
theorem lz {a:Act} {fr:Fr} (hf:eU ν g a.tmps fr):∀{xs:List Operand} {ys:List aH},dG ν xs ys=true->
  (xs.map a.eval).length=(ys.map (ev fr)).length/\∀(j:Nat) (v:Value) (x:AV),(xs.map a.eval)[j]?=some v->(ys.map (ev fr))[j]?=some x->RA ν g v x
 |[],[],_=>⟨rfl,λj v x h=>by simp at h⟩
 |x::xs,y::ys,h=>by
  simp only[dG,Bool.and_eq_true]at h;obtain⟨h1,h2⟩:=lz hf h.2;refine⟨by simpa using h1,λj v z hv hz=>?_⟩;cases j with
  |zero=>simp at hv hz;subst hv hz;exact ak hf h.1
  |succ j=>exact h2 j v z (by simpa using hv) (by simpa using hz)
 |[],_::_,h=>by simp[dG]at h
 |_::_,[],h=>by simp[dG]at h
theorem eV {a:Act} {fr:Fr} (hf:eU ν g a.tmps fr) {x:Option Operand} {y:Option aH} (h:js ν x y=true):RO ν g (x.map a.eval) (y.map (ev fr)):=by
 cases x<;>cases y<;>simp[js]at h
 ·trivial
 ·exact ak hf h
theorem mE {a:Act} {fr:Fr} (hf:eU ν g a.tmps fr) {pl:Nat->Option (Nat×Nat)}:∀(ps:List (Nat×Operand)) (qs:List (Nat×Nat×aH)) (cells:Array Value) (cs:List AV) (n:Nat) (l:List (Nat×List AV)) (h h':Hp),
  dR ν pl ps qs=true->RC ν g cells cs->cs.length=n->
  (M.aJ (λp:Nat×Nat×aH=>(bU (ev fr p.2.2)).bind λl=>(M.ok (l.length==p.2.1&&Nat.ble (p.1+p.2.1) n)).bind λ_=>M.ret (p.1,l)) qs).run h=some (l,h')->
  h'=h/\∃eR,Instr.fill pl cells (ps.map λp=>(p.1,a.eval p.2))=some eR/\RC ν g eR (fl cs l):=by
 intro ps
 induction ps with
 |nil=>
  intro qs cells cs n l h h' hc hr _ e;cases qs with
  |cons=>simp[dR]at hc
  |nil=>
   obtain⟨rfl,rfl⟩:=b7 e;exact⟨rfl,cells,rfl,hr⟩
 |cons p ps ih=>
  intro qs cells cs n l h h' hc hr hn e;cases qs with
  |nil=>simp[dR]at hc
  |cons q qs=>
   simp only[dR,Bool.and_eq_true,beq_iff_eq]at hc;obtain⟨⟨iP,hq⟩,cN⟩:=hc;obtain⟨y,h1,zs,e1,e2,rfl⟩:=bR e;obtain⟨xs,h2,e3,e4⟩:=ag e1;obtain⟨rfl,hs,ox⟩:=fq e3 (ak hf hq);obtain⟨bx,e6⟩:=M.aj e4;obtain⟨rfl,rfl⟩:=af e6;simp only[Bool.and_eq_true,beq_iff_eq,Nat.ble_eq]at bx;have cK:q.1+xs.length<=cs.length:=by omega
   have ym:=hr.cn (us:=(a.eval p.2).cells) (l:=xs) (o:=q.1) ⟨hs,ox⟩ cK;obtain⟨rfl,c',fu,hR⟩:=ih qs _ _ n zs h1 h' cN ym (by rw[de _ _ _ cK];exact hn) e2;refine⟨rfl,c',?_,hR⟩;rw[<-fu];simp only[List.map_cons,Instr.fill,iP];have qZ:¬(((a.eval p.2).cells.size≠q.2.1||q.1+(a.eval p.2).cells.size > cells.size)=true):=by
    have:=hr.1;simp;omega
   rw[if_neg qZ,<-Array.foldl_toList,Array.toList_zipIdx]
theorem uh {t:TypeId} {pl:Nat->Option (Nat×Nat)} (hp:placesOf P t=some pl) {parts:List (Nat×Value)} {zs:Array Value} {i:TypeInfo} {v:Value}
  (hi:P.info? t=some i) (hv:i.zero=some v) (kH:zs=v.cells):P.built t parts=Instr.fill pl zs parts:=by
 subst kH;unfold placesOf at hp;unfold Program.built;split at hp
 ·rename_i n e hu;simp only[Option.map_eq_some_iff]at hp;obtain⟨ie,q9,rfl⟩:=hp;simp[hi,hu,hv,q9]
 ·rename_i fields hu;simp only[Option.map_eq_some_iff]at hp;obtain⟨places,iP,rfl⟩:=hp;simp[hi,hu,hv,iP]
 ·cases hp
theorem qq (r:Rel ν k g) {a:Act} {fr:Fr} (hf:eU ν g a.tmps fr) {t:TypeId} {z:List IV} {ps:Array (Nat×Operand)} {qs:List (Nat×Nat×aH)} {pl:Nat->Option (Nat×Nat)}
  (hz:mc P t z=true) (hp:placesOf P t=some pl) (hc:dR ν pl ps.toList qs=true) {y:AV} {h':Hp}
  (e:((M.aJ (λp:Nat×Nat×aH=>(bU (ev fr p.2.2)).bind λl=>(M.ok (l.length==p.2.1&&Nat.ble (p.1+p.2.1) z.length)).bind λ_=>M.ret (p.1,l)) qs).bind λl=>M.ret (.agg (fl (z.map .iv) l))).run g.h=some (y,h')) :
  bf ν k g h' y ((Instr.build t (ps.map fun(i,x)=>(i,a.eval x))).run P g.w):=by
 obtain⟨l,h1,e1,e2⟩:=ag e;obtain⟨rfl,rfl⟩:=af e2;obtain⟨i,v,hi,oz,gZ⟩:=k7 hz;have Cj:=qj (ν:=ν) (g:=g) gZ;obtain⟨rfl,eR,fu,hR⟩:=mE hf ps.toList qs v.cells (z.map .iv) z.length l _ _ hc Cj (by simp) e1;refine .same r (run_build g.w t _ eR ?_) hR.agg;rw[uh hp hi oz rfl];simpa using fu
theorem iG:∀{ys:List (List IV)} {b:List Int},bytesOf ys=some b->b.length=ys.length/\∀i,i<ys.length->ys[i]?=some [.int .u8 (b.getD i 0)]
 |[],b,h=>by simp[bytesOf]at h;subst h;exact⟨rfl,λi hi=>absurd hi (Nat.not_lt_zero _)⟩
 |y::ys,b,h=>by
  unfold bytesOf at h;split at h
  ·rename_i heq;cases heq
  ·rename_i n r heq;cases heq;simp only[Option.map_eq_some_iff]at h;obtain⟨b',hb,rfl⟩:=h;obtain⟨h1,h2⟩:=iG hb;refine⟨by simp[h1],λi hi=>?_⟩;cases i with
   |zero=>rfl
   |succ i=>simpa using h2 i (by simpa using hi)
  ·cases h
theorem pS {P:Program} {t:TypeId} (h:mV P t=true):∃e,P.underlying t=some (.slice e)/\P.underlying e=some (.int .u8):=by
 unfold mV at h;split at h
 ·split at h
  ·exact⟨_,by assumption,by assumption⟩
  ·cases h
 ·cases h
theorem ui (r:Rel ν k g) {s d:TypeId} (hs:mV P s=true) (hd:isStr P d=true) {v:Value} {x y:AV} {h':Hp} (hv:RA ν g v x)
  (e:((elems 1 x).bind λys=>(M.lift (bytesOf ys)).bind λb=>M.ret (.iv (.str (qi b)))).run g.h=some (y,h')):bf ν k g h' y ((convert s d v).run P g.w):=by
 obtain⟨ys,h1,e1,e2⟩:=ag e;obtain⟨rfl,news,⟨a,c,cc,zK⟩,hlen,EI, -,ij⟩:=kc r e1 hv;obtain⟨b,hb,e4⟩:=M.lift_bind e2;obtain⟨rfl,rfl⟩:=af e4;obtain⟨s8,uj⟩:=iG hb;obtain⟨el,nX,mW⟩:=pS hs;have rm:=dX hd;subst cc;refine .same r (v:=.string (qi b)) ?_ mkStr;rcases zK with h0 | ⟨yn,off,rfl,ey⟩
 ·have:b=[]:=List.eq_nil_of_length_eq_zero (by omega);subst this;rw[h0];cases a with
  |none=>rw[run_convert_bytes_nil g.w s el nX mW 0 c d rm];rfl
  |some a=>
   rw[run_convert_bytes_string g.w s d el _ 0 c nX mW rm,run_bytesToString g.w a 0 c [] (by simp[loadCells,loadCellsFrom])];rfl
 ·refine run_convert_bytes_arg g.w s el nX mW yn off ys.length c b s8 (λi hi=>?_) d rm;obtain⟨u,hu,hR⟩:=ij i 0 _ _ (uj i hi) rfl;have:=ey (i*1+0) u hu;rw[Nat.mul_one,Nat.add_zero]at this;rw[this];cases hR;rfl
end
def jO (ν:Nat->Nat) (I:Nat->Prop) (w:World) (v:Value) (x:AV):Prop:=RA ν ⟨I,λ_=>none,w,[]⟩ v x
theorem jO.up {ν:Nat->Nat} {I:Nat->Prop} {w:World} {v:Value} {x:AV} (h:jO ν I w v x) {g:Gh} (hR:∀v x,RI ν I w v x->RI ν g.I g.w v x):RA ν g v x:=
 RA.mono (g:=⟨I,λ_=>none,w,[]⟩) hR (λv id o n ai ho=>by simp[aE,get]at ho) (λv id ai i j hr=>by simp[aG,get]at hr) h
theorem jO.mono {ν:Nat->Nat} {I J:Nat->Prop} {w w':World} {v:Value} {x:AV} (h:jO ν I w v x) (hR:∀v x,RI ν I w v x->RI ν J w' v x):jO ν J w' v x:=h.up hR
theorem uk {w:Bool}:∀(cs:List AV) (h h':Hp) (l:List AV),(M.aJ (gL w) cs).run h=some (l,h')->∃xs,(M.aJ (fz w 8) cs).run h=some (xs,h')/\l=xs.map .iv:=by
 intro cs
 induction cs with
 |nil=>
  intro h h' l e;obtain⟨rfl,rfl⟩:=b7 e;exact⟨[],rfl,rfl⟩
 |cons c cs ih=>
  intro h h' l e;obtain⟨y,h1,zs,e1,e2,rfl⟩:=bR e;obtain⟨x,h2,e3,e4⟩:=ag e1;obtain⟨rfl,rfl⟩:=af e4;obtain⟨xs,e5,rfl⟩:=ih _ _ _ e2;refine⟨x::xs,?_,rfl⟩;simp only[M.aJ,aW,e3,e5,M.run]
theorem mh {ν:Nat->Nat} {I:Nat->Prop} {w:World} {vs:Array Value} {xs:List IV} (hn:vs.size=xs.length) (hr:∀(j:Nat) (v:Value) (x:IV),vs[j]?=some v->xs[j]?=some x->RI ν I w v x) :
  jO ν I w (.agg vs) (.agg (xs.map .iv)):=by
 refine .agg (by simpa using hn) (λj v hv=>?_) λj v c hv hc=>?_
 ·have hj:=(Array.getElem?_eq_some_iff.1 hv).1;exact(hr j v _ hv (List.getElem?_eq_getElem (by omega))).one
 ·simp only[List.getElem?_map,Option.map_eq_some_iff]at hc;obtain⟨x,hx,rfl⟩:=hc;exact .iv (hr j v x hv hx)
section
variable {ν:Nat->Nat} {P:Program} {k:Cx} {g:Gh}
theorem lA (r:Rel ν k g) {a y:AV} {h':Hp} (e:(ek true a).run g.h=some (y,h')) {v:Value} (hv:RA ν g v a):∃I',cj ν k g h' I'/\jO ν I' g.w v y:=by
 have plain:∀{a:AV},(gL true a).run g.h=some (y,h')->RA ν g v a->∃I',cj ν k g h' I'/\jO ν I' g.w v y:=by
  intro a e hv;obtain⟨x,h1,e1,e2⟩:=ag e;obtain⟨rfl,rfl⟩:=af e2;obtain⟨I',f,hR⟩:=jl ν 8 k g a x _ e1 r v hv;exact⟨I',f,.iv hR⟩
 cases a with
 |agg cs=>
  obtain⟨l,h1,e1,e2⟩:=ag e;obtain⟨rfl,rfl⟩:=af e2;obtain⟨xs,e3,rfl⟩:=uk cs _ _ _ e1;obtain⟨vs,rfl⟩:=hv.dP;obtain⟨V,hV⟩:=pick λj c hc=>hv.dQ j c hc
  obtain⟨I',f,hl,hx⟩:=(jl ν 8).list cs k g xs _ e3 r V λj c hc=>(hV j c hc).2
  refine⟨I',f,mh ?_ λj v x h1 h2=>?_⟩
  ·cases hv with
   |agg hn _ _=>omega
  ·have aT:=ay h2;have:=(hV j _ (List.getElem?_eq_getElem (show j<cs.length by omega))).1;rw[h1]at this;cases this;exact hx j x h2
 |undef=>exact plain e hv
 |iv x=>exact plain e hv
 |aR vs=>exact plain e hv
 |own id o n v=>exact plain e hv
 |ref id v i j=>exact plain e hv
 |bp f ax=>exact plain e hv
theorem zL (r:Rel ν k g) {a y:AV} {h':Hp} (e:(ek false a).run g.h=some (y,h')) {v:Value} (hv:RA ν g v a) :
  h'=g.h/\∀J:Nat->Prop,(∀b,g.I b->J b)->(∀id o b,get g.h id=some o->g.φ id=some b->J b)->jO ν J g.w v y:=by
 have plain:∀{a:AV},(gL false a).run g.h=some (y,h')->RA ν g v a->h'=g.h/\∀J:Nat->Prop,(∀b,g.I b->J b)->(∀id o b,get g.h id=some o->g.φ id=some b->J b)->jO ν J g.w v y:=by
  intro a e hv;obtain⟨x,h1,e1,e2⟩:=ag e;obtain⟨rfl,rfl⟩:=af e2;obtain⟨rfl,hR⟩:=ln ν 8 k g a x _ e1 r v hv;exact⟨rfl,λJ h1 h2=>.iv (hR J h1 h2)⟩
 cases a with
 |agg cs=>
  obtain⟨l,h1,e1,e2⟩:=ag e;obtain⟨rfl,rfl⟩:=af e2;obtain⟨xs,e3,rfl⟩:=uk cs _ _ _ e1;obtain⟨vs,rfl⟩:=hv.dP;obtain⟨V,hV⟩:=pick λj c hc=>hv.dQ j c hc
  obtain⟨rfl,hl,hx⟩:=(ln ν 8).list k g r cs xs _ e3 V λj c hc=>(hV j c hc).2
  refine⟨rfl,λJ h1 h2=>mh ?_ λj v x h3 h4=>?_⟩
  ·cases hv with
   |agg hn _ _=>omega
  ·have aT:=ay h4;have:=(hV j _ (List.getElem?_eq_getElem (show j<cs.length by omega))).1;rw[h3]at this;cases this;exact hx J h1 h2 j x h4
 |undef=>exact plain e hv
 |iv x=>exact plain e hv
 |aR vs=>exact plain e hv
 |own id o n v=>exact plain e hv
 |ref id v i j=>exact plain e hv
 |bp f ax=>exact plain e hv
def RL (ν:Nat->Nat) (g:Gh) (vs:List Value) (xs:List AV):Prop:=vs.length=xs.length/\∀(j:Nat) (v:Value) (x:AV),vs[j]?=some v->xs[j]?=some x->RA ν g v x
theorem RL.nil:RL ν g [] []:=⟨rfl,λj v x h=>by simp at h⟩
theorem RL.cons {v:Value} {x:AV} {vs:List Value} {xs:List AV} (h:RA ν g v x) (hl:RL ν g vs xs):RL ν g (v::vs) (x::xs):=
 ⟨by simp[hl.1],λj v' x' h1 h2=>by
  cases j with
  |zero=>simp at h1 h2;subst h1 h2;exact h
  |succ j=>exact hl.2 j v' x' (by simpa using h1) (by simpa using h2)⟩
theorem RL.tail {v:Value} {x:AV} {vs:List Value} {xs:List AV} (h:RL ν g (v::vs) (x::xs)):RA ν g v x/\RL ν g vs xs:=
 ⟨h.2 0 v x rfl rfl,by have:=h.1;simpa using this,λj v' x' h1 h2=>h.2 (j+1) v' x' (by simpa using h1) (by simpa using h2)⟩
theorem RL.mono {g':Gh} {vs:List Value} {xs:List AV} (h:RL ν g vs xs) (hm:∀v x,RA ν g v x->RA ν g' v x):RL ν g' vs xs:=⟨h.1,λj v x h1 h2=>hm _ _ (h.2 j v x h1 h2)⟩
theorem RL.append {vs us:List Value} {xs ys:List AV} (h:RL ν g vs xs) (h':RL ν g us ys):RL ν g (vs++us) (xs++ys):=
 ⟨by simp[h.1,h'.1],λj v x h1 h2=>by
  rw[List.getElem?_append]at h1 h2;rw[<-h.1]at h2;split at h1
  ·rename_i hj;rw[if_pos hj]at h2;exact h.2 j v x h1 h2
  ·rename_i hj;rw[if_neg hj]at h2;exact h'.2 _ v x h1 h2⟩
theorem kL:∀(U:List AV) (k:Cx) (g:Gh) (ys:List AV) (h':Hp),(M.aJ (ek true) U).run g.h=some (ys,h')->Rel ν k g->∀vs:List Value,RL ν g vs U->
  ∃I',cj ν k g h' I'/\RL ν ⟨I',λ_=>none,g.w,[]⟩ vs ys:=by
 intro U
 induction U with
 |nil=>
  intro k g ys h' e r vs hv;obtain⟨rfl,rfl⟩:=b7 e;have:vs=[]:=List.eq_nil_of_length_eq_zero hv.1;subst this;exact⟨g.I,.refl r,.nil⟩
 |cons a U ih=>
  intro k g ys h' e r vs hv;cases vs with
  |nil=>have:=hv.1;simp at this
  |cons v vs=>
   obtain⟨y,h1,zs,e1,e2,rfl⟩:=bR e;obtain⟨I1,f1,hR⟩:=lA r e1 hv.tail.1;obtain⟨I2,f2,dx⟩:=ih k _ zs h' e2 f1.rel vs (hv.tail.2.mono f1.mono);exact⟨I2,f1.trans f2,.cons (hR.mono λv x h=>h.mono f2.sub λ_ _ _ _ h=>h) dx⟩
theorem oE (r:Rel ν k g):∀(U:List AV) (ys:List AV) (h':Hp),(M.aJ (ek false) U).run g.h=some (ys,h')->∀vs:List Value,RL ν g vs U->
  h'=g.h/\∀J:Nat->Prop,(∀b,g.I b->J b)->(∀id o b,get g.h id=some o->g.φ id=some b->J b)->RL ν ⟨J,λ_=>none,g.w,[]⟩ vs ys:=by
 intro U
 induction U with
 |nil=>
  intro ys h' e vs hv;obtain⟨rfl,rfl⟩:=b7 e;have:vs=[]:=List.eq_nil_of_length_eq_zero hv.1;subst this;exact⟨rfl,λ_ _ _=>.nil⟩
 |cons a U ih=>
  intro ys h' e vs hv;cases vs with
  |nil=>have:=hv.1;simp at this
  |cons v vs=>
   obtain⟨y,h1,zs,e1,e2,rfl⟩:=bR e;obtain⟨rfl,hR⟩:=zL r e1 hv.tail.1;obtain⟨rfl,dx⟩:=ih zs h' e2 vs hv.tail.2;exact⟨rfl,λJ h1 h2=>.cons (hR J h1 h2) (dx J h1 h2)⟩
theorem yo {x:IV} (hx:l6 x=true) {v:Value} {I J:Nat->Prop} {w w':World} (h:RI ν I w v x):RI ν J w' v x:=by
 cases h with
 |bool b=>exact .bool b
 |int kk n=>exact .int kk n
 |str s=>exact .str s
 |bc=>exact .bc
 |_=>simp[l6]at hx
theorem s9 {x:AV} (hx:jE x=true) {v:Value} {g':Gh} (h:RA ν g v x):RA ν g' v x:=by
 cases h with
 |iv h=>exact .iv (yo hx h)
 |_=>simp[jE]at hx
theorem oF {x:AV} (hx:jf x=true) {v:Value} {g':Gh} (h:RA ν g v x):RA ν g' v x:=by
 cases h with
 |agg hn h1 hr=>
  simp only[jf,List.all_eq_true]at hx;exact .agg hn h1 λj v c hv hc=>s9 (hx c (List.mem_of_getElem? hc)) (hr j v c hv hc)
 |iv h=>exact s9 (by simpa[jf]using hx) (.iv h)
 |_=>simp[jf,jE]at hx
theorem qt {x:AV} (hx:flat x=true) {v:Value} {g':Gh} (h:RA ν g v x):RA ν g' v x:=by
 cases h with
 |aR hn hr=>
  simp only[flat,List.all_eq_true]at hx;exact .aR hn λj v c hv hc=>oF (hx c (List.mem_of_getElem? hc)) (hr j v c hv hc)
 |agg hn h1 hr=>exact oF (by simpa[flat]using hx) (.agg hn h1 hr)
 |iv h=>exact oF (by simpa[flat]using hx) (.iv h)
 |_=>simp[flat,jf,jE]at hx
theorem um:∀(vs:List AV) (k:Cx) (g:Gh) (ys:List AV) (h':Hp),(M.aJ (ek true) vs).run g.h=some (ys,h')->Rel ν k g->∀us:Array Value,RA ν g (.tuple us) (.aR vs)->
  ∃I',cj ν k g h' I'/\jO ν I' g.w (.tuple us) (.aR ys):=by
 intro vs k g ys h' e r us hu;have dx:RL ν g us.toList vs:=by
  cases hu with
  |aR hn hr=>exact⟨by simpa using hn,λj v x h1 h2=>hr j v x (by simpa using h1) h2⟩
 obtain⟨I',f,hR⟩:=kL vs k g ys h' e r us.toList dx;exact⟨I',f,.aR (by have:=hR.1;simpa using this) λj v c h1 h2=>hR.2 j v c (by simpa using h1) h2⟩
theorem pA (r:Rel ν k g) {p y:AV} (e:shut (p,g.h)=some y) {v:Value} (hv:RA ν g v p):∃I' h',cj ν k g h' I'/\jO ν I' g.w v y:=by
 unfold shut at e;simp only[Option.map_eq_some_iff]at e;obtain⟨⟨y',h'⟩,e,rfl⟩:=e;cases p with
 |aR vs=>
  obtain⟨l,h1,e1,e2⟩:=ag e;obtain⟨rfl,rfl⟩:=af e2;obtain⟨us,rfl⟩:∃us,v = .tuple us:=by cases hv;exact⟨_,rfl⟩
  obtain⟨I',f,hR⟩:=um vs k g l _ e1 r us hv;exact⟨I',_,f,hR⟩
 |undef=>obtain⟨I',f',hR⟩:=lA (a:=.undef) r e hv;exact⟨I',_,f',hR⟩
 |iv x=>obtain⟨I',f',hR⟩:=lA (a:=(.iv x)) r e hv;exact⟨I',_,f',hR⟩
 |agg cs=>obtain⟨I',f',hR⟩:=lA (a:=(.agg cs)) r e hv;exact⟨I',_,f',hR⟩
 |own id o n v=>obtain⟨I',f',hR⟩:=lA (a:=(.own id o n v)) r e hv;exact⟨I',_,f',hR⟩
 |ref id v i j=>obtain⟨I',f',hR⟩:=lA (a:=(.ref id v i j)) r e hv;exact⟨I',_,f',hR⟩
 |bp f ax=>obtain⟨I',f',hR⟩:=lA (a:=(.bp f ax)) r e hv;exact⟨I',_,f',hR⟩
structure gF (g g':Gh):Prop where
 own:∀v id o n ai,id<1000->v.oneCell'=true->aE g v id o n ai->aE g' v id o n ai
 ref:∀v id ai i j,id<1000->v.oneCell'=true->aG g v id ai i j->aG g' v id ai i j
theorem gF.refl (g:Gh):gF g g:=⟨λ_ _ _ _ _ _ _ h=>h,λ_ _ _ _ _ _ _ h=>h⟩
theorem gF.trans {a b c:Gh} (h:gF a b) (h':gF b c):gF a c:=⟨λ_ _ _ _ _ hi h1 x=>h'.own _ _ _ _ _ hi h1 (h.own _ _ _ _ _ hi h1 x),λ_ _ _ _ _ hi h1 x=>h'.ref _ _ _ _ _ hi h1 (h.ref _ _ _ _ _ hi h1 x)⟩
theorem aV.low {g g':Gh} (h:aV ν g g'):gF g g':=
 ⟨λv id o n ai _ h1 x=>by cases h v _ (.own h1 x)with | own _ y=>exact y,λv id ai i j _ h1 x=>by cases h v _ (.ref h1 x)with | ref _ y=>exact y⟩
theorem RA.AU {g g':Gh} (hI:∀v x,RI ν g.I g.w v x->RI ν g'.I g'.w v x) (ho:∀v id o n ai,v.oneCell'=true->aE g v id o n ai->aE g' v id o n ai)
  (hr:∀v id ai i j,v.oneCell'=true->aG g v id ai i j->aG g' v id ai i j) {v:Value} {x:AV} (h:RA ν g v x):RA ν g' v x:=by
 induction h with
 |undef v=>exact .undef v
 |iv h=>exact .iv (hI _ _ h)
 |agg hn h1 _ ih=>exact .agg hn h1 ih
 |aR hn _ ih=>exact .aR hn ih
 |own h1 h=>exact .own h1 (ho _ _ _ _ _ h1 h)
 |ref h1 h=>exact .ref h1 (hr _ _ _ _ _ h1 h)
 |bp hn _ ih=>exact .bp hn ih
def iX (ν:Nat->Nat) (P:Program) (f:Nat) (args:List AV) (hp:Hp) (r:AV) (bM:Hp):Prop:=
 ∀(k0:Cx) (g0:Gh) (aS:Array Value),g0.h=hp->k0.w=g0.w->k0.I=g0.I->Rel ν k0 g0->RL ν g0 aS.toList args->
  Calls P (ν f) aS g0.w λe w'=>∃v g',e = .returned v/\g'.w=w'/\g'.h=bM/\Rel ν k0 g'/\gF g0 g'/\RA ν g' v r
def bq (ν:Nat->Nat) (P:Program) (call:Nat->List AV->Hp->Option (AV×Hp)):Prop:=
 ∀f args hp r bM,call f args hp=some (r,bM)->(∃fn,P.funcs[ν f]?=some fn/\fn.body.isSome=true/\(fn.name=="runtime.NumGoroutine")=false)/\iX ν P f args hp r bM
theorem fA {x:AV} {q:Nat×List AV} (e:callee x=some q) {v:Value} (hv:RA ν g v x):∃ax,v = .func (.func (ν q.1)) #[] ax/\RL ν g ax.toList q.2:=by
 unfold callee at e;split at e
 ·cases e;cases hv with
  |iv h=>
   cases h with
   |fn f ax cs hn hr=>
    refine⟨ax,rfl,by simpa using hn,λj v x h1 h2=>?_⟩;simp only[List.getElem?_map,Option.map_eq_some_iff]at h2;obtain⟨y,hy,rfl⟩:=h2;exact .iv (hr j v y (by simpa using h1) hy)
 ·cases e;cases hv with
  |bp hn hr=>exact⟨_,rfl,by simpa using hn,λj v x h1 h2=>hr j v x (by simpa using h1) h2⟩
 ·cases e
theorem oG {ρ:Operand->Value} {o:Oper} {fo:Operand} {aS:Array Operand} {cz:Array TypeId} (ho:o.op = .call { callee:=.value fo,args:=aS,argTypes:=cz }) {f:Nat} {ax:Array Value}
  (hf:ρ fo = .func (.func (ν f)) #[] ax) {fn:Func} (dp:P.funcs[ν f]?=some fn) (hb:fn.body.isSome=true) (hn:(fn.name=="runtime.NumGoroutine")=false) (w:World) :
  (execOp ρ o).run P w = .ok (.enter (ν f) (aS.map ρ++ax)) w:=by
 have fM:¬fn.body=none:=λh=>by rw[h]at hb;cases hb
 have cZ:¬fn.name="runtime.NumGoroutine":=by simpa using hn
 simp[execOp,ho,resolve,hf,Deferred.ofValue,invoke,callFunc,dp,fM,cZ]
def fK (ν:Nat->Nat) (P:Program) (k:Cx) (g:Gh) (h':Hp) (y:AV) (fv:Value) (aS:Array Value):Prop:=
 ∃q ax fn,fv = .func (.func (ν q)) #[] ax/\P.funcs[ν q]?=some fn/\fn.body.isSome=true/\(fn.name=="runtime.NumGoroutine")=false/\
  Calls P (ν q) (aS++ax) g.w λe w'=>∃v g',e = .returned v/\g'.w=w'/\g'.h=h'/\Rel ν k g'/\aV ν g g'/\RA ν g' v y
theorem lD {J:Nat->Prop} (hs:∀b,J b->b<g.w.heap.size):Rel ν ⟨g.w,J,λ_=>False⟩ ⟨J,λ_=>none,g.w,[]⟩:=
 ⟨λid o h=>by simp[get]at h,λid bW o o' b h=>by simp[get]at h,hs,λ_ h=>h,λ_ h=>.inl h,λid o b h=>by simp[get]at h,Nat.le_refl _,rfl,rfl,rfl,λ_ _ _=>rfl⟩
theorem nC (r:Rel ν k g) {J:Nat->Prop} {g':Gh} (r':Rel ν ⟨g.w,J,λ_=>False⟩ g'):Rel ν k { g with w:=g'.w }/\aV ν g { g with w:=g'.w }:=
 r.world (I':=g.I) (λ_ h=>h) (λ_ h=>.inl h) r'.size r'.os r'.tape r'.output λb hb=>r'.cu b hb (.inl λh=>h)
theorem qu {call:Nat->List AV->Hp->Option (AV×Hp)} (hs:bq ν P call) (r:Rel ν k g) {f y:AV} {args:List AV} {h':Hp} (e:(gv call f args).run g.h=some (y,h')) {fv:Value} {aS:Array Value}
  (hf:RA ν g fv f) (ha:RL ν g aS.toList args):fK ν P k g h' y fv aS:=by
 obtain⟨q,hq,e2⟩:=M.lift_bind e;obtain⟨ax,rfl,eM⟩:=fA hq hf;obtain⟨U,h2,e3,e4⟩:=ag e2;obtain⟨rfl,hJ⟩:=oE r _ _ _ e3 (aS.toList++ax.toList) (ha.append eM);obtain⟨y',hc,e6⟩:=M.lift_bind e4;obtain⟨yp,e8⟩:=M.aj e6;obtain⟨rfl,rfl⟩:=af e8;obtain⟨⟨rr,hh⟩,g7,nD⟩:=Option.bind_eq_some_iff.1 hc;obtain⟨⟨fn,dp,hb,hn⟩,bx⟩:=hs _ _ _ _ _ g7;have Ck:∀b,(g.I b\/∃id o,get g.h id=some o/\g.φ id=some b)->b<g.w.heap.size:=by
  rintro b (h | ⟨id,o,ho,ah⟩)
  ·exact r.small b h
  ·exact(r.ob id o ho).block ah r.small
 have dx:=hJ (λb=>g.I b\/∃id o,get g.h id=some o/\g.φ id=some b) (λ_ h=>.inl h) λid o b h1 h2=>.inr ⟨id,o,h1,h2⟩
 refine⟨q.1,ax,fn,rfl,dp,hb,hn,(bx _ _ (aS++ax) rfl rfl rfl (lD Ck) (by simpa using dx)).mono ?_⟩;rintro e w' ⟨v,g',rfl,rfl,rfl,r', -,hR⟩;obtain⟨I',pQ, -,kI⟩:=pA r' nD hR;obtain⟨r2,m2⟩:=nC r r';exact⟨v,{ g with w:=g'.w },rfl,rfl,rfl,r2,m2,qt yp kI⟩
theorem oH {call:Nat->List AV->Hp->Option (AV×Hp)} (hs:bq ν P call) (r:Rel ν k g) {f y:AV} {args:List AV} {h':Hp} (e:(gM call f args).run g.h=some (y,h')) {fv:Value} {aS:Array Value}
  (hf:RA ν g fv f) (ha:RL ν g aS.toList args):fK ν P k g h' y fv aS:=by
 obtain⟨q,hq,e2⟩:=M.lift_bind e;obtain⟨ax,rfl,eM⟩:=fA hq hf;obtain⟨U,h2,e3,e4⟩:=ag e2;obtain⟨I1,f1,dx⟩:=kL _ k g U _ e3 r (aS.toList++ax.toList) (ha.append eM);obtain⟨hc,rfl⟩:=dy e4;obtain⟨⟨rr,hh⟩,g7,nD⟩:=Option.bind_eq_some_iff.1 hc;obtain⟨⟨fn,dp,hb,hn⟩,bx⟩:=hs _ _ _ _ _ g7;refine⟨q.1,ax,fn,rfl,dp,hb,hn,(bx _ _ (aS++ax) rfl rfl rfl (lD f1.rel.small) (by simpa using dx)).mono ?_⟩;rintro e w' ⟨v,g',rfl,rfl,rfl,r', -,hR⟩;obtain⟨I2,pQ,f2,kI⟩:=pA r' nD hR;have oI:∀b,I2 b->I1 b\/g.w.heap.size<=b/\b<g'.w.heap.size:=by
  intro b hb;have aT:=f2.rel.small b hb;rcases f2.rel.i1 b hb with h | h | h
  ·exact .inl h
  ·exact h.elim
  ·exact .inr ⟨h,aT⟩
 have hw:=f1.rel.world (w':=g'.w) (I':=I2) (λb h=>f2.sub b (r'.i0 b h)) oI r'.size r'.os r'.tape r'.output λb hb=>r'.cu b hb (.inl λh=>h)
 exact⟨v,⟨I2,g.φ,g'.w,_⟩,rfl,rfl,rfl,hw.1,f1.mono.trans hw.2,kI.up λv x h=>h⟩
theorem yq {call:Nat->List AV->Hp->Option (AV×Hp)} (hs:bq ν P call) (r:Rel ν k g) {slot:Nat} {f y:AV} {args:List AV} {h':Hp} (e:(xJ call slot f args).run g.h=some (y,h')) {fv:Value} {aS:Array Value}
  (hf:RA ν g fv f) (ha:RL ν g aS.toList args):fK ν P k g h' y fv aS:=by
 obtain⟨q,hq,e2⟩:=M.lift_bind e;obtain⟨ax,rfl,eM⟩:=fA hq hf;obtain⟨U,h2,e3,e4⟩:=ag e2;obtain⟨I1,f1,dx⟩:=kL _ k g U _ e3 r (aS.toList++ax.toList) (ha.append eM);obtain⟨⟨rr,hh⟩,h3,e5,e6⟩:=ag e4;obtain⟨g7,rfl⟩:=dy e5;obtain⟨⟨fn,dp,hb,hn⟩,bx⟩:=hs _ _ _ _ _ g7;refine⟨q.1,ax,fn,rfl,dp,hb,hn,(bx _ _ (aS++ax) rfl rfl rfl (lD f1.rel.small) (by simpa using dx)).mono ?_⟩;rintro e w' ⟨v,g',rfl,rfl,rfl,r', -,hR⟩;have oI:∀b,g'.I b->I1 b\/g.w.heap.size<=b/\b<g'.w.heap.size:=by
  intro b hb;have aT:=r'.small b hb;rcases r'.i1 b hb with h | h | h
  ·exact .inl h
  ·exact h.elim
  ·exact .inr ⟨h,aT⟩
 have hw:=f1.rel.world (w':=g'.w) (I':=g'.I) (λb h=>r'.i0 b h) oI r'.size r'.os r'.tape r'.output λb hb=>r'.cu b hb (.inl λh=>h)
 unfold AB at e6;split at e6
 case h_2=>exact(ae e6).elim
 rename_i i o n ai fg;simp only at fg;subst fg;obtain⟨ob,Cl,e8⟩:=M.lift_bind e6;cases ob with
 |cells _=>exact(ae e8).elim
 |aZ _ _ _=>exact(ae e8).elim
 |map _=>exact(ae e8).elim
 |buf v' e' es=>
  obtain⟨Cm,dg⟩:=M.aj e8;obtain⟨_,h6,ow,lr⟩:=ag dg;obtain⟨vT,rfl⟩:=M.ct ow;obtain⟨_,h7,yr,q8⟩:=ag lr;obtain rfl:=aI yr;obtain⟨rfl,rfl⟩:=af q8;simp only[Bool.and_eq_true,beq_iff_eq]at Cm;obtain⟨rfl,rfl⟩:=Cm;cases hR with
  |own ef ho=>
   unfold aE at ho;simp only[Cl]at ho;have vO:=ho.2 (by trivial);have nA:∀b,g'.φ i=some b->g.w.heap.size<=b:=λb hb=>(r'.own i _ b Cl hb).resolve_left λh=>h
   have hn:=hw.1.wT (s:=slot) (ob:=.buf 0 e' es) (p:=g'.φ i) (w':=g'.w) vT (Nat.le_refl _) rfl rfl rfl (λ_ _=>rfl)
    (λb hb id o ho ah=>by have:=(f1.rel.ob id o ho).block ah f1.rel.small;have:=nA b hb;simp only[]at *;omega)
    (λb hb=>.inr (Nat.le_trans r.size (nA b hb))) λhm=>?_
   ·refine⟨v,⟨g'.I,bl g.φ slot (g'.φ i),g'.w,set _ slot (.buf 0 e' es)⟩,rfl,rfl,rfl,hn.1,(f1.mono.trans hw.2).trans hn.2,.own ef ?_⟩;unfold aE;simp only[an,aw];exact⟨Nat.le_refl _,λ_=>vO⟩
   ·rcases r'.ob i _ Cl with⟨h1,h2⟩|⟨b,h1,h2,h3,h4⟩
    ·exact .inl ⟨(aw _ _ _).trans h1,h2⟩
    ·exact .inr ⟨b,(aw _ _ _).trans h1,h2,h3,h4⟩
end
end ao
