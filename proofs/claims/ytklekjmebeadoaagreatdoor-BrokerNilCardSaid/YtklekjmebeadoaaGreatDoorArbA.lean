/-
  A part of the proof: two abstract machines for the code, and what the program does on them. No condition.
-/
import Derived.Below
import Derived.Eval
import Derived.Orders
import Derived.Sort.Defs
import Derived.Lib.BitFns
import Derived.Laws.Rows
import Derived.Laws.Tables
import Derived.Laws.Cells
import Derived.Laws.IdiomCopy
import Derived.Laws.Small
import Derived.Laws.StructEq
import Derived.Laws.Slices
import Derived.Laws.Append
import Derived.WideKeyRuns
import Derived.Laws.BytesArg
import Derived.WalkLawsBesides
import Derived.WalkSpells
import Derived.Laws.LoneSync
import Derived.Lib.Builder
import Derived.Lib.UnsafeStr
import Derived.Scope
import Derived.WalkKit
import Derived.ProofKit
import Derived.OpenShut
import Derived.Maps.RangeRun
import Derived.IntWalk
import Derived.MapKept
import Derived.Laws.AppendOwn
import Derived.Shelf.SlIterI.Nil
import Derived.Shelf.SlIterI.Sorted
import Derived.Shelf.SortM.Plain
import Derived.Shelf.SortM.SortNone
import Derived.Test.YtklekjmebeadoaaGreatDoorProg
import Derived.Tactics
import Derived.Tactics2
import Derived.Defers
import Derived.Laws.Pointers
import Derived.RegionTactic
import Derived.RegionCalls
import Derived.ChangeAlike
import Derived.Sort.AssemblyPlain
import Derived.Shelf.SlSortCmp.WholeK
import Derived.Shelf.Sort.Plain
import Derived.Test.YtklekjmebeadoaaGreatDoorChecked
import Derived.KernelRfl
import Derived.Test.YtklekjmebeadoaaGreatDoorRows
import Derived.ShutString
import Derived.ChangeOld
import Derived.Carry
import Derived.Test.YtklekjmebeadoaaGreatDoorCards
import Derived.Test.YtklekjmebeadoaaGreatDoorTie
import Derived.SevenTiedAt
import Derived.LaidMore
import Derived.Stop.Joined
set_option linter.all false
namespace al
open Go
inductive IV where
 |bool (b:Bool)
 |int (k:IntKind) (n:Int)
 |str (s:ByteArray)
 |az (e:Nat)
 |sl (e:Nat) (es:List (List IV))
 |bh
 |ptr (cs:List IV)
 |fn (f:Nat) (ay:List IV)
 |junk
 deriving Inhabited
inductive AV where
 |undef
 |iv (x:IV)
 |agg (cs:List AV)
 |aR (vs:List AV)
 |own (id o n v:Nat)
 |ref (id v i j:Nat)
 |bJ (f:Nat) (ay:List AV)
 deriving Inhabited
abbrev AV.nI (n:Int):AV:=.iv (.int .i64 n)
abbrev AV.bI (b:Bool):AV:=.iv (.bool b)
inductive Ob where
 |cells (cs:List AV)
 |buf (v e:Nat) (es:List (List IV))
 |bb (v e:Nat) (es:List (List IV))
 |map (aU:List (AV×AV))
 deriving Inhabited
def get {α:Type}:List (Nat×α)->Nat->Option α
 |[],_=>none
 |x::r,n=>if x.1=n then some x.2 else get r n
def set {α:Type}:List (Nat×α)->Nat->α->List (Nat×α)
 |[],n,v=>[(n,v)]
 |x::r,n,v=>if x.1=n then(n,v)::r else x::set r n v
abbrev Hp:=List (Nat×Ob)
abbrev Fr:=List (Nat×AV)
inductive M (α:Type) where
 |ret (a:α)
 |fail
 |get (id:Nat) (k:Option Ob->M α)
 |put (id:Nat) (o:Ob) (k:M α)
namespace M
def bind {α β:Type}:M α->(α->M β)->M β
 |.ret a,f=>f a
 |.fail,_=>.fail
 |.get id k,f=>.get id λo=>(k o).bind f
 |.put id o k,f=>.put id o (k.bind f)
instance:Monad M where
 pure:=M.ret
 bind:=M.bind
def run {α:Type}:M α->Hp->Option (α×Hp)
 |.ret a,h=>some (a,h)
 |.fail,_=>none
 |.get id k,h=>(k (al.get h id)).run h
 |.put id o k,h=>k.run (al.set h id o)
def bA {α:Type}:M α->Hp->List Nat×List Nat
 |.ret _,_=>([],[])
 |.fail,_=>([],[])
 |.get id k,h=>let r:=(k (al.get h id)).bA h;(id::r.1,r.2)
 |.put id o k,h=>let r:=k.bA (al.set h id o);(r.1,r.2++[id])
def ok (b:Bool):M Unit:=if b then .ret () else .fail
def lift {α:Type}:Option α->M α
 |some a=>.ret a
 |none=>.fail
def look (id:Nat):M Ob:=.get id fun | some o=>.ret o | none=>.fail
def fresh (id:Nat):M Unit:=.get id fun | some _=>.fail | none=>.ret ()
def write (id:Nat) (o:Ob):M Unit:=.put id o (.ret ())
def aN {α β:Type} (f:α->M β):List α->M (List β)
 |[]=>.ret []
 |x::r=>(f x).bind λy=>(aN f r).bind λys=>.ret (y::ys)
end M
def bW:AV->M (List AV)
 |.agg cs=>.ret cs
 |.undef=>.fail
 |.aR _=>.fail
 |x=>.ret [x]
def mk (agg:Bool) (l:List AV):M AV:=
 if agg then .ret (.agg l) else match l with
  |[x]=>.ret x
  |_=>.fail
def fz (w:Bool):Nat->AV->M IV
 |0,_=>.fail
 |n+1,a=>match a with
  |.iv (.az e)=>.ret (.sl e [])
  |.iv x=>.ret x
  |.own id o m ai=>(M.look id).bind fun
   |.buf v e es=>(M.ok (v==ai)).bind λ_=>if w then(M.write id (.bb v e es)).bind λ_=>.ret (.sl e ((es.drop o).take m)) else .ret (.sl e ((es.drop o).take m))
   |.bb v e es=>(M.ok (v==ai)).bind λ_=>.ret (.sl e ((es.drop o).take m))
   |.cells _=>.fail
   |.map _=>.fail
  |.ref id ai i j=>(M.look id).bind fun
   |.buf v e es=>(M.ok (v==ai)).bind λ_=>(M.lift es[i]?).bind λc=>if w then(M.write id (.bb v e es)).bind λ_=>.ret (.ptr (c.drop j)) else .ret (.ptr (c.drop j))
   |.bb v _ es=>(M.ok (v==ai)).bind λ_=>(M.lift es[i]?).bind λc=>.ret (.ptr (c.drop j))
   |.cells cs=>(M.ok (ai==0&&i==0)).bind λ_=>(M.aN (fz w n) cs).bind λxs=>if w then(M.look id).bind fun
    |.cells _=>(M.write id (.bb 0 xs.length [xs])).bind λ_=>.ret (.ptr (xs.drop j))
    |_=>.fail
    else .ret (.ptr (xs.drop j))
   |.map _=>.fail
  |.bJ f ay=>(M.aN (fz w n) ay).bind λxs=>.ret (.fn f xs)
  |_=>.fail
def gG (w:Bool) (a:AV):M AV:=(fz w 8 a).bind λx=>.ret (.iv x)
def eu (w:Bool) (a:AV):M AV:=match a with
 |.agg cs=>(M.aN (gG w) cs).bind λl=>.ret (.agg l)
 |a=>gG w a
def I8 (w:Bool) (a:AV):M AV:=match a with
 |.aR vs=>(M.aN (eu w) vs).bind λl=>.ret (.aR l)
 |a=>eu w a
def nD:IV->Bool
 |.bool _ | .int _ _ | .str _ | .bh=>true
 |_=>false
def ki:AV->Bool
 |.iv x=>nD x
 |_=>false
def jr:AV->Bool
 |.agg cs=>cs.all ki
 |x=>ki x
def flat:AV->Bool
 |.aR vs=>vs.all jr
 |x=>jr x
inductive aK where
 |t (n:Nat)
 |c (v:IV)
 deriving Inhabited
inductive js where
 |l9 (x:aK)
 |wD (e:Nat)
 |pick (c a b:aK)
 |alloc (z:List IV)
 |box (x:aK)
 |build (z:List IV) (ps:List (Nat×Nat×aK))
 |nZ (e:Nat) (z:List IV) (len:Nat) (ps:List (Nat×aK))
 |load (agg:Bool) (sz:Nat) (a:aK)
 |store (sz:Nat) (a x:aK)
 |cU (off:Nat) (x:aK)
 |fC (agg:Bool) (off sz:Nat) (x:aK)
 |eD (len e:Nat) (x i:aK)
 |gL (e:Nat) (x i:aK)
 |eP (agg:Bool) (len e:Nat) (x i:aK)
 |fK (x i:aK)
 |bin (op:BinOp) (q:Nat) (x y:aK)
 |pU (neg:Bool) (qs:List Nat) (x y:aK)
 |un (op:UnOp) (x:aK)
 |qT (k:IntKind) (x:aK)
 |tJ (x:aK)
 |gM (e:Nat) (x:aK) (lo hi:Option aK)
 |fL (x:aK) (lo hi:Option aK)
 |lh (e:Nat) (x:aK)
 |ko (e:Nat) (z:List IV) (x:aK)
 |len (str:Bool) (x:aK)
 |app (e:Nat) (x y:aK)
 |mn (x:aK) (ys:List aK)
 |mx (x:aK) (ys:List aK)
 |ext (x:aK) (i:Nat)
 |nE (x:aK)
 |oj (f:Nat) (ay:List aK)
 |call (mode:Nat) (f:aK) (args:List aK)
 |sZ (x:aK)
 |s7
 |gB (ok agg:Bool) (qs:List Nat) (z:List IV) (m k:aK)
 |gC (qs:List Nat) (m k v:aK)
 |gD (qs:List Nat) (m k:aK)
 |om (m:aK)
 deriving Inhabited
structure ax where
 dst:Option Nat
 op:js
 gd:Option (Nat×Bool):=none
 iH:List Nat:=[]
 deriving Inhabited
inductive IC where
 |skip
 |gm (draw:Bool) (ops:List ax) (aF:List Nat)
 |seq (a b:IC)
 |cond (c:aK) (a b:IC)
 |block (id:Nat) (b:IC)
 |loop (aF:List Nat) (b:IC)
 |exit (id:Nat)
 |ret
 deriving Inhabited
inductive dY where
 |t (n:Nat)
 |cell (n:Nat) (agg:Bool) (sz:Nat)
 |aF (n:Nat)
 |wE (n:Nat) (agg:Bool) (sz:Nat)
 deriving Inhabited
structure an where
 np:Nat
 res:List dY
 body:IC
 cl:Option (Nat×List IV)
 deriving Inhabited
structure St where
 fr:Fr
 hp:Hp
 nx:Nat
def ev (fr:Fr):aK->AV
 |.t n=>(get fr n).getD .undef
 |.c v=>.iv v
def eE:Nat->List AV->M (List AV)
 |_,[]=>.ret []
 |s,.iv (.az e)::r=>(M.fresh s).bind λ_=>(M.write s (.buf 0 e [])).bind λ_=>(eE (s+1) r).bind λrs=>.ret (.own s 0 0 0::rs)
 |s,x::r=>(eE (s+1) r).bind λrs=>.ret (x::rs)
def cn {α:Type} (cs:List α) (j:Nat) (l:List α):List α:=cs.take j++l++cs.drop (j+l.length)
def dc (o:Ob) (ai i j sz:Nat):Option (List AV):=
 match o with
 |.cells cs=>if ai=0/\i=0 then some ((cs.drop j).take sz) else none
 |.buf v _ es | .bb v _ es=>if v=ai then(es[i]?).map λc=>((c.drop j).take sz).map .iv else none
 |.map _=>none
def load (agg:Bool) (sz:Nat):AV->M AV
 |.ref id ai i j=>(M.look id).bind λo=>(M.lift (dc o ai i j sz)).bind λl=>(M.ok (l.length==sz)).bind λ_=>mk agg l
 |.iv (.ptr cs)=>(M.ok ((cs.take sz).length==sz)).bind λ_=>mk agg ((cs.take sz).map .iv)
 |_=>.fail
def store (slot sz:Nat) (a x:AV):M AV:=
 (bW x).bind λxs=>(M.ok (xs.length==sz)).bind λ_=>
 match a with
 |.ref id ai i j=>(M.look id).bind fun
  |.cells cs=>(M.ok (Nat.ble (j+sz) cs.length)).bind λ_=>(eE slot xs).bind λl=>(M.write id (.cells (cn cs j l))).bind λ_=>.ret (.aR [])
  |.buf _ _ _=>(M.aN (fz true 8) xs).bind λl=>(M.look id).bind fun
   |.buf v e es=>(M.ok (v==ai&&Nat.ble (j+sz) e)).bind λ_=>(M.lift es[i]?).bind λc=>(M.write id (.buf v e (es.set i (cn c j l)))).bind λ_=>.ret (.aR [])
   |_=>.fail
  |_=>.fail
 |_=>.fail
def valid (o:Ob) (ai i:Nat):Bool:=
 match o with
 |.cells _=>ai==0&&i==0
 |.buf v _ _ | .bb v _ _=>v==ai
 |.map _=>false
def cU (off:Nat):AV->M AV
 |.ref id ai i j=>(M.look id).bind λo=>(M.ok (valid o ai i)).bind λ_=>.ret (.ref id ai i (j+off))
 |.iv (.ptr cs)=>(M.ok (Nat.ble off cs.length)).bind λ_=>.ret (.iv (.ptr (cs.drop off)))
 |_=>.fail
def fC (agg:Bool) (off sz:Nat):AV->M AV
 |.agg cs=>(M.ok (((cs.drop off).take sz).length==sz)).bind λ_=>mk agg ((cs.drop off).take sz)
 |_=>.fail
def idx:AV->M Int
 |.iv (.int _ n)=>.ret n
 |_=>.fail
def eD (len e:Nat) (x i:AV):M AV:=
 (idx i).bind λn=>(M.ok (decide (0<=n/\n<len))).bind λ_=>
 match x with
 |.ref id ai i j=>(M.look id).bind λo=>(M.ok (valid o ai i)).bind λ_=>.ret (.ref id ai i (j+n.toNat*e))
 |.iv (.ptr cs)=>(M.ok (Nat.ble (n.toNat*e) cs.length)).bind λ_=>.ret (.iv (.ptr (cs.drop (n.toNat*e))))
 |_=>.fail
def gL (e:Nat) (x i:AV):M AV:=
 (idx i).bind λn=>(M.ok (decide (0<=n))).bind λ_=>
 match x with
 |.own id o m ai=>(M.ok (decide (n<m))).bind λ_=>(M.look id).bind fun
  |.buf v e' _ | .bb v e' _=>(M.ok (v==ai&&e'==e)).bind λ_=>.ret (.ref id ai (o+n.toNat) 0)
  |_=>.fail
 |.iv (.sl e' es)=>(M.ok (e'==e)).bind λ_=>(M.lift es[n.toNat]?).bind λc=>.ret (.iv (.ptr c))
 |_=>.fail
def eP (agg:Bool) (len e:Nat) (x i:AV):M AV:=
 (idx i).bind λn=>(M.ok (decide (0<=n/\n<len))).bind λ_=>fC agg (n.toNat*e) e x
def fK:AV->AV->M AV
 |.iv (.str s),.iv (.int _ n)=>(M.ok (decide (0<=n))).bind λ_=>match s[n.toNat]? with
  |some b=>.ret (.iv (.int .u8 b.toNat))
  |none=>.fail
 |_,_=>.fail
def dZ (op:BinOp) (k k':IntKind) (a b:Int):Option IV:=
 match op with
 |.shl=>if b<0 then none else some (.int k (k.wrap (a*2 ^ min b.toNat k.bits)))
 |.shr=>if b<0 then none else some (.int k (a.fdiv (2 ^ min b.toNat k.bits)))
 |op=>if k=k' then match op with
   |.add=>some (.int k (k.wrap (a+b)))
   |.sub=>some (.int k (k.wrap (a - b)))
   |.mul=>some (.int k (k.wrap (a*b)))
   |.quo=>if b=0 then none else some (.int k (k.wrap (a.tdiv b)))
   |.rem=>if b=0 then none else some (.int k (a.tmod b))
   |.eql=>some (.bool (a==b))
   |.neq=>some (.bool (a != b))
   |.lss=>some (.bool (decide (a<b)))
   |.leq=>some (.bool (decide (a<=b)))
   |.gtr=>some (.bool (decide (a > b)))
   |.geq=>some (.bool (decide (a ≥ b)))
   |op=>some (.int k (bits op k a b))
  else none
def pB (a b:ByteArray):Bool:=Op.bytesLess a.toList b.toList
def iI (op:BinOp) (a b:ByteArray):Option IV:=
 match op with
 |.add=>if a.size+b.size<=4611686018427387904 then some (.str (a++b)) else none
 |.eql=>some (.bool (a==b))
 |.neq=>some (.bool (!(a==b)))
 |.lss=>some (.bool (pB a b))
 |.leq=>some (.bool (pB a b||a==b))
 |.gtr=>some (.bool (!(pB a b||a==b)))
 |.geq=>some (.bool (!pB a b))
 |_=>none
def bin (op:BinOp) (q:Nat) (x y:AV):Option IV:=
 match q,x,y with
 |0,.iv (.int k a),.iv (.int k' b)=>dZ op k k' a b
 |0,.iv (.str a),.iv (.str b)=>iI op a b
 |1,.iv (.bool a),.iv (.bool b)=>match op with
  |.eql=>some (.bool (a==b))
  |.neq=>some (.bool (!(a==b)))
  |_=>none
 |2,.iv .bh,.iv .bh=>match op with
  |.eql=>some (.bool true)
  |.neq=>some (.bool false)
  |_=>none
 |2,.iv (.ptr _),.iv .bh | 2,.iv .bh,.iv (.ptr _)=>match op with
  |.eql=>some (.bool false)
  |.neq=>some (.bool true)
  |_=>none
 |_,_,_=>none
def jt (q:Nat) (x y:AV):Option Bool:=
 match q,x,y with
 |0,.iv (.int k a),.iv (.int k' b)=>if k=k' then some (a==b) else none
 |1,.iv (.bool a),.iv (.bool b)=>some (a==b)
 |2,.iv (.str a),.iv (.str b)=>some (a==b)
 |_,_,_=>none
def eqs:List Nat->List AV->List AV->Option Bool
 |[],[],[]=>some true
 |q::qs,x::xs,y::ys=>(jt q x y).bind λb=>(eqs qs xs ys).bind λc=>some (b&&c)
 |_,_,_=>none
def un (op:UnOp):AV->Option IV
 |.iv (.int k a)=>match op with
  |.neg=>some (.int k (k.wrap (0 - a)))
  |.xor=>some (.int k (bits .xor k (if k.signed then -1 else k.max) a))
  |_=>none
 |.iv (.bool b)=>match op with
  |.not=>some (.bool !b)
  |_=>none
 |_=>none
def bound (y:Nat):Option AV->M (Option Nat)
 |none=>.ret none
 |some (.iv (.int _ n))=>(M.ok (decide (0<=n/\n<=y))).bind λ_=>.ret (some n.toNat)
 |some _=>.fail
def gM (e:Nat) (x:AV) (lo hi:Option AV):M AV:=
 match x with
 |.own id o m ai=>(bound m hi).bind λh=>(bound (h.getD m) lo).bind λl=>(M.look id).bind fun
  |.buf v e' _ | .bb v e' _=>(M.ok (v==ai&&e'==e)).bind λ_=>.ret (.own id (o+l.getD 0) (h.getD m - l.getD 0) ai)
  |_=>.fail
 |.iv (.sl e' es)=>(M.ok (e'==e)).bind λ_=>(bound es.length hi).bind λh=>(bound (h.getD es.length) lo).bind λl=>.ret (.iv (.sl e ((es.take (h.getD es.length)).drop (l.getD 0))))
 |_=>.fail
def fL (x:AV) (lo hi:Option AV):M AV:=
 match x with
 |.iv (.str s)=>(bound s.size hi).bind λh=>(bound (h.getD s.size) lo).bind λl=>.ret (.iv (.str (s.extract (l.getD 0) (h.getD s.size))))
 |_=>.fail
def lh (e:Nat):AV->M AV
 |.own id _ _ ai=>(M.look id).bind λo=>(M.ok (valid o ai 0)).bind λ_=>(match o with | .cells _=>.fail | .map _=>.fail | _=>.ret (.iv (.az e)))
 |.iv (.sl _ _)=>.ret (.iv (.az e))
 |.iv (.az _)=>.ret (.iv (.az e))
 |_=>.fail
def ko (e:Nat) (z:List IV):AV->M AV
 |.own id o n ai=>(M.look id).bind fun
  |.buf v e' es=>(M.ok (v==ai&&e'==e&&z.length==e)).bind λ_=>(M.write id (.buf v e (es.take o++List.replicate n z++es.drop (o+n)))).bind λ_=>.ret (.aR [])
  |_=>.fail
 |_=>.fail
def len (str:Bool) (x:AV):M AV:=
 match str,x with
 |false,.own id _ n ai=>(M.look id).bind fun
  |.buf v _ _ | .bb v _ _=>(M.ok (v==ai)).bind λ_=>.ret (.iv (.int .i64 n))
  |_=>.fail
 |false,.iv (.sl _ es)=>.ret (.iv (.int .i64 es.length))
 |false,.iv (.az _)=>.ret (.iv (.int .i64 0))
 |true,.iv (.str s)=>.ret (.iv (.int .i64 s.size))
 |_,_=>.fail
def elems (e:Nat):AV->M (List (List IV))
 |.own id o n ai=>(M.look id).bind fun
  |.buf v e' es | .bb v e' es=>(M.ok (v==ai&&e'==e)).bind λ_=>.ret ((es.drop o).take n)
  |_=>.fail
 |.iv (.sl e' es)=>(M.ok (e'==e)).bind λ_=>.ret es
 |.iv (.az _)=>.ret []
 |_=>.fail
def roomy (n:Nat):Bool:=Nat.ble n 1073741824
def app (e slot:Nat) (x y:AV):M AV:=
 (elems e y).bind λys=>
 match x with
 |.iv (.az _)=>(M.ok (roomy ys.length)).bind λ_=>(M.fresh slot).bind λ_=>(M.write slot (.buf 0 e ys)).bind λ_=>.ret (.own slot 0 ys.length 0)
 |.own id o n ai=>(M.look id).bind fun
  |.buf v e' es=>(M.ok (v==ai&&e'==e&&o==0&&roomy (n+ys.length))).bind λ_=>(M.write id (.buf (v+1) e (es.take n++ys))).bind λ_=>.ret (.own id 0 (n+ys.length) (v+1))
  |_=>.fail
 |_=>.fail
def mT:Int->List AV->IntKind->Option Int
 |a,[],_=>some a
 |a,.iv (.int k b)::r,k'=>if k=k' then mT (if b<a then b else a) r k' else none
 |_,_,_=>none
def od:Int->List AV->IntKind->Option Int
 |a,[],_=>some a
 |a,.iv (.int k b)::r,k'=>if k=k' then od (if b > a then b else a) r k' else none
 |_,_,_=>none
def gn {α:Type}:List α->List (Nat×List α)->List α
 |z,[]=>z
 |z,(o,l)::r=>gn (cn z o l) r
def ec {α:Type}:List α->List (Nat×α)->List α
 |z,[]=>z
 |z,(o,l)::r=>ec (z.set o l) r
def A1:AV->List Nat
 |.own id _ _ _ | .ref id _ _ _=>[id]
 |_=>[]
def place:List Nat->Nat->Option Nat
 |[],_=>none
 |x::r,n=>if x=n then some 0 else(place r n).map (·+ 1)
def dedup:List Nat->List Nat->List Nat
 |[],acc=>acc.reverse
 |x::r,acc=>if acc.contains x then dedup r acc else dedup r (x::acc)
def A2 (ids:List Nat):AV->M AV
 |.own id o n v=>(M.lift (place ids id)).bind λi=>.ret (.own i o n v)
 |.ref id v i j=>(M.lift (place ids id)).bind λp=>.ret (.ref p v i j)
 |a=>eu true a
def oo:Ob->Bool
 |.buf _ _ _=>true
 |_=>false
def callee:AV->Option (Nat×List AV)
 |.iv (.fn f ay)=>some (f,ay.map .iv)
 |.bJ f ay=>some (f,ay)
 |_=>none
def shut (p:AV×Hp):Option AV:=((I8 true p.1).run p.2).map (·.1)
def fc (call:Nat->List AV->Hp->Option (AV×Hp)) (f:AV) (args:List AV):M AV:=
 (M.lift (callee f)).bind λq=>
 (M.aN (eu false) (args++q.2)).bind λU=>(M.lift ((call q.1 U []).bind shut)).bind λr=>
 (M.ok (flat r)).bind λ_=>.ret r
def gN (call:Nat->List AV->Hp->Option (AV×Hp)) (f:AV) (args:List AV):M AV:=
 (M.lift (callee f)).bind λq=>
 (M.aN (eu true) (args++q.2)).bind λU=>M.lift ((call q.1 U []).bind shut)
def si:List Nat->Nat->Hp->M Unit
 |[],_,_=>.ret ()
 |id::r,i,h=>(M.lift (get h i)).bind λo=>(M.ok (match o with | .cells _=>false | .map _=>false | _=>true)).bind λ_=>(M.write id o).bind λ_=>si r (i+1) h
def A3 (ids:List Nat) (p:AV×Hp):Option AV:=
 match p.1 with
 |.own i o n v=>(ids[i]?).map λid=>.own id o n v
 |r=>if flat r then some r else none
def fe:List Nat->Bool
 |[]=>true
 |x::r=>!r.contains x&&fe r
def cL {α:Type}:List α->Nat->List (Nat×α)
 |[],_=>[]
 |x::r,i=>(i,x)::cL r (i+1)
def xR (call:Nat->List AV->Hp->Option (AV×Hp)) (f:AV) (args:List AV):M AV:=
 (M.lift (callee f)).bind λq=>
 let ids:=dedup ((args++q.2).flatMap A1) []
 (M.ok (fe ids&&Nat.ble ids.length 1000)).bind λ_=>
 (M.aN (A2 ids) (args++q.2)).bind λU=>
 (M.aN (λid=>(M.look id).bind λo=>(M.ok (oo o)).bind λ_=>.ret o) ids).bind λos=>
 (M.lift (call q.1 U (cL os 0))).bind λp=>
 (M.lift (A3 ids p)).bind λr=>(si ids 0 p.2).bind λ_=>.ret r
def A4 (slot:Nat) (p:AV×Hp):M AV:=
 match p.1 with
 |.own i o n v=>(M.lift (get p.2 i)).bind fun
  |.buf v' e es=>(M.ok (v'==v&&o==0)).bind λ_=>(M.fresh slot).bind λ_=>(M.write slot (.buf 0 e es)).bind λ_=>.ret (.own slot 0 n 0)
  |_=>.fail
 |_=>.fail
def xS (call:Nat->List AV->Hp->Option (AV×Hp)) (slot:Nat) (f:AV) (args:List AV):M AV:=
 (M.lift (callee f)).bind λq=>
 (M.aN (eu true) (args++q.2)).bind λU=>(M.lift (call q.1 U [])).bind λp=>A4 slot p
def lj (ρ:Nat->Option Nat):Nat->AV->AV
 |0,_=>.undef
 |d+1,a=>match a with
  |.iv x=>.iv x
  |.undef=>.undef
  |.agg cs=>.agg (cs.map (lj ρ d))
  |.aR vs=>.aR (vs.map (lj ρ d))
  |.own id o n v=>match ρ id with
   |some i=>.own i o n v
   |none=>.undef
  |.ref id v i j=>match ρ id with
   |some p=>.ref p v i j
   |none=>.undef
  |.bJ f ay=>.bJ f (ay.map (lj ρ d))
def lk (ρ:Nat->Option Nat):Ob->Ob
 |.cells cs=>.cells (cs.map (lj ρ 8))
 |.map aU=>.map (aU.map λp=>(lj ρ 8 p.1,lj ρ 8 p.2))
 |.buf v e es=>.buf v e es
 |.bb v e es=>.bb v e es
def tK:Nat->AV->List Nat
 |0,_=>[]
 |d+1,a=>match a with
  |.own id _ _ _ | .ref id _ _ _=>[id]
  |.agg cs | .aR cs | .bJ _ cs=>cs.flatMap (tK d)
  |_=>[]
def Gg:Ob->List Nat
 |.cells cs=>cs.flatMap (tK 8)
 |.map aU=>aU.flatMap λp=>tK 8 p.2
 |_=>[]
def A5 (id:Nat):List (Nat×Ob)->Bool
 |[]=>false
 |p::r=>p.1==id||A5 id r
def ll:Nat->List Nat->List (Nat×Ob)->M (List (Nat×Ob))
 |0,_,acc=>.ret acc.reverse
 |_+1,[],acc=>.ret acc.reverse
 |n+1,id::r,acc=>if A5 id acc then ll n r acc else .get id fun
  |some o=>ll n (r++Gg o) ((id,o)::acc)
  |none=>ll n r acc
def wF (σ:Nat->Option Nat) (h:Hp):List (Nat×Nat)->M Unit
 |[]=>.ret ()
 |p::r=>(M.lift (get h p.2)).bind λo=>(M.write p.1 (lk σ o)).bind λ_=>wF σ h r
def tL (slot:Nat):Nat->M Unit
 |0=>.ret ()
 |n+1=>(M.fresh (slot+n)).bind λ_=>tL slot n
def iP:List (Nat×Nat)->Nat->Option Nat
 |[],_=>none
 |p::r,i=>if p.2=i then some p.1 else iP r i
def kr (ids news:List Nat) (slot:Nat):List (Nat×Nat):=((cL ids 0).map λx=>(x.2,x.1))++cL news slot
def xT (p:AV×Hp) (k:Nat):List Nat:=match(ll 4096 (tK 8 p.1++List.range k) []).run p.2 with
 |some q=>(q.1.map (·.1)).filter λi=>Nat.ble 1000 i
 |none=>[]
def A6 (slot:Nat) (ids:List Nat) (p:AV×Hp) (news:List Nat):M AV:=
 (M.ok (fe ((kr ids news slot).map (·.1))&&fe ((kr ids news slot).map (·.2))&&Nat.ble news.length 63)).bind λ_=>
 (tL slot news.length).bind λ_=>(wF (iP (kr ids news slot)) p.2 (kr ids news slot)).bind λ_=>
 .ret (lj (iP (kr ids news slot)) 8 p.1)
def xU (call:Nat->List AV->Hp->Option (AV×Hp)) (slot:Nat) (f:AV) (args:List AV):M AV:=
 (M.lift (callee f)).bind λq=>
 (ll 4096 ((args++q.2).flatMap (tK 8)) []).bind λps=>
 (M.ok (Nat.ble ps.length 1000)).bind λ_=>
 (M.lift (call q.1 ((args++q.2).map (lj (place (ps.map (·.1))) 8)) (cL (ps.map λp=>lk (place (ps.map (·.1))) p.2) 0))).bind λp=>
 A6 slot (ps.map (·.1)) p (xT p ps.length)
def fX (qs:List Nat):AV->Bool
 |.agg xs=>xs.length==qs.length&&qs.length != 1
 |.iv _=>qs.length==1
 |_=>false
def ku (qs:List Nat):AV->AV->Option Bool
 |.agg xs,.agg ys=>if qs.length=1 then none else eqs qs xs ys
 |.iv x,.iv y=>if qs.length=1 then eqs qs [.iv x] [.iv y] else none
 |_,_=>none
def cM (qs:List Nat) (k:AV):List (AV×AV)->Nat->Option (Option (Nat×AV))
 |[],_=>some none
 |p::r,i=>match ku qs k p.1 with
  |some true=>some (some (i,p.2))
  |some false=>cM qs k r (i+1)
  |none=>none
def du:AV->M (Nat×List (AV×AV))
 |.ref id 0 0 0=>(M.look id).bind fun
  |.map aU=>.ret (id,aU)
  |_=>.fail
 |_=>.fail
def gB (ok agg:Bool) (qs:List Nat) (z:List IV) (m k:AV):M AV:=
 (M.ok (fX qs k)).bind λ_=>(du m).bind λx=>(M.lift (cM qs k x.2 0)).bind fun
  |some p=>.ret (if ok then .aR [p.2,.iv (.bool true)] else p.2)
  |none=>(mk agg (z.map .iv)).bind λv=>.ret (if ok then .aR [v,.iv (.bool false)] else v)
def gC (qs:List Nat) (m k v:AV):M AV:=
 (M.ok (fX qs k)).bind λ_=>(du m).bind λx=>(M.lift (cM qs k x.2 0)).bind fun
  |some p=>(M.write x.1 (.map (x.2.set p.1 (k,v)))).bind λ_=>.ret (.aR [])
  |none=>(M.write x.1 (.map (x.2++[(k,v)]))).bind λ_=>.ret (.aR [])
def gD (qs:List Nat) (m k:AV):M AV:=
 (M.ok (fX qs k)).bind λ_=>(du m).bind λx=>(M.lift (cM qs k x.2 0)).bind fun
  |some p=>(M.write x.1 (.map (x.2.eraseIdx p.1))).bind λ_=>.ret (.aR [])
  |none=>(M.write x.1 (.map x.2)).bind λ_=>.ret (.aR [])
def bytesOf:List (List IV)->Option (List Int)
 |[]=>some []
 |[.int .u8 n]::r=>(bytesOf r).map (n::·)
 |_=>none
def ql (xs:List Int):ByteArray:=⟨(xs.map λn=>UInt8.ofNat n.toNat).toArray⟩
def bn (call:Nat->List AV->Hp->Option (AV×Hp)) (slot:Nat) (ρ:aK->AV):js->M AV
 |.l9 x=>.ret (ρ x)
 |.wD e=>(M.fresh slot).bind λ_=>(M.write slot (.buf 0 e [])).bind λ_=>.ret (.own slot 0 0 0)
 |.pick c a b=>match ρ c with
  |.iv (.bool t)=>.ret (if t then ρ a else ρ b)
  |_=>.fail
 |.alloc z=>(M.fresh slot).bind λ_=>(eE (slot+1) (z.map .iv)).bind λl=>(M.write slot (.cells l)).bind λ_=>.ret (.ref slot 0 0 0)
 |.box x=>(bW (ρ x)).bind λxs=>(M.fresh slot).bind λ_=>(eE (slot+1) xs).bind λl=>(M.write slot (.cells l)).bind λ_=>.ret (.ref slot 0 0 0)
 |.build z ps=>(M.aN (λp=>(bW (ρ p.2.2)).bind λl=>(M.ok (l.length==p.2.1&&Nat.ble (p.1+p.2.1) z.length)).bind λ_=>.ret (p.1,l)) ps).bind λl=>.ret (.agg (gn (z.map .iv) l))
 |.nZ e z n ps=>(M.ok (z.length==e)).bind λ_=>
   (M.aN (λp=>(bW (ρ p.2)).bind λxs=>(M.ok (xs.length==e&&Nat.blt p.1 n)).bind λ_=>(M.aN (fz true 8) xs).bind λl=>.ret (p.1,l)) ps).bind λl=>
   (M.fresh slot).bind λ_=>(M.write slot (.buf 0 e (ec (List.replicate n z) l))).bind λ_=>.ret (.own slot 0 n 0)
 |.load agg sz a=>load agg sz (ρ a)
 |.store sz a x=>store slot sz (ρ a) (ρ x)
 |.cU off x=>cU off (ρ x)
 |.fC agg off sz x=>fC agg off sz (ρ x)
 |.eD len e x i=>eD len e (ρ x) (ρ i)
 |.gL e x i=>gL e (ρ x) (ρ i)
 |.eP agg len e x i=>eP agg len e (ρ x) (ρ i)
 |.fK x i=>fK (ρ x) (ρ i)
 |.bin op q x y=>(M.lift (bin op q (ρ x) (ρ y))).bind λv=>.ret (.iv v)
 |.pU neg qs x y=>match ρ x,ρ y with
  |.agg xs,.agg ys=>(M.lift (eqs qs xs ys)).bind λb=>.ret (.iv (.bool (if neg then !b else b)))
  |_,_=>.fail
 |.un op x=>(M.lift (un op (ρ x))).bind λv=>.ret (.iv v)
 |.qT k x=>(idx (ρ x)).bind λn=>.ret (.iv (.int k (k.wrap n)))
 |.tJ x=>match ρ x with
  |.iv (.str s)=>.ret (.iv (.str s))
  |_=>.fail
 |.gM e x lo hi=>gM e (ρ x) (lo.map ρ) (hi.map ρ)
 |.fL x lo hi=>fL (ρ x) (lo.map ρ) (hi.map ρ)
 |.lh e x=>lh e (ρ x)
 |.ko e z x=>ko e z (ρ x)
 |.len str x=>len str (ρ x)
 |.app e x y=>app e slot (ρ x) (ρ y)
 |.mn x ys=>match ρ x with
  |.iv (.int k a)=>(M.lift (mT a (ys.map ρ) k)).bind λn=>.ret (.iv (.int k n))
  |_=>.fail
 |.mx x ys=>match ρ x with
  |.iv (.int k a)=>(M.lift (od a (ys.map ρ) k)).bind λn=>.ret (.iv (.int k n))
  |_=>.fail
 |.ext x i=>match ρ x with
  |.aR vs=>M.lift vs[i]?
  |_=>.fail
 |.nE x=>match ρ x with
  |.ref id ai i j=>(M.look id).bind λo=>(M.ok (valid o ai i)).bind λ_=>.ret (.ref id ai i j)
  |.iv (.ptr cs)=>.ret (.iv (.ptr cs))
  |.iv (.fn f cs)=>.ret (.iv (.fn f cs))
  |.bJ f cs=>.ret (.bJ f cs)
  |_=>.fail
 |.oj f ay=>.ret (.bJ f (ay.map ρ))
 |.call mode f args=>match mode with
  |0=>fc call (ρ f) (args.map ρ)
  |1=>xR call (ρ f) (args.map ρ)
  |2=>xS call slot (ρ f) (args.map ρ)
  |4=>xU call slot (ρ f) (args.map ρ)
  |_=>gN call (ρ f) (args.map ρ)
 |.sZ x=>(elems 1 (ρ x)).bind λys=>(M.lift (bytesOf ys)).bind λb=>.ret (.iv (.str (ql b)))
 |.s7=>(M.fresh slot).bind λ_=>(M.write slot (.map [])).bind λ_=>.ret (.ref slot 0 0 0)
 |.gB ok agg qs z m k=>gB ok agg qs z (ρ m) (ρ k)
 |.gC qs m k v=>gC qs (ρ m) (ρ k) (ρ v)
 |.gD qs m k=>gD qs (ρ m) (ρ k)
 |.om m=>(du (ρ m)).bind λx=>.ret (.iv (.int .i64 x.2.length))
def bK (fr:Fr):Option (Nat×Bool)->Option Bool
 |none=>some true
 |some (t,b)=>match get fr t with
  |some (.iv (.bool c))=>some (c==b)
  |some (.aR [])=>some false
  |_=>none
def bj (fr:Fr) (d:Option Nat) (v:AV):Fr:=match d with
 |some d=>set fr d v
 |none=>fr
def step (call:Nat->List AV->Hp->Option (AV×Hp)) (slot:Nat) (o:ax) (s:St):Option St:=
 match bK s.fr o.gd with
 |some true=>match(bn call slot (ev s.fr) o.op).run s.hp with
  |some (v,h)=>some { s with fr:=bj s.fr o.dst v,hp:=h }
  |none=>none
 |some false=>some { s with fr:=bj s.fr o.dst (.aR []) }
 |none=>none
def bz (call:Nat->List AV->Hp->Option (AV×Hp)) (slot:Nat) (o:ax) (s:St):List Nat×List Nat:=
 match bK s.fr o.gd with
 |some true=>(bn call slot (ev s.fr) o.op).bA s.hp
 |_=>([],[])
def aW (call:Nat->List AV->Hp->Option (AV×Hp)):List ax->Nat->St->Option St
 |[],_,s=>some s
 |o::r,slot,s=>match step call slot o s with
  |some s'=>aW call r (slot+64) s'
  |none=>none
def bE (call:Nat->List AV->Hp->Option (AV×Hp)):List ax->Nat->St->List (List Nat×List Nat)
 |[],_,_=>[]
 |o::r,slot,s=>bz call slot o s::match step call slot o s with
  |some s'=>bE call r (slot+64) s'
  |none=>[]
def meets (a b:List Nat):Bool:=a.any b.contains
def di (x y:List Nat×List Nat):Bool:=meets x.2 (y.1++y.2)||meets y.2 (x.1++x.2)
def ew (x:List Nat×List Nat) (i:Nat):List (List Nat×List Nat)->List (List Nat)->Bool
 |y::ys,c::cs=>(!di x y||c.contains i)&&ew x i ys cs
 |_,_=>true
def cJ:List (List Nat×List Nat)->Nat->List (List Nat)->Bool
 |x::xs,i,_::cs=>ew x i xs cs&&cJ xs (i+1) cs
 |_,_,_=>true
def gx (ops:List ax) (tM:List (List Nat×List Nat)):Bool:=tM.all (·.2.isEmpty)||cJ tM 0 (ops.map (·.iH))
def aY:List Nat->Fr->Fr
 |[],_=>[]
 |t::r,fr=>match get fr t with
  |some x=>(t,x)::aY r fr
  |none=>aY r fr
def aQ (call:Nat->List AV->Hp->Option (AV×Hp)) (draw:Bool) (ops:List ax) (aF:List Nat) (s:St):Option St:=
 match aW call ops s.nx s with
 |some s'=>if !draw||gx ops (bE call ops s.nx s) then some { fr:=aY aF s'.fr,hp:=s'.hp,nx:=s.nx+64*ops.length } else none
 |none=>none
inductive Ex where
 |norm
 |exit (id:Nat)
 |ret
def nrm (n0:Nat) (h:Hp):Nat->AV->AV
 |0,_=>.undef
 |d+1,a=>match a with
  |.iv x=>.iv x
  |.undef=>.undef
  |.agg cs=>.agg (cs.map (nrm n0 h d))
  |.aR vs=>.aR (vs.map (nrm n0 h d))
  |.own id o n ai=>if id<1000 then .own id o n ai else if id<n0 then(match get h id with
   |some (.buf v _ _) | some (.bb v _ _)=>if v=ai then .own id o n 0 else .undef
   |_=>.undef) else .undef
  |.ref id ai i j=>if id<1000 then .ref id ai i j else if id<n0 then(match get h id with
   |some (.buf v _ _) | some (.bb v _ _)=>if v=ai then .ref id 0 i j else .undef
   |some (.cells _) | some (.map _)=>.ref id ai i j
   |none=>.undef) else .undef
  |.bJ f ay=>.bJ f (ay.map (nrm n0 h d))
def fM (n0:Nat) (h:Hp) (id:Nat):Ob->Ob
 |.cells cs=>.cells (cs.map (nrm n0 h 8))
 |.buf v e es=>.buf (if id<1000 then v else 0) e es
 |.bb v e es=>.bb (if id<1000 then v else 0) e es
 |.map aU=>.map (aU.map λp=>(nrm n0 h 8 p.1,nrm n0 h 8 p.2))
def again (aF:List Nat) (n0:Nat) (s:St):St:=
 { fr:=(aY aF s.fr).map λp=>(p.1,nrm n0 s.hp 8 p.2),hp:=(s.hp.filter λp=>decide (p.1<1000)||decide (p.1<n0)).map λp=>(p.1,fM n0 s.hp p.1 p.2),nx:=n0 }
def iter (f:St->Option (Ex×St)) (aF:List Nat) (n0:Nat):Nat->St->Option (Ex×St)
 |0,_=>none
 |m+1,s=>match f s with
  |some (.norm,s')=>iter f aF n0 m (again aF n0 s')
  |r=>r
def aD (call:Nat->List AV->Hp->Option (AV×Hp)) (n:Nat):IC->St->Option (Ex×St)
 |.skip,s=>some (.norm,s)
 |.gm draw ops aF,s=>(aQ call draw ops aF s).map λs'=>(.norm,s')
 |.seq a b,s=>match aD call n a s with
  |some (.norm,s')=>aD call n b s'
  |r=>r
 |.cond c a b,s=>match ev s.fr c with
  |.iv (.bool t)=>if t then aD call n a s else aD call n b s
  |_=>none
 |.block id b,s=>match aD call n b s with
  |some (.exit i,s')=>if i=id then some (.norm,s') else some (.exit i,s')
  |r=>r
 |.loop aF b,s=>iter (aD call n b) aF s.nx n { s with fr:=aY aF s.fr }
 |.exit id,s=>some (.exit id,s)
 |.ret,s=>some (.ret,s)
def wG:AV->M AV
 |.own id o n v=>(M.look id).bind fun
  |.buf v' _ _=>(M.ok (v'==v)).bind λ_=>.ret (.own id o n v)
  |.bb v' e es=>(M.ok (v'==v)).bind λ_=>.ret (.iv (.sl e ((es.drop o).take n)))
  |.cells _=>.fail
  |.map _=>.fail
 |a=>eu true a
def jX (fr:Fr):dY->M AV
 |.t n=>wG (ev fr (.t n))
 |.cell n agg sz=>(load agg sz (ev fr (.t n))).bind wG
 |.aF n=>.ret (ev fr (.t n))
 |.wE n agg sz=>load agg sz (ev fr (.t n))
def dB (fr:Fr):List dY->M AV
 |[r]=>jX fr r
 |rs=>(M.aN (jX fr) rs).bind λl=>.ret (.aR l)
def params:List AV->Nat->Fr
 |[],_=>[]
 |a::r,i=>(i,a)::params r (i+1)
def tN (e:Nat):List AV->M AV
 |[.iv (.sl e' es)]=>(M.ok (e'==e&&roomy es.length)).bind λ_=>(M.fresh 1000).bind λ_=>(M.write 1000 (.buf 0 e [])).bind λ_=>(M.write 1000 (.buf 1 e es)).bind λ_=>.ret (.own 1000 0 es.length 1)
 |_=>.fail
def Gi:List IV->Option (Int×Int)
 |[.int .i64 a,.int .i64 b]=>some (a,b)
 |_=>none
def Gj:List IV->Option ByteArray
 |[.str s]=>some s
 |_=>none
def jY {α β:Type} (f:α->Option β):List α->Option (List β)
 |[]=>some []
 |x::l=>match f x,jY f l with
  |some y,some r=>some (y::r)
  |_,_=>none
def I9 (p:Int×Int):List IV:=[.int .i64 p.1,.int .i64 p.2]
def Ja (s:ByteArray):List IV:=[.str s]
def Gk (x y:Int×Int):Bool:=decide (x.1<y.1)
def EV (l:List (Int×Int)):List (Int×Int):=(Sort.pdq Gk l.toArray 0 l.length (Lib.bitLen l.length) true true).toList
def EW (l:List ByteArray):List ByteArray:=((l.map (·.data.toList)).mergeSort λx y=>decide (x<=y)).map λb=>⟨b.toArray⟩
def many (n m:Nat):Bool:=n==m&&Nat.blt 12 n&&roomy n
def zK:List IV->Option Int
 |[.int .i64 a]=>some a
 |_=>none
def qU (n:Int):List IV:=[.int .i64 n]
def sj (n:Int):List Int->List Int
 |[]=>[n]
 |m::l=>if n<=m then n::m::l else m::sj n l
def ma (l:List Int):List Int:=l.foldr sj []
def xV (id n ai:Nat) (hp:Hp):Option (AV×Hp):=
 match get hp id with
 |some (.buf v e es)=>if v==ai&&e==1&&n==es.length&&Nat.blt 0 n&&roomy n then match jY zK es with
  |some l=>some (.aR [],set hp id (.buf v 1 ((ma l).map qU)))
  |none=>none
  else none
 |_=>none
def qV (q:Nat) (args:List AV) (hp:Hp):Option (AV×Hp):=
 match args with
 |[.own id 0 n ai]=>if q==1000001 then xV id n ai hp else match get hp id with
  |some (.buf v e es)=>if q==1000000&&v==ai&&e==1&&many n es.length then match jY Gj es with
   |some l=>some (.aR [],set hp id (.buf v 1 ((EW l).map Ja)))
   |none=>none
   else none
  |_=>none
 |[.own id 0 n ai,.iv (.fn c [])]=>match get hp id with
  |some (.buf v e es)=>if q==2000000+c&&v==ai&&e==2&&many n es.length then match jY Gi es with
   |some l=>some (.aR [],set hp id (.buf v 2 ((EV l).map I9)))
   |none=>none
   else none
  |_=>none
 |_=>none
def bg (prog:Nat->Option an):Nat->Nat->List AV->Hp->Option (AV×Hp)
 |0,_,_,_=>none
 |k+1,g,args,hp=>match prog g with
  |none=>none
  |some fn=>match fn.cl with
   |some p=>if Nat.blt p.1 1000000 then(tN p.1 args).run hp else match qV p.1 args hp with
    |some r=>some r
    |none=>if args.length=fn.np then
     match aD (bg prog k) k fn.body ⟨params args 0,hp,1000⟩with
     |some (.norm,s) | some (.ret,s)=>(dB s.fr fn.res).run s.hp
     |_=>none
    else none
   |none=>if args.length=fn.np then
    match aD (bg prog k) k fn.body ⟨params args 0,hp,1000⟩with
    |some (.norm,s) | some (.ret,s)=>(dB s.fr fn.res).run s.hp
    |_=>none
   else none
end al
namespace al
open Go
def EX:List (Nat×Nat):=[(708,0),(316,1)]
def EY:List (Nat×Nat):=[(535,0),(227,1),(83,4),(68,2),(67,3),(19,16),(9,19),(8,7),(6,18),(2,10)]
def EZ:List (Nat×Nat):=[(208,0),(141,1),(94,2),(75,3),(73,5),(64,31),(47,4),(47,6),(39,7),(31,8),(24,9),(24,11),(22,10),(22,14),(18,12),(13,13),(12,16),(11,18),(9,20),(8,15),(8,17),(7,19),(5,25),(4,22),(3,21),(3,26),(3,27),(3,29),(3,30),(2,23),(1,24)]
def E0:List (Nat×Nat):=[(795,1),(229,0)]
def E1:List (Nat×Nat):=[(955,0),(69,1)]
def E3:List (Nat×Nat):=[(788,1),(236,0)]
def E4:List (Nat×Nat):=[(1023,0),(1,1)]
def tB:List (Nat×Nat):=[(1024,1)]
def nF:List (Nat×Nat):=[(482,1),(328,2),(106,3),(56,4),(33,0),(17,5),(2,6)]
def E5:List (Nat×Nat):=[(882,0),(124,2),(18,3)]
def Cd:List (Nat×Nat):=[(512,1),(485,0),(27,5)]
def Ce:List (Nat×Nat):=[(132,4),(107,6),(105,2),(87,5),(76,7),(72,8),(71,31),(58,3),(39,9),(36,10),(36,11),(26,12),(24,13),(18,0),(18,14),(17,15),(15,16),(12,1),(12,17),(12,18),(7,19),(7,20),(7,21),(6,26),(6,29),(4,22),(4,27),(3,23),(3,25),(3,30),(1,24)]
def Cf:List (Nat×Nat):=[(990,0),(25,1),(9,2)]
def Cg:List (Nat×Nat):=[(609,0),(179,8),(91,1),(77,2),(28,3),(13,4),(13,5),(9,6),(5,7)]
def aE:List (Nat×Nat):=[(530,1),(146,0),(129,7),(102,2),(45,3),(33,4),(22,5),(17,6)]
def Ch:List (Nat×Nat):=[(279,0),(225,1),(225,2),(92,3),(24,4),(22,5),(19,6),(19,7),(14,8),(14,9),(12,10),(10,11),(7,12),(7,13),(5,14),(5,15),(5,16),(2,17),(2,18),(2,19),(2,20),(2,21),(2,22),(2,23),(2,24),(2,25),(2,26),(2,27),(2,28),(2,29),(2,30),(2,31),(2,32),(2,33),(2,34),(2,35),(2,36)]
def Ci:List (Nat×Nat):=[(446,0),(242,1),(112,2),(93,3),(56,4),(37,5),(19,6),(19,7)]
def xW:List (Nat×Nat):=[(511,1),(173,2),(130,3),(67,0),(53,4),(37,5),(34,7),(19,6)]
def xX:List (Nat×Nat):=[(270,0),(224,1),(192,2),(107,3),(61,4),(50,5),(45,6),(28,7),(9,8),(9,9),(9,10),(7,11),(7,12),(4,13),(2,14)]
def xY:List (Nat×Nat):=[(992,0),(16,1),(16,2)]
def xZ:List (Nat×Nat):=[(646,0),(162,1),(108,2),(108,3)]
def mU:List (Nat×Nat):=[(497,1),(368,0),(66,2),(49,3),(13,13),(9,4),(9,5),(9,12),(4,6)]
def x4:List (Nat×Nat):=[(640,1),(384,0)]
def x5:List (Nat×Nat):=[(990,0),(34,1)]
def x6:List (Nat×Nat):=[(658,7),(212,0),(62,1),(27,5),(22,6),(21,2),(12,3),(10,4)]
def x7:List (Nat×Nat):=[(860,1),(70,2),(54,0),(25,3),(9,4),(6,7)]
def x8:List (Nat×Nat):=[(722,1),(102,4),(60,2),(56,3),(28,16),(22,7),(20,12),(8,14),(4,17),(2,18)]
def x9:List (Nat×Nat):=[(267,1),(255,0),(205,3),(144,2),(58,4),(55,6),(17,5),(8,7),(6,23),(3,8),(3,11),(3,24)]
def ya:List (Nat×Nat):=[(726,2),(116,3),(45,5),(38,14),(36,4),(26,7),(9,26),(7,16),(4,6),(4,24),(3,18),(3,30),(2,17),(1,8),(1,11),(1,20),(1,27),(1,31)]
def yb:List (Nat×Nat):=[(314,2),(191,0),(131,3),(63,10),(59,1),(47,6),(41,7),(40,9),(31,8),(30,5),(14,4),(8,22),(7,15),(7,21),(6,17),(6,18),(5,23),(3,25),(2,11),(2,12),(2,19),(2,27),(2,29),(1,20),(1,24),(1,30),(1,32),(1,33),(1,35),(1,36),(1,41),(1,43),(1,44),(1,47)]
def yc:List (Nat×Nat):=[(806,0),(142,2),(70,13),(6,11)]
def yd:List (Nat×Nat):=[(996,5),(21,4),(7,11)]
def ye:List (Nat×Nat):=[(830,4),(80,11),(58,5),(33,20),(14,6),(6,2),(3,42)]
def yf:List (Nat×Nat):=[(277,2),(131,9),(129,8),(107,3),(68,6),(58,5),(36,4),(36,16),(24,17),(22,11),(22,21),(18,7),(16,18),(10,0),(10,10),(10,15),(10,25),(8,1),(8,12),(6,19),(6,27),(4,35),(2,20),(2,29),(2,37),(2,48)]
def yg:List (Nat×Nat):=[(348,2),(219,0),(54,4),(50,1),(50,12),(49,3),(31,11),(30,13),(26,5),(21,15),(19,6),(15,7),(14,16),(14,19),(12,8),(11,18),(10,17),(9,10),(7,14),(5,20),(4,9),(3,23),(3,24),(3,28),(2,25),(1,22),(1,26),(1,29),(1,31),(1,32),(1,33),(1,34),(1,37),(1,38),(1,39),(1,40),(1,45),(1,46),(1,49),(1,50)]
def yh:List (Nat×Nat):=[(756,0),(268,2)]
def yi:List (Nat×Nat):=[(1004,0),(19,2),(1,1)]
def yj:List (Nat×Nat):=[(941,1),(23,7),(20,3),(20,4),(10,5),(7,6),(3,0)]
def qW:List (Nat×Nat):=[(447,0),(265,1),(164,2),(85,3),(32,4),(13,5),(6,6),(6,8),(3,7),(3,9)]
def yl:List (Nat×Nat):=[(378,0),(314,1),(74,2),(73,3),(68,4),(51,5),(26,6),(24,7),(14,8),(1,9),(1,10)]
def qX:List (Nat×Nat):=[(362,4),(345,2),(115,6),(52,7),(46,3),(46,5),(29,8),(23,0),(6,9)]
def ym:List (Nat×Nat):=[(943,0),(81,1)]
def yn:List (Nat×Nat):=[(424,2),(388,1),(135,3),(35,4),(24,0),(12,5),(6,6)]
def yo:List (Nat×Nat):=[(810,1),(107,0),(83,2),(18,3),(6,4)]
def Cj:List (Nat×Nat):=[(283,0),(186,1),(148,2),(68,3),(54,4),(35,5),(26,6),(25,7),(21,8),(21,9),(15,10),(13,11),(12,12),(12,13),(10,14),(8,15),(8,16),(7,17),(7,18),(7,19),(7,20),(5,21),(5,22),(3,23),(3,24),(3,25),(2,26),(2,27),(2,28),(2,29),(2,30),(2,31),(2,32),(2,33),(2,34),(2,35),(2,36),(2,37),(2,38),(2,39),(2,40),(2,41)]
def Ck:List (Nat×Nat):=[(158,1),(153,0),(71,2),(63,3),(55,4),(55,5),(47,6),(39,7),(39,8),(32,9),(24,10),(24,11),(24,12),(16,13),(16,14),(16,15),(16,16),(16,17),(16,18),(16,19),(16,20),(16,21),(8,22),(8,23),(8,24),(8,25),(8,26),(8,27),(8,28),(8,29),(8,30),(8,31),(8,32),(8,33)]
def wH (n:Nat):List Char->Nat
 |[]=>n
 |c::l=>wH (n*64+(if c.toNat<92 then c.toNat - 58 else c.toNat - 59)) l
def tC (_:Prop):Prop:=True
structure tD where
 s:Nat
 m:List Nat
 l:List Nat
 d:List Nat
 c:List (Nat×Nat)
def bk (α:Type):=Nat->tD->α×Nat×tD
section
variable {α β γ δ ε ζ:Type}
def cN (x:α):bk α:=λn s=>(x,n,s)
def bq (x:bk α) (f:α->bk β):bk β:=λn s=>match x n s with
 |(a,n,s)=>f a n s
def bS (f:α->β) (x:bk α):bk β:=λn s=>match x n s with
 |(a,n,s)=>(f a,n,s)
def b7 (f:α->β->γ) (x:bk α) (y:bk β):bk γ:=bq x λa=>bS (f a) y
def dU (f:α->β->γ->δ) (x:bk α) (y:bk β) (z:bk γ):bk δ:=bq x λa=>b7 (f a) y z
def ff (f:α->β->γ->δ->ε) (x:bk α) (y:bk β) (z:bk γ) (w:bk δ):bk ε:=bq x λa=>dU (f a) y z w
def ju (x:bk α):Nat->bk (List α)
 |0=>cN []
 |k+1=>b7 .cons x (ju x k)
end
def A7:List (Nat×Nat)->Nat->Nat->tD->Nat×Nat×tD
 |(f,y)::t,r,n,s=>if r<f then(y,f*n+r,s) else A7 t (r - f) n s
 |[],r,n,s=>(0,n+r,s)
def cD (t:List (Nat×Nat)):bk Nat:=λn s=>A7 t (n % 1024) (n / 1024) s
def qY (k:Nat):bk Nat:=λn s=>(n % k,n / k,s)
def cp (e:Nat) (t:List (Nat×Nat)):bk Nat:=bq (cD t) λx=>if x=e then bS (λy=>x+y) (qY 1024) else cN x
def A8 (v:Nat):bk Nat:=λn s=>(v,n,{ s with m:=v::s.m })
def wI (x:Nat):bk Nat:=λn s=>(s.s - x,n,s)
def ig:bk Bool:=bS (λx=>x==1) (cD EX)
def cE:bk Nat:=(cp 19 EY)
def zL:bk Nat:=(cp 31 EZ)
def A9 (x:Nat):List Nat->List Nat
 |[]=>[x]
 |y::l=>if x<y then x::y::l else if x=y then y::l else y::A9 x l
def wJ (l d:List Nat):List Nat->bk (List Nat)
 |[]=>cN []
 |x::c=>bq (cD (if l.contains x then E0 else if d.head?==some x then E3 else E1)) λk=>if k=1 then bS (λr=>x::r) (wJ l d c) else wJ l d c
def pC:bk (List Nat):=bq (cD E4) λe=>bq (if e=0 then λn s=>wJ s.l s.d (s.d.foldl (λl x=>A9 x l) s.l) n s else bq (cp 1 tB) (ju (cp 1 tB))) λr n s=>(r,n,{ s with l:=r })
def wK:bk (List Nat):=bq (cp 6 nF) (ju (cp 3 E5))
def Ba:bk (Option (Nat×Bool)):=bq (cD Cd) λx=>if x=0 then cN none else b7 (λv b=>some (v,b)) (if x<5 then wI x else zL) ig
def Bb (x:Nat):bk (Option Nat):=if x=0 then λn s=>(some s.s,n,s) else if x=1 then cN none else bS some (cp 31 Ce)
def Bc (c:List (Nat×Nat)):List Nat->Nat
 |[]=>0
 |v::m=>((c.lookup v).getD 0) ||| Bc c m
def Bd:Nat->List Nat->List Nat
 |0,l=>l
 |n+1,l=>Bd n (n::l)
def wL:Nat->Nat->Nat->List Nat->List Nat
 |0,_,_,l=>l
 |i+1,w,a,l=>if a+1=w then Bd (i+1) l else if w / 2<=a then wL i (w / 2) (a - w / 2) (i::l) else wL i (w / 2) a l
def E6 (w:Nat):bk Nat:=bq (cD Cf) λk=>if k=0 then λn s=>(Bc s.c s.m,n,s) else if k=1 then cN (w - 1) else qY w
def Be (dr:Bool) (i w:Nat) (d:Option Nat) (x:Nat):bk (List Nat):=bq (if dr then E6 w else cN 0) λa n s=>(if a=0 then[] else wL i w a [],n,match d with
  |some v=>⟨if x=0 then s.s+1 else s.s,[],s.l,if s.d.contains v then s.d else v::s.d,if dr then(v,a+w)::s.c else[]⟩
  |none=>s)
def tE:bk Unit:=bq (cD Cg) λx=>bq (if x<8 then cN 0 else qY 1024) λr n s=>((),n,⟨if x<8 then s.s+x else r,[],s.l,[],[]⟩)
def Bf (k d:Nat):Nat:=if k=2 then(if d=0 then 1 else 2) else if k=10 then 3 else if k=5 then 4 else if k=4 then 5 else 6
def wM:Nat->IV
 |0=>.int .i64 1
 |1=>.bool false
 |2=>.int .i64 0
 |3=>.bool true
 |4=>.int .i64 2
 |5=>.int .i64 8
 |6=>.int .i64 (-1)
 |7=>.int .i64 4
 |8=>.int .i64 100
 |9=>.int .i64 20
 |10=>.int .i64 9223372036854775807
 |11=>.int .i64 (-9223372036854775808)
 |12=>.int .i64 12
 |13=>.int .u64 1
 |14=>.int .i64 40
 |15=>.int .i64 6
 |16=>.str ⟨#[]⟩
 |17=>.fn 21 []
 |18=>.fn 415 []
 |19=>.fn 51 []
 |20=>.fn 7 []
 |21=>.int .i64 10
 |22=>.int .i64 1000000
 |23=>.int .i64 16
 |24=>.int .i64 3
 |25=>.int .i64 32
 |26=>.int .u64 0
 |27=>.int .u64 16
 |28=>.int .u64 18446744073709551615
 |29=>.int .u64 256
 |30=>.int .u64 32
 |31=>.int .u64 4294967296
 |32=>.int .u64 65536
 |33=>.int .u64 8
 |34=>.str ⟨#[0,1,2,2,3,3,3,3,4,4,4,4,4,4,4,4,5,5,5,5,5,5,5,5,5,5,5,5,5,5,5,5,6,6,6,6,6,6,6,6,6,6,6,6,6,6,6,6,6,6,6,6,6,6,6,6,6,6,6,6,6,6,6,6,7,7,7,7,7,7,7,7,7,7,7,7,7,7,7,7,7,7,7,7,7,7,7,7,7,7,7,7,7,7,7,7,7,7,7,7,7,7,7,7,7,7,7,7,7,7,7,7,7,7,7,7,7,7,7,7,7,7,7,7,7,7,7,7,8,8,8,8,8,8,8,8,8,8,8,8,8,8,8,8,8,8,8,8,8,8,8,8,8,8,8,8,8,8,8,8,8,8,8,8,8,8,8,8,8,8,8,8,8,8,8,8,8,8,8,8,8,8,8,8,8,8,8,8,8,8,8,8,8,8,8,8,8,8,8,8,8,8,8,8,8,8,8,8,8,8,8,8,8,8,8,8,8,8,8,8,8,8,8,8,8,8,8,8,8,8,8,8,8,8,8,8,8,8,8,8,8,8,8,8,8,8,8,8,8,8,8,8,8,8,8,8]⟩
 |35=>.str ⟨#[48,48,48,49,48,50,48,51,48,52,48,53,48,54,48,55,48,56,48,57,49,48,49,49,49,50,49,51,49,52,49,53,49,54,49,55,49,56,49,57,50,48,50,49,50,50,50,51,50,52,50,53,50,54,50,55,50,56,50,57,51,48,51,49,51,50,51,51,51,52,51,53,51,54,51,55,51,56,51,57,52,48,52,49,52,50,52,51,52,52,52,53,52,54,52,55,52,56,52,57,53,48,53,49,53,50,53,51,53,52,53,53,53,54,53,55,53,56,53,57,54,48,54,49,54,50,54,51,54,52,54,53,54,54,54,55,54,56,54,57,55,48,55,49,55,50,55,51,55,52,55,53,55,54,55,55,55,56,55,57,56,48,56,49,56,50,56,51,56,52,56,53,56,54,56,55,56,56,56,57,57,48,57,49,57,50,57,51,57,52,57,53,57,54,57,55,57,56,57,57]⟩
 |_=>.str ⟨#[48,49,50,51,52,53,54,55,56,57,97,98,99,100,101,102,103,104,105,106,107,108,109,110,111,112,113,114,115,116,117,118,119,120,121,122]⟩
def aZ (t:List (Nat×Nat)):bk aK:=bq (cD t) λx=>if x=0 then bS (λk=>.c (wM k)) (cD Ch) else bS .t (bq (if x<7 then wI x else zL) A8)
def wN:Nat->List IV
 |0=>[.bool false,.az 2,.bool false,.az 1]
 |1=>[.int .i64 0,.int .i64 0]
 |2=>[.int .i64 0]
 |3=>[.bool false,.az 2,.bool false,.az 1,.bool false,.az 2,.bool false,.az 1,.bool false,.az 2,.bool false,.az 1,.bool false,.az 2,.bool false,.az 1]
 |4=>[.str ⟨#[]⟩]
 |5=>[.int .i64 0,.int .i64 0,.str ⟨#[]⟩]
 |6=>[.int .i64 0,.az 16,.int .u64 0]
 |_=>[.junk]
def kP:bk (List IV):=bS wN (cD Ci)
def ln:bk (List aK):=bq (cp 6 nF) (ju (aZ xW))
def wO:Nat->BinOp
 |0=>.add
 |1=>.lss
 |2=>.eql
 |3=>.sub
 |4=>.gtr
 |5=>.neq
 |6=>.geq
 |7=>.leq
 |8=>.mul
 |9=>.or
 |10=>.quo
 |11=>.shl
 |12=>.shr
 |13=>.rem
 |_=>.and
def zM:bk BinOp:=bS wO (cD xX)
def wP:Nat->UnOp
 |0=>.not
 |1=>.neg
 |_=>.xor
def zN:bk UnOp:=bS wP (cD xY)
def wQ:Nat->IntKind
 |0=>.u64
 |1=>.u8
 |2=>.i64
 |_=>.u32
def tO:bk IntKind:=bS wQ (cD xZ)
def wR:bk (List (Nat×aK)):=bq (cp 6 nF) (ju (b7 .mk (cp 13 mU) (aZ aE)))
def wS:bk (List (Nat×Nat×aK)):=bq (cp 6 nF) (ju (b7 .mk (cp 13 mU) (b7 .mk (cp 13 mU) (aZ aE))))
def nG:bk (Option aK):=bq (cD x4) λx=>if x=0 then cN none else bS some (aZ aE)
def wT:bk aK:=bq (cD x5) λx=>if x=0 then bS (λf=>.c (.fn f [])) (qY 512) else aZ aE
def wU (d:Nat):Nat->bk js
 |2=>bS .l9 (aZ (if d=0 then x6 else x7))
 |3=>ff .bin zM cE (aZ aE) (aZ aE)
 |4=>dU .load ig (cp 18 x8) (aZ aE)
 |5=>b7 .cU (cp 24 x9) (aZ aE)
 |7=>dU .gL cE (aZ aE) (aZ aE)
 |8=>dU .call cE wT ln
 |9=>b7 .len ig (aZ aE)
 |10=>bS .nE (aZ aE)
 |11=>dU .store cE (aZ aE) (aZ aE)
 |12=>dU .pick (aZ aE) (aZ aE) (aZ aE)
 |13=>b7 .ext (aZ aE) cE
 |14=>bS .box (aZ aE)
 |15=>b7 .un zN (aZ aE)
 |16=>bS .alloc kP
 |17=>ff .nZ cE kP cE wR
 |18=>b7 .build kP wS
 |19=>dU .app cE (aZ aE) (aZ aE)
 |20=>ff .eD cE cE (aZ aE) (aZ aE)
 |22=>ff .gM cE (aZ aE) nG nG
 |23=>b7 .qT tO (aZ aE)
 |26=>bS .wD cE
 |27=>b7 .oj cE ln
 |28=>dU .ko cE kP (aZ aE)
 |29=>b7 .mx (aZ aE) ln
 |30=>bq ig λa=>ff (.eP a) cE cE (aZ aE) (aZ aE)
 |32=>b7 .mn (aZ aE) ln
 |37=>ff .pU ig wK (aZ aE) (aZ aE)
 |39=>dU .fL (aZ aE) nG nG
 |50=>b7 .fK (aZ aE) (aZ aE)
 |_=>cN default
def wV (p:Nat):List (Nat×Nat):=match p with
 |0=>ya
 |1=>yb
 |2=>yc
 |3=>yd
 |4=>ye
 |5=>yf
 |_=>yg
def kW (dr:Bool):Nat->Nat->Nat->Nat->Option (Nat×Bool)->bk (List ax)
 |0,_,_,_,_=>cN []
 |f+1,i,w,p,g=>bq (cD (wV p)) λk=>if k=0 then cN [] else if k=1 then bq Ba (kW dr f i w p) else
  bq (cD (if k=11\/k=28 then tB else if k=2 then yh else yi)) λd=>bq (Bb d) λe=>
  bq (λn s=>wU d k n { s with m:=match g with
   |some q=>[q.1]
   |none=>[] }) λo=>bq (Be dr i w e d) λa=>bS (λr=>⟨e,o,g,a⟩::r) (kW dr f (i+1) (w+w) (Bf k d) g)
def fG:Nat->bk IC
 |0=>cN .skip
 |f+1=>bq (cD yl) λx=>match x with
  |0=>b7 .seq (fG f) (fG f)
  |1=>bq tE λ_=>b7 (.gm false) (kW false 9999 0 1 0 none) pC
  |2=>bq (aZ yj) λc n s=>(λl=>bq (fG f) (λa n s=>bS (.cond c a) (fG f) n { s with l:=l }) n { s with l:=l }) (match c with
   |.t v=>s.l.filter (·!= v)
   |_=>s.l)
  |3=>cN .ret
  |4=>cN .skip
  |5=>b7 .block (cp 9 qW) (fG f)
  |6=>bS .exit (cp 9 qW)
  |7=>b7 .loop (λn s=>pC n { s with d:=[] }) (fG f)
  |8=>bq tE λ_=>b7 (.gm true) (kW true 9999 0 1 0 none) pC
  |9=>cN .skip
  |10=>cN .skip
  |_=>cN .skip
def wW:bk dY:=bq (cD ym) λx=>match x with
 |0=>bS .t (cp 9 qX)
 |_=>dU .cell (cp 9 qX) ig cE
def wX:bk an:=bq (cp 6 yn) λn=>bq (bq (cp 4 yo) (ju wW)) λr=>bS (λb=>⟨n,r,b,none⟩) λm s=>fG 9999 m ⟨n,[],List.range n,[],[]⟩
def ao {x:an} (s:String) (_:tC ((wX (wH 0 s.toList) ⟨0,[],[],[],[]⟩).1=x):=by
 refine(?f:?P->tC ?P) ?p
 case p=>set_option maxRecDepth 1000000 in conv=>lhs;cbv
 exact λ_=>trivial):an:=x
attribute [simp] ao
def F5:an:=ao ";pOGeirc_xVrmDGfUbIZwEO"
def Jb:an:=ao "rsNUn<gtFYS_?OTal[cBiTZWyFPMhNndRMfERbASE`MihxonJ_OQfn?_EONTtL:CX]XUyGARu=esIB@tMz:UTQcdSDrAFSl[BYw>VEIod=oYGqOUT;RqddjgCN[PUbZXpPkhpS<d<sVucIIfE;gCY[`Ykq;t]_hd?zi`DP`?YtCMsw>@Vyuc<UHSoCNVS^p=V"
def vU:an:=ao "<DbXIarCyk@df[NEGMArS=VPNJR>MAAtFh[pZLbzHIH[fxONymvym;FEjIkBb]UahDrUmRZgKhLeM_dtLtuPokweQdicvv"
def Jc:an:=ao "HL:[IHYkL^zEkgA[?]GSMHMtYniWE:@T_lA=n]R[ffbf]?A=kYuQJqDmm^zlP"
def Jd:an:=ao ";]xP_FEmExXe[rbnbzUTuUNMCV>VneCQHN?soikW^pUCNA];NEDIHb"
def Je:an:=ao "Jv^Nqzbkfg@Gb=]jZs>[fCSXGCD=c=crBvujIlH@bNmKDnFoB>ERhywSV?=<qGYz_n:DbdM;mx?GdmGEhtAg]YTrgtGTWMoN:@LE<YUSm:RpIkcJ_tOdtQ=>upMifmfR:AX^QkaF]SbsIQY>EXMt^izzFanwVlHpWs>[FfATPxaD_jSxk<AHuI;G=M"
def Jf:an:=ao ";;Im=RJ?yMn<s:FuO`owZoOJ`@dQc"
def Jg:an:=ao ">]YgYot:YYLx:LWyhvYUGOqfLsAZf"
def qZ:an:=ao "WHqlA`cPCjvk=N:GJHqXiHwZtyUFTn<aWbCn;e[lwT<Ytr:Aj?_TuLLYwSc^WcMsvcDynnnVdvdB]c>r`J=GkraLtndj]`vaw;;:ATXI:kx=pWXUrjTFL[^ER"
def Jh:an:=ao "BqUI?mscE?]kQzcPQhzaVM@^zYPklveEJAoG;tcoOM?_G<<[]adx<EMq_zXbEtxksiBfpccac@;;>p_nsoEDlYr];MmGLcU@"
def Ji:an:=ao "TlxLI?zwHzDpapUkMy@jzYe`ojD?X?LWqOLGPRnv^?L_E^soJtRbqnPi>BxsZwTtVmnP>[_dnax=k"
def Jj:an:=ao "i_NLkbAYoqlOBqXOcrY:dWETd<m]CkQrBti[KE;JNgecFpl=wCyu?GLoQlY?PuMD=TMckMCDnU"
def Jk:an:=ao ">cq=w^oj>;@nUPn?VPpACk]EYk<uc?lKMhGsvJGmBQFIEfTSuxm_CE`@^`@=?H;kybc`vwi>R`@nrAw@QYI:LXs<GNjzq;gGBfQBFJQnEF_[aDlfTO?QGV]yz:Pp_k]EE=W@YnXle?REY_jrbTQIH=iwbAhF@bypP=iYisilIg[vi"
def Jl:an:=⟨1,[.t 2],
  .skip,some (2,[.int .i64 0,.int .i64 0])⟩
def Jm:an:=ao "=tMjiehPims:HL<kFFQH_RSQFKsjlzVMMj:=:=TIFXGpFddPiZc_PY<GFddXk"
def Jn:an:=ao "DkN`=F;O<oDbL_LFlE[fa]a`wTnNu"
def Jo:an:=ao ">U`]bD?p]pdT_JzbakAtwdOSnOTikSkIas?kkZXNY`yXX^DfzQ"
def Jp:an:=ao "FPDxthcEOkbDUVUYU:wyHuNxRbtGv^PCIDe_xqjmQ_mlda`^Y<]cueYtbtEO"
def Jq:an:=ao "FPDxthcEOkbDUVUYU:wyHuNvxhWDJDfNQpK=miRgPoyOOBDCmjsacNU[FVTo"
def Jr:an:=ao "WtGemcZ=tpMQ;wBnm]cVpL:;i>FFcP]NgnNzaRamsnXC<GjRvrrvUWOTL`[lGTgw>S@CsBki=<TMrz>TblC]hLVnTUIceHf:V:tmZUKG`HNDrlmtMGS^U@FJFq[iDD>_vicOX]SamUob?sUU"
def Js:an:=ao ";QIW;khqVVzQYkgoKV[S@zW?Lr"
def Jt:an:=ao "eFZNu[w:^]kvmNYWyA[q"
def Ju:an:=ao "LRg_RWGfbY^?TUKla;O[tDedkGB]RKZbgE[yAT;VW^kivSw=R_aHLo::;`?S;oSZ^]KomR>=_mGus?]"
def Jv:an:=ao "gvDqIzJlX`jINgoG"
def Jw:an:=⟨1,[.t 2],
  .skip,some (1,[.str ⟨#[]⟩])⟩
def Jx:an:=ao "?ea=gptM];WhlZQVA@u>uCrq"
def Jy:an:=ao ";CPfUxKWH?vmbDDdVF:Krx@ijT[h_<IKawnVAjYHt@pKvEplAL>BS:n=AayFv;hni_d@uo=sFy=gYHSjLjIu[eevRruSPkBTUT`aEVlgEfKfjz`GppcwS_jrAcxhf?cDyqAWsJFhtH?af?wWn<]Ehn`zNiaz"
def Jz:an:=ao ";IESHGZFll=cKpTsOqzwLG[qmjX"
def JA:an:=ao "<nxBpWteWM[xKrDXXPqKKFk^bqqa<jibuOpRqs]mDUILGzLhtB>yA@aFoMBHht:>SmAACxl<[_UsLh>cHlhzSfr^yjgJDomWstGoMN[`aKWfo<oLeJ<V:o_jOd[cG[;>mIhjxzaOL:oGFsJfHzVFUkv_Bed;wdkoeheMvqmogJeqQuTAp>?XeJvSSexpL_oQweCSJuuW@O_RRS_NNkCBEfnx]Z<_RedM"
def JB:an:=ao "?jIfuuLC:K;DwvPsQEdNkjAGv[`@^<MhfPQ<?P:uDEqIyD;rxZA]JOAW`ul"
def JC:an:=ao "Uk[f=jfSd`EbeObraukxUEk<xQA@o`A`KZSCRGztSongeb?LsWbB@Ytt^>^RG_];hWpK_Ia[]=R[o[O<SrdRGsmk`^xC]YiwSef?ezb`LcLPLbnv`?hB=bEMPLY<dihaY[dFSGayzJeuwf^Dytp<NUAkAgiSjgdrnNq;uTwMkL[fPTKzNp:j[NrNNW`Vzcn`OluEGGo`WYgEFhMeOXRdvehVbIbP^Jc^mS_vCPS:ueJEZqer<xIcVCbbq>fXgvJ=uBRmLBUj<PAsRGW<NrsN@FfADXPezqY?aOTBUdlG_ehGrCANwL<ugVxf;qpQstQON:IhB[vApCheIE@aKu<oA=<<>[MqxXvuf>AQ=OH`UwIr"
def JD:an:=ao "QGfFdUsphekiZD;UW=ZFT@vt"
def JE:an:=ao ";DVN:rcmhl?Ac"
def JF:an:=ao "FXaWsoBAx;cmEHZ;qYZ]o=QK@IAKgRxJEOYjNE_:?uQnVGo`yN@"
def JG:an:=ao "?zN[k_gNpFEcMxNbf@hnClokYW_:jGSJtFG<bzCCLE<Hlf_hs<wNfpnc??lJ_`Nar:>qoMwDMhAKqUzahegKiQAjHp>OljC_EWhxbqDmszeC_SkgFY>CL;x=MkBwGZx;<bGt[avoszX^HoyatnfuaKeizm>HFrmDLzbC>TNelU<>BzuKPOnzx@;@Y[FMyc=UqR?twA^T;k<F@Hp]yiW_NzdaDd`wB<C>ji_:BhD^xm:Qbpr]D>Ff>XYMorCxr]<ftj^`VQvvgRFhKzDELkMtkEH]OAK]enFPu>sf[UMJ]cDB`dALXLFyVOJgdNrzt@gNzV@I?"
def JH:an:=ao ">M_sGT;UM:wxYlJB_=YJn?Li]fkg=zABrDXY@LUQsMzS<"
def JI:an:=ao "[Lk[VHxHtNY;OH]_Hbjj:<NDaDZMCmuiU;FyWsP_>]BJ[JpcoLGbOiplbngpPltRZ>MbG`IAkqBkWSfGaNO=cM?SXT<xTra>m:;Fr?bABcn@g?qulISqyaMGo<vfdcR@DI:"
def JJ:an:=ao "Wj;PcIW@wkLkhZh`vZwfCJquyPAqYVCjL;fxwP^YulBxxnpPhrIGjuB=Bu^RiB`j@yDlVGp=jH<nuTU"
def JK:an:=ao ";>zNPsCpUnIzrqVNtQc?tDL=<dmiaL[xfV`UQ`=gns]sVBk_CyN:gJTqQhVpp?ocMSZVsoEyr<N;e[bU?=EMeTKT<A_IMX>KMqjczOBzAfLwaBBG_RPQFgu"
def Gl:an:=ao ";XYfwci_Kk:NPe>xV]F[>fvXxq?T]eoND;[j:;>NmM_arjH[GDaM=iX<vm;eIV]RPRgmDEm@CIYx<juaqoescugmRkg[NYtaeI:cqRLGou=<eweJUXHhPHPbrdfOZhtmK@C?`kCgACH`>BNVWXrFMkRTLiuYhj:iwvH"
def Gm:an:=ao "Km]P>qdqTG]fRrM"
def Gn:an:=ao ";A]]OntuFKHtNfUGymPleqPHh;esl[`JyU@yIBWiic=CtGVixQPdgKThW_qNpilEMi]tgzpnxihmbp=Cy^W[nDiYkwt;VrzfR@Rx?TvA_AWWG]xjV_BEiXsZpwuJEO"
def Gp:an:=ao "FHIliNHlnKECM`QXQ>>dIYAYO;uWSeS<ECpeffQs<@FtjvlagTKED"
def Gq:an:=ao ";zz[eeWZKU`Fy<<WehPWHFuFMRzHHmLr"
def Gr:an:=ao "n]ldXcpLTss;Vb>fMgEAKceZluzH`@nSgUh:vCqOOQV"
def zO:an:=⟨1,[.t 2],
  .skip,some (4,[.bool false,.az 2,.bool false,.az 1])⟩
def Gs:an:=ao "_fOhycib<xtM`?Ni@:Bvy^PrP:<]=jam:HTUX;OGogiN>ha[pDwa^<ozbGB>TQGHIceBPeSuLheAxj=LpgVE<:U[fol=mdzjccUEwAMODlzSdXk^IxmxmgI<UDYkOyIBWYNZUSWARtd>wnylsCRR[gspPBx"
def Gt:an:=ao "FL@K?tMtJIrCrNJh]qrPMrfoR@_RCfvRUMbdNa;qh=jWe]O]ojTBKyDVkinKSyYiDlo^<SyBSF=NxVEZQA`OoTbpHun^<pdJnE<Yo=Ddry:I"
def Gu:an:=ao ";QL=WS[xKKe[^PJ?OHkTGTryofnNhHQRcAbxxQXzO?fEX<fsySd=t"
def zP:an:=ao "?ea=gpulGOZwX>[IoPiG<GBc"

def Gv:an:=ao "In?OWXqW<:>lqC;hL_TChFI?VzTnClVXl`rg[O@tmWohXZDIJHZufquMdlbF<Fo=JxZCm?WUq@o>xTPsbH;ToWllt=^Aim<"
def Gw:an:=ao "=WFJG:gQ^ktWlw[m_l=BbxIrVdknEkJ>=cadp"
def Gx:an:=ao "LUFm>HTDzB`[dnypLh_R"
def Gy:an:=ao "N]y]u<h=`@I>t:gqq:_"
def Gz:an:=ao "?m_VRJe=BBY:[e[SyI^eJPSi]uPBJgeHKmqNH"
def GC:an:=ao "h<OkGSXl;HTJS`?iWiqPz=dKT]okUWa<xInkwQtn`vxUJhnazCnwrcNmETUrL]Ke=]vlqcpstio>fXSgmcM;_"
def GD:an:=ao "?NiHwWQdXVgcFzlmAzq`lBkM[_qvwqN"
def GF:an:=ao "P>:w[[OIOVqCKghhsxAD>Yv>L;XxmWM:uVR^Zp;XVY:W=Ax"
def GG:an:=ao "?bbUpL;n_DdFUwG>LYMg]BYOCeISWsB:SR@l]adO:^v=[xH`Ic?`hB=^ND_uNOaTqL[uYbyk;wBIo`Wq`MvmSXCEXOXDn]>KhcM<@q]iUd"
def GH:an:=ao "=PLiqhyHDuiy?[pUa:Vvg]OOmdSN]@FXmEZlpvBMifqgOacKaKnaWrkd`Ti;mTr;<edW?dWUaHCFEoeZDG>IXbewic`MIj`[oGh@;RKCp_Aep^`?ULFuUe@kaHBDNyq_`hktiw[obV[^<r=MqkWbenwN^dkkq`YcFGFy=OVtPovVVANhWkRcI@HTtZM=nvwOOyBA"
def GI:an:=ao "QXpGRYQK_nNkiDNG=v`?Cf;:NsYCIrEq`pdCk?N`Onl;hcxzkYvSNVwWWq]dQnBuUmBKvT=yNCEx:AsbCxdskEdqyG_nBYoDFHLZ^n[ncoN"
def GJ:an:=ao "j=j<zNzknO<V:QclAb>oTwxTNHvDcA"
def GK:an:=ao "RijLVkD@LlJBYln:NtyEOiJoTMV"
def GL:an:=ao "C@S`[Sko[bdf`R?]F=U^PATaLyWHifYl:e;mp<Dm[VzVtrqFRcAcdnlZap`RF"
def GM:an:=ao "A]hCd`=^lnDxm>wPH;Ep=VAKHj?[kCoTkXQxp]wJSCpnKOast;LYQZjuQplg>qolFpgITK>ldbg<uqHxMfcE"
def GN:an:=ao "gvDqIzJozwsWWkLO"
def GO:an:=ao "gvDqIzJozwsWWkLR"
def GP:an:=ao "gvDqIzJozwsWWkLS"
def GQ:an:=ao "<pA=ya_rBdW<Tw__eW;Iz<x]RMMKKYauc_qDyHCYetaViGB<qMRZk"
def GR:an:=ao "Ogxr=IMXeJfg>^MFEpdooPiE`YSXaRX^;jkgNIY?Z^UtYLgkZ[InW"
def GS:an:=ao "FXaWsoBAx;cmEHZ;qYZ]o=QK@IAKgRxJEOYjNE_:?uQnVGo`yN@"
def wY:an:=ao "<=[aYF^WsefV]izubGJI_v[VEiZaCch?g:^aJBdcar[g:hp[FJ;OjBzGQS]yOI[RmfG=AR]OrbAz[lFSr^u^VI<r`[R"
def wZ:an:=ao "dQdj^AtToqutquFclqFcm`Id>?hsxvYC=dElcEfJMxUSBGHD_D;SK;JIeKCF?<R_msvDyVUDV<UKhkzzcWtu`J>?uLXOn"
def zQ:an:=ao "?;o?eDRfCwnM`jUaH?vOZ?K=WpP[d=ankGIQsrqbtycLhRGJQs"
def w6:an:=ao "?h>[yv?PdqmEBdQ==QB_D_zo]viBd?Lro^;GMk?N?EOggT`AYkc]<M?m>zsgZMzz^fecWgsF>@y"
def GU:an:=ao "NDGQT>ndNkaWfwIqShK_saJLFzNkg`Vr=DjdZt?]IUr^>iJ;tadblv^s;NqSzewS>JE[@]"
def w7:an:=ao "=UA^WUEupgaPnPPBrilYPeXIMPghNtVJ:_GhKBgeRETC>BmBghrBE"
end al
namespace al
open Go Go.RowKit
theorem aP {α:Type} (h:List (Nat×α)) (n m:Nat) (x:α):get (set h n x) m=if n=m then some x else get h m:=by
 induction h with
 |nil=>simp[set,get]
 |cons y r ih=>
  simp only[set];by_cases hy:y.1=n
  ·rw[if_pos hy];simp only[get];by_cases hm:n=m
   ·simp[hm]
   ·rw[if_neg hm,if_neg hm,if_neg (by omega)]
  ·rw[if_neg hy];simp only[get,ih];by_cases hm:y.1=m
   ·rw[if_pos hm,if_pos hm,if_neg (by omega)]
   ·rw[if_neg hm,if_neg hm]
theorem aq {α:Type} (h:List (Nat×α)) (n:Nat) (x:α):get (set h n x) n=some x:=by simp[aP]
theorem bF {α:Type} (h:List (Nat×α)) {n m:Nat} (x:α) (bG:n≠m):get (set h n x) m=get h m:=by simp[aP,bG]
inductive RI (ν:Nat->Nat) (I:Nat->Prop) (w:World):Value->IV->Prop
 |bool (b:Bool):RI ν I w (.bool b) (.bool b)
 |int (k:IntKind) (n:Int):RI ν I w (.int k n) (.int k n)
 |str (s:ByteArray):RI ν I w (.string s) (.str s)
 |az (a:Option Addr) (e:Nat):RI ν I w (.slice a 0 0) (.az e)
 |dS (a:Option Addr) (cap e:Nat):RI ν I w (.slice a 0 cap) (.sl e [])
 |sl (b off n cap e:Nat) (es:List (List IV)) (f:Nat->Nat->Value) (hI:I b) (hn:n=es.length) (eF:n<=cap) (hl:∀c ∈ es,c.length=e)
   (hc:∀(i j:Nat) (c:List IV) (x:IV),es[i]?=some c->c[j]?=some x->w.cell? ⟨b,off+i*e+j,none⟩=some (f i j))
   (hr:∀(i j:Nat) (c:List IV) (x:IV),es[i]?=some c->c[j]?=some x->RI ν I w (f i j) x):RI ν I w (.slice (some ⟨b,off,none⟩) n cap) (.sl e es)
 |bh:RI ν I w (.pointer none) .bh
 |ptr (b off:Nat) (cs:List IV) (f:Nat->Value) (hI:I b) (hc:∀(j:Nat) (x:IV),cs[j]?=some x->w.cell? ⟨b,off+j,none⟩=some (f j))
   (hr:∀(j:Nat) (x:IV),cs[j]?=some x->RI ν I w (f j) x):RI ν I w (.pointer (some ⟨b,off,none⟩)) (.ptr cs)
 |fn (f:Nat) (ay:Array Value) (cs:List IV) (hn:ay.size=cs.length) (hr:∀(j:Nat) (v:Value) (x:IV),ay[j]?=some v->cs[j]?=some x->RI ν I w v x) :
   RI ν I w (.func (.func (ν f)) #[] ay) (.fn f cs)
 |junk (v:Value) (h:v.oneCell'=true):RI ν I w v .junk
theorem RI.mono {ν:Nat->Nat} {I I':Nat->Prop} {w w':World} (hI:∀b,I b->I' b) (hw:∀b off v,I b->w.cell? ⟨b,off,none⟩=some v->w'.cell? ⟨b,off,none⟩=some v)
  {v:Value} {x:IV} (h:RI ν I w v x):RI ν I' w' v x:=by
 induction h with
 |bool b=>exact .bool b
 |int k n=>exact .int k n
 |str s=>exact .str s
 |az a e=>exact .az a e
 |dS a cap e=>exact .dS a cap e
 |sl b off n cap e es f hb hn eF hl hc hr ih=>exact .sl b off n cap e es f (hI b hb) hn eF hl (λi j c x h1 h2=>hw _ _ _ hb (hc i j c x h1 h2)) ih
 |bh=>exact .bh
 |ptr b off cs f hb hc hr ih=>exact .ptr b off cs f (hI b hb) (λj x h1=>hw _ _ _ hb (hc j x h1)) ih
 |fn f ay cs hn hr ih=>exact .fn f ay cs hn ih
 |junk v h=>exact .junk v h
theorem RI.one {ν:Nat->Nat} {I:Nat->Prop} {w:World} {v:Value} {x:IV} (h:RI ν I w v x):v.oneCell'=true:=by cases h<;>first | rfl | assumption
structure Gh where
 I:Nat->Prop
 φ:Nat->Option Nat
 w:World
 h:Hp
def cF (w:World) (p:Option Nat) (e:Nat) (es:List (List IV)) (o n:Nat) (v:Value):Prop:=
 match p with
 |none=>(∃a,v = .slice a 0 0)/\n=0
 |some b=>∃x cap,v = .slice (some ⟨b,x,none⟩) n cap/\o+n<=es.length/\n<=cap/\(x=o*e\/n=0/\o≠0)/\(x=o*e->∀c,c<(o+cap)*e->(w.cell? ⟨b,c,none⟩).isSome=true)
def aH (g:Gh) (v:Value) (id o n ai:Nat):Prop:=
 match get g.h id with
 |some (.buf v' e es) | some (.bb v' e es)=>ai<=v'/\(v'=ai->cF g.w (g.φ id) e es o n v)
 |_=>False
def aI (g:Gh) (v:Value) (id ai i j:Nat):Prop:=
 match get g.h id with
 |some (.cells _)=>ai=0/\i=0/\∃b,g.φ id=some b/\v = .pointer (some ⟨b,j,none⟩)
 |some (.buf v' e _) | some (.bb v' e _)=>ai<=v'/\(v'=ai->∃b,g.φ id=some b/\v = .pointer (some ⟨b,i*e+j,none⟩))
 |some (.map _)=>ai=0/\i=0/\j=0/\∃b,g.φ id=some b/\v = .map (some b)
 |none=>False
inductive RA (ν:Nat->Nat) (g:Gh):Value->AV->Prop
 |undef (v:Value):RA ν g v .undef
 |iv {v:Value} {x:IV} (h:RI ν g.I g.w v x):RA ν g v (.iv x)
 |agg {vs:Array Value} {cs:List AV} (hn:vs.size=cs.length) (h1:∀(j:Nat) (v:Value),vs[j]?=some v->v.oneCell'=true)
   (hr:∀(j:Nat) (v:Value) (c:AV),vs[j]?=some v->cs[j]?=some c->RA ν g v c):RA ν g (.agg vs) (.agg cs)
 |aR {vs:Array Value} {cs:List AV} (hn:vs.size=cs.length) (hr:∀(j:Nat) (v:Value) (c:AV),vs[j]?=some v->cs[j]?=some c->RA ν g v c):RA ν g (.tuple vs) (.aR cs)
 |own {v:Value} {id o n ai:Nat} (h1:v.oneCell'=true) (h:aH g v id o n ai):RA ν g v (.own id o n ai)
 |ref {v:Value} {id ai i j:Nat} (h1:v.oneCell'=true) (h:aI g v id ai i j):RA ν g v (.ref id ai i j)
 |bJ {f:Nat} {ay:Array Value} {cs:List AV} (hn:ay.size=cs.length) (hr:∀(j:Nat) (v:Value) (c:AV),ay[j]?=some v->cs[j]?=some c->RA ν g v c) :
   RA ν g (.func (.func (ν f)) #[] ay) (.bJ f cs)
theorem RA.mono {ν:Nat->Nat} {g g':Gh} (hI:∀v x,RI ν g.I g.w v x->RI ν g'.I g'.w v x) (ho:∀v id o n ai,aH g v id o n ai->aH g' v id o n ai)
  (hr:∀v id ai i j,aI g v id ai i j->aI g' v id ai i j) {v:Value} {x:AV} (h:RA ν g v x):RA ν g' v x:=by
 induction h with
 |undef v=>exact .undef v
 |iv h=>exact .iv (hI _ _ h)
 |agg hn h1 _ ih=>exact .agg hn h1 ih
 |aR hn _ ih=>exact .aR hn ih
 |own h1 h=>exact .own h1 (ho _ _ _ _ _ h)
 |ref h1 h=>exact .ref h1 (hr _ _ _ _ _ h)
 |bJ hn _ ih=>exact .bJ hn ih
def Row (ν:Nat->Nat) (I:Nat->Prop) (w:World) (b e:Nat) (es:List (List IV)):Prop:=
 (∀c ∈ es,c.length=e)/\∀(i j:Nat) (c:List IV) (x:IV),es[i]?=some c->c[j]?=some x->∃v,w.cell? ⟨b,i*e+j,none⟩=some v/\RI ν I w v x
def qm (w:World) (b:Nat):Prop:=b<w.heap.size/\∀o,w.frozen? ⟨b,o,none⟩=false
def fu (ν:Nat->Nat) (g:Gh) (id:Nat):Ob->Prop
 |.cells cs=>∃b,g.φ id=some b/\¬g.I b/\qm g.w b/\∀(j:Nat) (c:AV),cs[j]?=some c->∃v,g.w.cell? ⟨b,j,none⟩=some v/\v.oneCell'=true/\RA ν g v c
 |.buf _ e es=>(g.φ id=none/\es=[])\/∃b,g.φ id=some b/\¬g.I b/\qm g.w b/\Row ν g.I g.w b e es
 |.bb _ e es=>(g.φ id=none/\es=[])\/∃b,g.φ id=some b/\g.I b/\Row ν g.I g.w b e es
 |.map aU=>∃b es clock,g.φ id=some b/\¬g.I b/\b<g.w.heap.size/\g.w.heap[b]?=some (.map es clock)/\es.size=aU.length/\
   ∀(j:Nat) (e:MapEntry) (p:AV×AV),es[j]?=some e->aU[j]?=some p->RA ν g e.key p.1/\RA ν g e.val p.2
structure Cx where
 w:World
 I:Nat->Prop
 L:Nat->Prop
structure Rel (ν:Nat->Nat) (k:Cx) (g:Gh):Prop where
 ob:∀id o,get g.h id=some o->fu ν g id o
 inj:∀id bY o o' b,get g.h id=some o->get g.h bY=some o'->g.φ id=some b->g.φ bY=some b->id=bY
 small:∀b,g.I b->b<g.w.heap.size
 i0:∀b,k.I b->g.I b
 i1:∀b,g.I b->k.I b\/k.L b\/k.w.heap.size<=b
 own:∀id o b,get g.h id=some o->g.φ id=some b->k.L b\/k.w.heap.size<=b
 size:k.w.heap.size<=g.w.heap.size
 os:g.w.os=k.w.os
 tape:g.w.tape=k.w.tape
 output:g.w.output=k.w.output
 cr:∀b,b<k.w.heap.size->(¬k.L b\/k.I b)->g.w.heap[b]?=k.w.heap[b]?
def aX (ν:Nat->Nat) (g g':Gh):Prop:=∀v x,RA ν g v x->RA ν g' v x
theorem aX.refl (ν:Nat->Nat) (g:Gh):aX ν g g:=λ_ _ h=>h
theorem aX.trans {ν:Nat->Nat} {a b c:Gh} (h:aX ν a b) (k:aX ν b c):aX ν a c:=λv x hx=>k v x (h v x hx)
theorem fu.block {ν:Nat->Nat} {g:Gh} {id:Nat} {o:Ob} (h:fu ν g id o) {b:Nat} (hb:g.φ id=some b) (hs:∀b,g.I b->b<g.w.heap.size):b<g.w.heap.size:=by
 cases o with
 |cells cs=>obtain⟨b',h1,_,h3,_⟩:=h;rw[hb]at h1;cases h1;exact h3.1
 |buf v e es=>
  rcases h with⟨h1,_⟩|⟨b',h1,_,h3,_⟩
  ·rw[hb]at h1;cases h1
  ·rw[hb]at h1;cases h1;exact h3.1
 |bb v e es=>
  rcases h with⟨h1,_⟩|⟨b',h1,h2,_⟩
  ·rw[hb]at h1;cases h1
  ·rw[hb]at h1;cases h1;exact hs _ h2
 |map aU=>obtain⟨b',_,_,h1,_,h3,_⟩:=h;rw[hb]at h1;cases h1;exact h3
theorem Row.mono {ν:Nat->Nat} {I I':Nat->Prop} {w w':World} {b e:Nat} {es:List (List IV)} (h:Row ν I w b e es) (hR:∀v x,RI ν I w v x->RI ν I' w' v x)
  (hb:∀off v,w.cell? ⟨b,off,none⟩=some v->w'.cell? ⟨b,off,none⟩=some v):Row ν I' w' b e es:=
 ⟨h.1,λi j c x h1 h2=>let⟨v,hc,hr⟩:=h.2 i j c x h1 h2;⟨v,hb _ _ hc,hR _ _ hr⟩⟩
theorem bx {w w':World} {b:Nat} (h:w'.heap[b]?=w.heap[b]?) (off:Nat):w'.cell? ⟨b,off,none⟩=w.cell? ⟨b,off,none⟩:=by simp[World.cell?,h]
theorem eO {w w':World} {b:Nat} (h:w'.heap[b]?=w.heap[b]?) (off:Nat):w'.frozen? ⟨b,off,none⟩=w.frozen? ⟨b,off,none⟩:=by simp[World.frozen?,h]
theorem Rel.world {ν:Nat->Nat} {k:Cx} {g:Gh} (r:Rel ν k g) {w':World} {I':Nat->Prop} (hI:∀b,g.I b->I' b) (kx:∀b,I' b->g.I b\/g.w.heap.size<=b/\b<w'.heap.size)
  (hs:g.w.heap.size<=w'.heap.size) (h1:w'.os=g.w.os) (h2:w'.tape=g.w.tape) (h3:w'.output=g.w.output) (hb:∀b,b<g.w.heap.size->w'.heap[b]?=g.w.heap[b]?) :
  Rel ν k { g with I:=I',w:=w' }/\aX ν g { g with I:=I',w:=w' }:=by
 have ck:∀v x,RI ν g.I g.w v x->RI ν I' w' v x:=λv x h=>h.mono hI λb off v hi hc=>by rw[bx (hb b (r.small b hi))];exact hc
 have hblk:∀id o b,get g.h id=some o->g.φ id=some b->b<g.w.heap.size:=λid o b ho ah=>(r.ob id o ho).block ah r.small
 have hm:aX ν g { g with I:=I',w:=w' }:=by
  intro v x hx;refine hx.mono ck ?_ ?_
  ·intro v id o n ai ho;unfold aH at ho ⊢;have key:∀ob e es,get g.h id=some ob->cF g.w (g.φ id) e es o n v->cF w' (g.φ id) e es o n v:=by
    intro ob e es de s8;cases hp:g.φ id with
    |none=>rw[hp]at s8;exact s8
    |some b=>
     rw[hp]at s8;obtain⟨x,cap,e1,e2,e3,e4,e5⟩:=s8;exact⟨x,cap,e1,e2,e3,e4,λhx c hc=>by rw[bx (hb b (hblk id _ b de hp))];exact e5 hx c hc⟩
   cases hg:get g.h id with
   |none=>rw[hg]at ho;exact ho.elim
   |some ob=>
    rw[hg]at ho;simp only[];cases ob with
    |cells cs=>exact ho.elim
    |buf v' e es=>exact⟨ho.1,λhv=>key _ e es hg (ho.2 hv)⟩
    |bb v' e es=>exact⟨ho.1,λhv=>key _ e es hg (ho.2 hv)⟩
    |map aU=>exact ho.elim
  ·intro v id ai i j hr;exact hr
 refine⟨⟨?_,r.inj,?_,λb h=>hI b (r.i0 b h),?_,r.own,Nat.le_trans r.size hs,h1.trans r.os,h2.trans r.tape,h3.trans r.output,λb h hl=>(hb b (Nat.lt_of_lt_of_le h r.size)).trans (r.cr b h hl)⟩,hm⟩
 ·intro id o ho;have Lf:=hblk id o;have cr:=r.ob id o ho;cases o with
  |cells cs=>
   obtain⟨b,e1,e2,e3,e4⟩:=cr;refine⟨b,e1,λhi=>?_,⟨Nat.lt_of_lt_of_le e3.1 hs,λo=>by rw[eO (hb b e3.1)];exact e3.2 o⟩,λj c hc=>?_⟩
   ·rcases kx b hi with h | h
    ·exact e2 h
    ·have:=e3.1;omega
   ·obtain⟨v,c1,c2,c3⟩:=e4 j c hc;exact⟨v,by rw[bx (hb b e3.1)];exact c1,c2,hm _ _ c3⟩
  |buf v e es=>
   rcases cr with h | ⟨b,e1,e2,e3,e4⟩
   ·exact .inl h
   ·refine .inr ⟨b,e1,λhi=>?_,⟨Nat.lt_of_lt_of_le e3.1 hs,λo=>by rw[eO (hb b e3.1)];exact e3.2 o⟩,e4.mono ck λoff v hc=>by rw[bx (hb b e3.1)];exact hc⟩;rcases kx b hi with h | h
    ·exact e2 h
    ·have:=e3.1;omega
  |bb v e es=>
   rcases cr with h | ⟨b,e1,e2,e4⟩
   ·exact .inl h
   ·exact .inr ⟨b,e1,hI b e2,e4.mono ck λoff v hc=>by rw[bx (hb b (r.small b e2))];exact hc⟩
  |map aU=>
   obtain⟨b,es,clock,e1,e2,e3,e4,e5,e6⟩:=cr;refine⟨b,es,clock,e1,λhi=>?_,Nat.lt_of_lt_of_le e3 hs,(hb b e3).trans e4,e5,λj e p h1 h2=>?_⟩
   ·rcases kx b hi with h | h
    ·exact e2 h
    ·omega
   ·obtain⟨c1,c2⟩:=e6 j e p h1 h2;exact⟨hm _ _ c1,hm _ _ c2⟩
 ·intro b hi;rcases kx b hi with h | h
  ·exact Nat.lt_of_lt_of_le (r.small b h) hs
  ·exact h.2
 ·intro b hi;rcases kx b hi with h | h
  ·exact r.i1 b h
  ·exact .inr (.inr (Nat.le_trans r.size h.1))
def bl (φ:Nat->Option Nat) (s:Nat) (p:Option Nat):Nat->Option Nat:=λi=>if i=s then p else φ i
theorem aw (φ:Nat->Option Nat) (s:Nat) (p:Option Nat):bl φ s p s=p:=by simp[bl]
theorem dM (φ:Nat->Option Nat) {s i:Nat} (p:Option Nat) (h:i≠s):bl φ s p i=φ i:=by simp[bl,h]
theorem cF.same {w w':World} {p:Option Nat} {e:Nat} {es:List (List IV)} {o n:Nat} {v:Value} (h:cF w p e es o n v)
  (hw:∀b,p=some b->w'.heap[b]?=w.heap[b]?):cF w' p e es o n v:=by
 cases p with
 |none=>exact h
 |some b=>
  obtain⟨x,cap,e1,e2,e3,e4,e5⟩:=h;exact⟨x,cap,e1,e2,e3,e4,λhx c hc=>by rw[bx (hw b rfl)];exact e5 hx c hc⟩
theorem aH.alive {g:Gh} {v:Value} {id o n ai:Nat} (h:aH g v id o n ai):∃ob,get g.h id=some ob:=by
 unfold aH at h;cases hg:get g.h id with
 |none=>rw[hg]at h;exact h.elim
 |some ob=>exact⟨ob,rfl⟩
theorem aI.alive {g:Gh} {v:Value} {id ai i j:Nat} (h:aI g v id ai i j):∃ob,get g.h id=some ob:=by
 unfold aI at h;cases hg:get g.h id with
 |none=>rw[hg]at h;exact h.elim
 |some ob=>exact⟨ob,rfl⟩
theorem aH.other {g g':Gh} {v:Value} {id o n ai:Nat} (h:aH g v id o n ai) (hh:get g'.h id=get g.h id) (ah:g'.φ id=g.φ id)
  (hw:∀b,g.φ id=some b->g'.w.heap[b]?=g.w.heap[b]?):aH g' v id o n ai:=by
 unfold aH at h ⊢;rw[hh,ah];cases hg:get g.h id with
 |none=>rw[hg]at h;exact h.elim
 |some ob=>
  rw[hg]at h;cases ob with
  |cells cs=>exact h.elim
  |buf v' e es=>exact⟨h.1,λhv=>(h.2 hv).same hw⟩
  |bb v' e es=>exact⟨h.1,λhv=>(h.2 hv).same hw⟩
  |map aU=>exact h.elim
theorem aI.other {g g':Gh} {v:Value} {id ai i j:Nat} (h:aI g v id ai i j) (hh:get g'.h id=get g.h id) (ah:g'.φ id=g.φ id):aI g' v id ai i j:=by
 unfold aI at h ⊢;rw[hh,ah];exact h
theorem fu.other {ν:Nat->Nat} {g g':Gh} {id:Nat} {o:Ob} (h:fu ν g id o) (ah:g'.φ id=g.φ id) (hm:aX ν g g') (ck:∀v x,RI ν g.I g.w v x->RI ν g'.I g'.w v x)
  (bC:g.w.heap.size<=g'.w.heap.size) (hw:∀b,g.φ id=some b->g'.w.heap[b]?=g.w.heap[b]?) (hI:∀b,g.φ id=some b->(g'.I b↔g.I b)):fu ν g' id o:=by
 cases o with
 |cells cs=>
  obtain⟨b,e1,e2,e3,e4⟩:=h;refine⟨b,ah.trans e1,λhi=>e2 ((hI b e1).1 hi),⟨Nat.lt_of_lt_of_le e3.1 bC,λo=>by rw[eO (hw b e1)];exact e3.2 o⟩,λj c hc=>?_⟩;obtain⟨v,c1,c2,c3⟩:=e4 j c hc;exact⟨v,by rw[bx (hw b e1)];exact c1,c2,hm _ _ c3⟩
 |buf v e es=>
  rcases h with⟨h1,h2⟩|⟨b,e1,e2,e3,e4⟩
  ·exact .inl ⟨ah.trans h1,h2⟩
  ·exact .inr ⟨b,ah.trans e1,λhi=>e2 ((hI b e1).1 hi),⟨Nat.lt_of_lt_of_le e3.1 bC,λo=>by rw[eO (hw b e1)];exact e3.2 o⟩,e4.mono ck λoff v hc=>by rw[bx (hw b e1)];exact hc⟩
 |bb v e es=>
  rcases h with⟨h1,h2⟩|⟨b,e1,e2,e4⟩
  ·exact .inl ⟨ah.trans h1,h2⟩
  ·exact .inr ⟨b,ah.trans e1,(hI b e1).2 e2,e4.mono ck λoff v hc=>by rw[bx (hw b e1)];exact hc⟩
 |map aU=>
  obtain⟨b,es,clock,e1,e2,e3,e4,e5,e6⟩:=h;refine⟨b,es,clock,ah.trans e1,λhi=>e2 ((hI b e1).1 hi),Nat.lt_of_lt_of_le e3 bC,(hw b e1).trans e4,e5,λj e p h1 h2=>?_⟩;obtain⟨c1,c2⟩:=e6 j e p h1 h2;exact⟨hm _ _ c1,hm _ _ c2⟩
theorem Rel.w8 {ν:Nat->Nat} {k:Cx} {g:Gh} (r:Rel ν k g) {s:Nat} {ob:Ob} {p:Option Nat} {w':World} (hs:get g.h s=none)
  (bC:g.w.heap.size<=w'.heap.size) (h1:w'.os=g.w.os) (h2:w'.tape=g.w.tape) (h3:w'.output=g.w.output) (hb:∀b,b<g.w.heap.size->w'.heap[b]?=g.w.heap[b]?)
  (hp:∀b,p=some b->∀id o,get g.h id=some o->g.φ id≠some b) (bQ:∀b,p=some b->k.L b\/k.w.heap.size<=b)
  (de:aX ν g { g with φ:=bl g.φ s p,w:=w',h:=set g.h s ob }->fu ν { g with φ:=bl g.φ s p,w:=w',h:=set g.h s ob } s ob) :
  Rel ν k { g with φ:=bl g.φ s p,w:=w',h:=set g.h s ob }/\aX ν g { g with φ:=bl g.φ s p,w:=w',h:=set g.h s ob }:=by
 have ck:∀v x,RI ν g.I g.w v x->RI ν g.I w' v x:=λv x h=>h.mono (λ_ h=>h) λb off v hi hc=>by rw[bx (hb b (r.small b hi))];exact hc
 have hblk:∀id o b,get g.h id=some o->g.φ id=some b->b<g.w.heap.size:=λid o b ho ah=>(r.ob id o ho).block ah r.small
 have hm:aX ν g { g with φ:=bl g.φ s p,w:=w',h:=set g.h s ob }:=by
  intro v x hx;refine hx.mono ck ?_ ?_
  ·intro v id o n ai ho;obtain⟨jv,ep⟩:=ho.alive;have bG:s≠id:=λe=>by rw[<-e,hs]at ep;cases ep
   exact ho.other (bF _ _ bG) (dM _ _ (Ne.symm bG)) λb ah=>hb b (hblk id _ b ep ah)
  ·intro v id ai i j hr;obtain⟨jv,ep⟩:=hr.alive;have bG:s≠id:=λe=>by rw[<-e,hs]at ep;cases ep
   exact hr.other (bF _ _ bG) (dM _ _ (Ne.symm bG))
 refine⟨⟨?_,?_,λb hi=>Nat.lt_of_lt_of_le (r.small b hi) bC,r.i0,r.i1,?_,Nat.le_trans r.size bC,h1.trans r.os,h2.trans r.tape,h3.trans r.output,λb h hl=>(hb b (Nat.lt_of_lt_of_le h r.size)).trans (r.cr b h hl)⟩,hm⟩
 ·intro id o ho;by_cases he:s=id
  ·subst he;have:ob=o:=by simpa[aq]using ho
   subst this;exact de hm
  ·have cb:get g.h id=some o:=by rwa [show get (set g.h s ob) id=get g.h id from bF _ _ he]at ho
   exact(r.ob id o cb).other (dM _ _ (Ne.symm he)) hm ck bC (λb ah=>hb b (hblk id _ b cb ah)) λ_ _=>Iff.rfl
 ·intro id bY o o' b ho cb ah aO;simp only[aP]at ho cb;simp only[bl]at ah aO;by_cases he:id=s
  ·by_cases cB:bY=s
   ·rw[he,cB]
   ·rw[if_pos he]at ah;rw[if_neg cB]at aO;rw[if_neg (Ne.symm cB)]at cb;exact absurd aO (hp b ah bY _ cb)
  ·rw[if_neg he]at ah;rw[if_neg (Ne.symm he)]at ho;by_cases cB:bY=s
   ·rw[if_pos cB]at aO;exact absurd ah (hp b aO id _ ho)
   ·rw[if_neg cB]at aO;rw[if_neg (Ne.symm cB)]at cb;exact r.inj id bY o o' b ho cb ah aO
 ·intro id o b ho ah;simp only[aP]at ho;simp only[bl]at ah;by_cases he:id=s
  ·rw[if_pos he]at ah;exact bQ b ah
  ·rw[if_neg he]at ah;rw[if_neg (Ne.symm he)]at ho;exact r.own id o b ho ah
theorem Rel.new {ν:Nat->Nat} {k:Cx} {g:Gh} (r:Rel ν k g) {s:Nat} {ob:Ob} {p:Option Nat} {w':World} (hs:get g.h s=none)
  (bC:g.w.heap.size<=w'.heap.size) (h1:w'.os=g.w.os) (h2:w'.tape=g.w.tape) (h3:w'.output=g.w.output) (hb:∀b,b<g.w.heap.size->w'.heap[b]?=g.w.heap[b]?)
  (hp:∀b,p=some b->g.w.heap.size<=b)
  (de:aX ν g { g with φ:=bl g.φ s p,w:=w',h:=set g.h s ob }->fu ν { g with φ:=bl g.φ s p,w:=w',h:=set g.h s ob } s ob) :
  Rel ν k { g with φ:=bl g.φ s p,w:=w',h:=set g.h s ob }/\aX ν g { g with φ:=bl g.φ s p,w:=w',h:=set g.h s ob }:=
 r.w8 hs bC h1 h2 h3 hb (λb fT id o ho ah=>by have:=(r.ob id o ho).block ah r.small;have:=hp b fT;omega) (λb fT=>.inr (Nat.le_trans r.size (hp b fT))) de
theorem Rel.gO {ν:Nat->Nat} {k:Cx} {g:Gh} (r:Rel ν k g) {s:Nat} {yp ob:Ob} {p:Option Nat} {w':World} {I':Nat->Prop} (hs:get g.h s=some yp)
  (bZ:∀b,g.φ s=some b->¬g.I b)
  (bC:g.w.heap.size<=w'.heap.size) (h1:w'.os=g.w.os) (h2:w'.tape=g.w.tape) (h3:w'.output=g.w.output) (hb:∀b,b<g.w.heap.size->g.φ s≠some b->w'.heap[b]?=g.w.heap[b]?)
  (hI:∀b,g.I b->I' b) (kx:∀b,I' b->g.I b\/g.φ s=some b)
  (hp:p=g.φ s\/∃b,p=some b/\g.w.heap.size<=b)
  (hO:∀v o n ai,aH g v s o n ai->aH ⟨I',bl g.φ s p,w',set g.h s ob⟩ v s o n ai)
  (hR:∀v ai i j,aI g v s ai i j->aI ⟨I',bl g.φ s p,w',set g.h s ob⟩ v s ai i j)
  (de:(∀v x,RI ν g.I g.w v x->RI ν I' w' v x)->aX ν g ⟨I',bl g.φ s p,w',set g.h s ob⟩->fu ν ⟨I',bl g.φ s p,w',set g.h s ob⟩ s ob) :
  Rel ν k ⟨I',bl g.φ s p,w',set g.h s ob⟩/\aX ν g ⟨I',bl g.φ s p,w',set g.h s ob⟩:=by
 have ck:∀v x,RI ν g.I g.w v x->RI ν I' w' v x:=λv x h=>h.mono hI λb off v hi hc=>by
  rw[bx (hb b (r.small b hi) λe=>bZ b e hi)];exact hc
 have hblk:∀id o b,get g.h id=some o->g.φ id=some b->b<g.w.heap.size:=λid o b ho ah=>(r.ob id o ho).block ah r.small
 have cW:∀id o b,s≠id->get g.h id=some o->g.φ id=some b->g.φ s≠some b:=λid o b bG ho ah e=>bG (r.inj s id yp o b hs ho e ah)
 have hm:aX ν g ⟨I',bl g.φ s p,w',set g.h s ob⟩:=by
  intro v x hx;refine hx.mono ck ?_ ?_
  ·intro v id o n ai ho;by_cases he:s=id
   ·subst he;exact hO _ _ _ _ ho
   ·obtain⟨jv,ep⟩:=ho.alive;exact ho.other (bF _ _ he) (dM _ _ (Ne.symm he)) λb ah=>hb b (hblk id _ b ep ah) (cW id _ b he ep ah)
  ·intro v id ai i j hr;by_cases he:s=id
   ·subst he;exact hR _ _ _ _ hr
   ·exact hr.other (bF _ _ he) (dM _ _ (Ne.symm he))
 refine⟨⟨?_,?_,?_,λb h=>hI b (r.i0 b h),?_,?_,Nat.le_trans r.size bC,h1.trans r.os,h2.trans r.tape,h3.trans r.output,?_⟩,hm⟩
 ·intro id o ho;by_cases he:s=id
  ·subst he;have:ob=o:=by simpa[aq]using ho
   subst this;exact de ck hm
  ·have cb:get g.h id=some o:=by rwa [show get (set g.h s ob) id=get g.h id from bF _ _ he]at ho
   exact(r.ob id o cb).other (dM _ _ (Ne.symm he)) hm ck bC (λb ah=>hb b (hblk id _ b cb ah) (cW id _ b he cb ah))
    λb ah=>⟨λhi=>(kx b hi).resolve_right (cW id _ b he cb ah),hI b⟩
 ·intro id bY o o' b ho cb ah aO;simp only[aP]at ho cb;simp only[bl]at ah aO;by_cases he:id=s
  ·by_cases cB:bY=s
   ·rw[he,cB]
   ·rw[if_pos he]at ah;rw[if_neg cB]at aO;rw[if_neg (Ne.symm cB)]at cb;have aV:=hblk bY _ b cb aO;rcases hp with hp | ⟨b',hp,pV⟩
    ·exact absurd (hp▸ah) (cW bY _ b (Ne.symm cB) cb aO)
    ·rw[hp]at ah;cases ah;omega
  ·rw[if_neg he]at ah;rw[if_neg (Ne.symm he)]at ho;by_cases cB:bY=s
   ·rw[if_pos cB]at aO;have aV:=hblk id _ b ho ah;rcases hp with hp | ⟨b',hp,pV⟩
    ·exact absurd (hp▸aO) (cW id _ b (Ne.symm he) ho ah)
    ·rw[hp]at aO;cases aO;omega
   ·rw[if_neg cB]at aO;rw[if_neg (Ne.symm cB)]at cb;exact r.inj id bY o o' b ho cb ah aO
 ·intro b hi;rcases kx b hi with h | h
  ·exact Nat.lt_of_lt_of_le (r.small b h) bC
  ·exact Nat.lt_of_lt_of_le (hblk s _ b hs h) bC
 ·intro b hi;rcases kx b hi with h | h
  ·exact r.i1 b h
  ·exact .inr (r.own s _ b hs h)
 ·intro id o b ho ah;simp only[aP]at ho;simp only[bl]at ah;by_cases he:id=s
  ·rw[if_pos he]at ah;rcases hp with hp | ⟨b',hp,pV⟩
   ·exact r.own s _ b hs (hp▸ah)
   ·rw[hp]at ah;cases ah;exact .inr (Nat.le_trans r.size pV)
  ·rw[if_neg he]at ah;rw[if_neg (Ne.symm he)]at ho;exact r.own id o b ho ah
 ·intro b h hl;have aV:=Nat.lt_of_lt_of_le h r.size;refine(hb b aV λe=>?_).trans (r.cr b h hl);rcases hl with hl | hl
  ·rcases r.own s _ b hs e with h' | h'
   ·exact hl h'
   ·omega
  ·exact bZ b e (r.i0 b hl)
theorem bc {α β:Type} (m:M α) (f:α->M β) (h:Hp):(m.bind f).run h=match m.run h with
  |some (a,h')=>(f a).run h'
  |none=>none:=by
 induction m generalizing h with
 |ret a=>rfl
 |fail=>rfl
 |get id k ih=>simp only[M.bind,M.run];exact ih _ _
 |put id o k ih=>simp only[M.bind,M.run];exact ih _
theorem ag {α β:Type} {m:M α} {f:α->M β} {h q8:Hp} {b:β} (e:(m.bind f).run h=some (b,q8)) :
  ∃a h',m.run h=some (a,h')/\(f a).run h'=some (b,q8):=by
 rw[bc]at e;cases hm:m.run h with
 |none=>rw[hm]at e;cases e
 |some p=>rw[hm]at e;exact⟨p.1,p.2,rfl,e⟩
theorem mb {b:Bool} {h h':Hp} {u:Unit} (e:(M.ok b).run h=some (u,h')):b=true/\h'=h:=by
 unfold M.ok at e;cases b with
 |true=>simp[M.run]at e;exact⟨rfl,e.symm⟩
 |false=>simp[M.run]at e
theorem kj {id:Nat} {h h':Hp} {o:Ob} (e:(M.look id).run h=some (o,h')):al.get h id=some o/\h'=h:=by
 simp only[M.look,M.run]at e;cases hg:al.get h id with
 |none=>simp[hg,M.run]at e
 |some x=>simp[hg,M.run]at e;exact⟨by rw[e.1],e.2.symm⟩
theorem M.cq {id:Nat} {h h':Hp} {u:Unit} (e:(M.fresh id).run h=some (u,h')):al.get h id=none/\h'=h:=by
 simp only[M.fresh,M.run]at e;cases hg:al.get h id with
 |none=>simp[hg,M.run]at e;exact⟨rfl,e.symm⟩
 |some x=>simp[hg,M.run]at e
theorem aL {id:Nat} {o:Ob} {h h':Hp} {u:Unit} (e:(M.write id o).run h=some (u,h')):h'=set h id o:=by
 simp[M.write,M.run]at e;exact e.symm
theorem dz {α:Type} {x:Option α} {h h':Hp} {a:α} (e:(M.lift x).run h=some (a,h')):x=some a/\h'=h:=by
 cases x with
 |none=>simp[M.lift,M.run]at e
 |some y=>simp[M.lift,M.run]at e;exact⟨by rw[e.1],e.2.symm⟩
theorem af {α:Type} {x a:α} {h h':Hp} (e:(M.ret x).run h=some (a,h')):x=a/\h'=h:=by
 simp[M.run]at e;exact⟨e.1,e.2.symm⟩
theorem ae {α:Type} {a:α} {h h':Hp} (e:(M.fail:M α).run h=some (a,h')):False:=by simp[M.run]at e
theorem M.aj {α:Type} {b:Bool} {f:Unit->M α} {h:Hp} {r:α×Hp} (e:((M.ok b).bind f).run h=some r):b=true/\(f ()).run h=some r:=by
 obtain⟨a,g⟩:=r;obtain⟨_,h1,e1,e2⟩:=ag e;obtain⟨hb,rfl⟩:=mb e1;exact⟨hb,e2⟩
theorem M.lift_bind {α β:Type} {x:Option β} {f:β->M α} {h:Hp} {r:α×Hp} (e:((M.lift x).bind f).run h=some r):∃a,x=some a/\(f a).run h=some r:=by
 obtain⟨a,g⟩:=r;obtain⟨y,h1,e1,e2⟩:=ag e;obtain⟨hb,rfl⟩:=dz e1;exact⟨y,hb,e2⟩
theorem M.aM {α:Type} {id:Nat} {f:Ob->M α} {h:Hp} {r:α×Hp} (e:((M.look id).bind f).run h=some r):∃o,al.get h id=some o/\(f o).run h=some r:=by
 obtain⟨a,g⟩:=r;obtain⟨y,h1,e1,e2⟩:=ag e;obtain⟨hb,rfl⟩:=kj e1;exact⟨y,hb,e2⟩
theorem q9 {α β:Type} [Inhabited β] {cs:List α} {P:Nat->β->α->Prop} (h:∀(j:Nat) (c:α),cs[j]?=some c->∃v,P j v c) :
  ∃f:Nat->β,∀(j:Nat) (c:α),cs[j]?=some c->P j (f j) c:=by
 induction cs generalizing P with
 |nil=>exact⟨λ_=>default,λj c h=>by simp at h⟩
 |cons c cs ih=>
  obtain⟨v,hv⟩:=h 0 c rfl;obtain⟨f,hf⟩:=ih (P:=λj=>P (j+1)) λj c hc=>h (j+1) c (by simpa using hc)
  refine⟨λj=>match j with | 0=>v | j+1=>f j,λj c' hc=>?_⟩;cases j with
  |zero=>simp at hc;subst hc;exact hv
  |succ j=>exact hf j c' (by simpa using hc)
theorem pick {α:Type} {cs:List α} {P:Nat->Value->α->Prop} (h:∀(j:Nat) (c:α),cs[j]?=some c->∃v,P j v c) :
  ∃f:Nat->Value,∀(j:Nat) (c:α),cs[j]?=some c->P j (f j) c:=q9 h
theorem bU {α β:Type} {f:α->M β} {x:α} {r:List α} {h h':Hp} {ys:List β} (e:(M.aN f (x::r)).run h=some (ys,h')) :
  ∃y h1 zs,(f x).run h=some (y,h1)/\(M.aN f r).run h1=some (zs,h')/\ys=y::zs:=by
 obtain⟨y,h1,e1,e2⟩:=ag e;obtain⟨zs,h2,e3,e4⟩:=ag e2;obtain⟨rfl,rfl⟩:=af e4;exact⟨y,h1,zs,e1,e3,rfl⟩
theorem b9 {α β:Type} {f:α->M β} {h h':Hp} {ys:List β} (e:(M.aN f []).run h=some (ys,h')):ys=[]/\h'=h:=by
 obtain⟨rfl,rfl⟩:=af e;exact⟨rfl,rfl⟩
structure cg (ν:Nat->Nat) (k:Cx) (g:Gh) (h':Hp) (I':Nat->Prop):Prop where
 rel:Rel ν k { g with I:=I',h:=h' }
 mono:aX ν g { g with I:=I',h:=h' }
 sub:∀b,g.I b->I' b
 up:∀b,I' b->g.I b\/∃id o,get g.h id=some o/\g.φ id=some b
 cells:∀id cs,get h' id=some (.cells cs)->get g.h id=some (.cells cs)
 alive:∀id,(get h' id).isSome=(get g.h id).isSome
theorem cg.refl {ν:Nat->Nat} {k:Cx} {g:Gh} (r:Rel ν k g):cg ν k g g.h g.I:=⟨r,.refl ν g,λ_ h=>h,λ_ h=>.inl h,λ_ _ h=>h,λ_=>rfl⟩
theorem cg.trans {ν:Nat->Nat} {k:Cx} {g:Gh} {h1 h2:Hp} {I1 I2:Nat->Prop} (a:cg ν k g h1 I1) (b:cg ν k { g with I:=I1,h:=h1 } h2 I2):cg ν k g h2 I2:=
 ⟨b.rel,a.mono.trans b.mono,λx hx=>b.sub x (a.sub x hx),λx hx=>by
  rcases b.up x hx with h | ⟨id,o,ho,ah⟩
  ·exact a.up x h
  ·have ha:=a.alive id;simp only[]at ho ah;rw[ho]at ha;cases hg:get g.h id with
   |none=>rw[hg]at ha;simp at ha
   |some o'=>exact .inr ⟨id,o',hg,ah⟩,
  λid cs h=>a.cells id cs (b.cells id cs h),λid=>(b.alive id).trans (a.alive id)⟩
theorem mc {ν:Nat->Nat} {k:Cx} {g:Gh} (r:Rel ν k g) {id v e:Nat} {es:List (List IV)} (hg:get g.h id=some (.buf v e es)) :
  cg ν k g (set g.h id (.bb v e es)) (λb=>g.I b\/g.φ id=some b):=by
 have cr:=r.ob id _ hg;have bZ:∀b,g.φ id=some b->¬g.I b:=by
  intro b ah;rcases cr with⟨h1,_⟩|⟨b',h1,h2,_⟩
  ·rw[ah]at h1;cases h1
  ·rw[ah]at h1;cases h1;exact h2
 have ht:=r.gO (s:=id) (ob:=.bb v e es) (p:=g.φ id) (w':=g.w) (I':=λb=>g.I b\/g.φ id=some b) hg bZ (Nat.le_refl _) rfl rfl rfl (λ_ _ _=>rfl) (λ_ h=>.inl h) (λ_ h=>h) (.inl rfl)
  (λu o n ai ho=>by
   unfold aH at ho ⊢;rw[hg]at ho;simp only[aq,aw];exact ho)
  (λu ai i j hr=>by
   unfold aI at hr ⊢;rw[hg]at hr;simp only[aq,aw];exact hr)
  (λck _=>by
   rcases cr with⟨h1,h2⟩|⟨b,h1,h2,h3,h4⟩
   ·exact .inl ⟨(aw _ _ _).trans h1,h2⟩
   ·exact .inr ⟨b,(aw _ _ _).trans h1,.inr h1,h4.mono ck λ_ _ h=>h⟩)
 have ah:bl g.φ id (g.φ id)=g.φ:=by funext i;simp only[bl];split<;>simp_all
 rw[ah]at ht;refine⟨ht.1,ht.2,λ_ h=>.inl h,λb h=>h.imp _root_.id λh=>⟨id,_,hg,h⟩,λbY cs h=>?_,λbY=>?_⟩
 ·rw[aP]at h;split at h
  ·cases h
  ·exact h
 ·rw[aP];split
  ·rename_i he;subst he;rw[hg];rfl
  ·rfl
theorem mF {ν:Nat->Nat} {k:Cx} {g:Gh} (r:Rel ν k g) {id b:Nat} {cs:List AV} {xs:List IV} (hg:get g.h id=some (.cells cs)) (ah:g.φ id=some b)
  (hx:∀(j:Nat) (x:IV),xs[j]?=some x->∃u,g.w.cell? ⟨b,j,none⟩=some u/\RI ν g.I g.w u x) :
  cg ν k g (set g.h id (.bb 0 xs.length [xs])) (λb=>g.I b\/g.φ id=some b):=by
 have cr:=r.ob id _ hg;have bZ:∀b,g.φ id=some b->¬g.I b:=by
  intro b' aO;obtain⟨Cl,h1,h2,_⟩:=cr;rw[aO]at h1;cases h1;exact h2
 have ht:=r.gO (s:=id) (ob:=.bb 0 xs.length [xs]) (p:=g.φ id) (w':=g.w) (I':=λb=>g.I b\/g.φ id=some b) hg bZ (Nat.le_refl _) rfl rfl rfl (λ_ _ _=>rfl) (λ_ h=>.inl h) (λ_ h=>h) (.inl rfl)
  (λu o n ai ho=>by
   unfold aH at ho;rw[hg]at ho;exact ho.elim)
  (λu ai i j hr=>by
   unfold aI at hr ⊢;rw[hg]at hr;simp only[aq,aw];obtain⟨rfl,rfl,b',h1,h2⟩:=hr;exact⟨Nat.le_refl _,λ_=>⟨b',h1,by simpa using h2⟩⟩)
  (λck _=>by
   refine .inr ⟨b,(aw _ _ _).trans ah,.inr ah,⟨λc hc=>by simp at hc;subst hc;rfl,λi j c x h1 h2=>?_⟩⟩;cases i with
   |succ i=>simp at h1
   |zero=>
    simp at h1;subst h1;obtain⟨u,c1,c2⟩:=hx j x h2;exact⟨u,by simpa using c1,ck _ _ c2⟩)
 have aO:bl g.φ id (g.φ id)=g.φ:=by funext i;simp only[bl];split<;>simp_all
 rw[aO]at ht;refine⟨ht.1,ht.2,λ_ h=>.inl h,λb h=>h.imp _root_.id λh=>⟨id,_,hg,h⟩,λbY cs h=>?_,λbY=>?_⟩
 ·rw[aP]at h;split at h
  ·cases h
  ·exact h
 ·rw[aP];split
  ·rename_i he;subst he;rw[hg];rfl
  ·rfl
theorem ky {ν:Nat->Nat} {J:Nat->Prop} {w:World} {p:Option Nat} {e o m:Nat} {es:List (List IV)} (aC:∀b,p=some b->J b/\Row ν J w b e es) {v:Value}
  (h:cF w p e es o m v):RI ν J w v (.sl e ((es.drop o).take m)):=by
 cases hp:p with
 |none=>
  rw[hp]at h;obtain⟨⟨a,rfl⟩,rfl⟩:=h;simpa using .dS a 0 e
 |some b=>
  rw[hp]at h;obtain⟨x,cap,rfl,h2,h3,h4,_⟩:=h;obtain⟨hI,hl,hc⟩:=aC b hp;by_cases hm:m=0
  ·subst hm;simpa using .dS _ cap e
  ·have hx:x=o*e:=h4.resolve_right λh=>hm h.1
   subst hx;have eG:∀(i:Nat) (c:List IV),((es.drop o).take m)[i]?=some c->es[o+i]?=some c:=by
    intro i c hi;rw[List.getElem?_take]at hi;split at hi
    ·rwa [List.getElem?_drop]at hi
    ·cases hi
   have w9:∀(i:Nat) (c:List IV),((es.drop o).take m)[i]?=some c->∃f:Nat->Value,∀(j:Nat) (x:IV),c[j]?=some x->w.cell? ⟨b,(o+i)*e+j,none⟩=some (f j)/\RI ν J w (f j) x:=
    λi c hi=>pick λj x hj=>hc (o+i) j c x (eG i c hi) hj
   obtain⟨F,hF⟩:=q9 w9;refine .sl b (o*e) m cap e _ F hI ?_ h3 (λc bH=>hl c (List.mem_of_mem_drop (List.mem_of_mem_take bH))) (λi j c x h1 h2=>?_) λi j c x h1 h2=>(hF i c h1 j x h2).2
   ·simp;omega
   ·have:=(hF i c h1 j x h2).1
    rwa [Nat.add_mul]at this
theorem fY {ν:Nat->Nat} {J:Nat->Prop} {w:World} {e i j b:Nat} {es:List (List IV)} {c:List IV} (hJ:J b) (aC:Row ν J w b e es) (hc:es[i]?=some c) :
  RI ν J w (.pointer (some ⟨b,i*e+j,none⟩)) (.ptr (c.drop j)):=by
 obtain⟨F,hF⟩:=pick (cs:=c) λl x hx=>aC.2 i l c x hc hx
 refine .ptr b (i*e+j) _ (λl=>F (j+l)) hJ (λl x h=>?_) λl x h=>?_
 ·rw[List.getElem?_drop]at h;have:=(hF _ x h).1
  rwa [<-Nat.add_assoc]at this
 ·rw[List.getElem?_drop]at h;exact(hF _ x h).2
theorem gP {ν:Nat->Nat} {k:Cx} {g:Gh} (r:Rel ν k g) {id v' e o m:Nat} {es:List (List IV)} {ob:Ob} (hg:get g.h id=some ob) (de:ob = .bb v' e es) {v:Value}
  (h:cF g.w (g.φ id) e es o m v):RI ν g.I g.w v (.sl e ((es.drop o).take m)):=by
 subst de;refine ky (λb hp=>?_) h;rcases r.ob id _ hg with⟨h1,_⟩|⟨b',h1,hI,aC⟩
 ·rw[hp]at h1;cases h1
 ·rw[hp]at h1;cases h1;exact⟨hI,aC⟩
theorem gQ {ν:Nat->Nat} {k:Cx} {g:Gh} (r:Rel ν k g) {id v' e i j:Nat} {es:List (List IV)} {c:List IV} (hg:get g.h id=some (.bb v' e es)) (hc:es[i]?=some c) {v:Value}
  (h:∃b,g.φ id=some b/\v = .pointer (some ⟨b,i*e+j,none⟩)):RI ν g.I g.w v (.ptr (c.drop j)):=by
 obtain⟨b,ah,rfl⟩:=h;rcases r.ob id _ hg with⟨h1,_⟩|⟨b',h1,hI,aC⟩
 ·rw[ah]at h1;cases h1
 ·rw[ah]at h1;cases h1;exact fY hI aC hc
def ra (ν:Nat->Nat) (f:AV->M IV):Prop:=
 ∀(k:Cx) (g:Gh) (a:AV) (x:IV) (h':Hp),(f a).run g.h=some (x,h')->Rel ν k g->∀v,RA ν g v a->∃I',cg ν k g h' I'/\RI ν I' g.w v x
theorem ra.list {ν:Nat->Nat} {f:AV->M IV} (hf:ra ν f):∀(cs:List AV) (k:Cx) (g:Gh) (xs:List IV) (h':Hp),(M.aN f cs).run g.h=some (xs,h')->Rel ν k g->
  ∀V:Nat->Value,(∀(j:Nat) (c:AV),cs[j]?=some c->RA ν g (V j) c)->∃I',cg ν k g h' I'/\xs.length=cs.length/\∀(j:Nat) (x:IV),xs[j]?=some x->RI ν I' g.w (V j) x:=by
 intro cs
 induction cs with
 |nil=>
  intro k g xs h' e r V _;obtain⟨rfl,rfl⟩:=b9 e;exact⟨g.I,.refl r,rfl,λj x h=>by simp at h⟩
 |cons c cs ih=>
  intro k g xs h' e r V hV;obtain⟨y,h1,zs,e1,e2,rfl⟩:=bU e;obtain⟨I1,f1,r1⟩:=hf k g c y h1 e1 r (V 0) (hV 0 c rfl);obtain⟨I2,f2,hl,r2⟩:=ih k { g with I:=I1,h:=h1 } zs h' e2 f1.rel (λj=>V (j+1)) λj c' hc=>f1.mono _ _ (hV (j+1) c' (by simpa using hc))
  refine⟨I2,f1.trans f2,by simp[hl],λj x hx=>?_⟩;cases j with
  |zero=>simp at hx;subst hx;exact r1.mono f2.sub λ_ _ _ _ h=>h
  |succ j=>exact r2 j x (by simpa using hx)
theorem iU (ν:Nat->Nat):∀n,ra ν (fz true n):=by
 intro n
 induction n with
 |zero=>intro k g a x h' e;exact(ae e).elim
 |succ n ih=>
  intro k g a x h' e r v ha;cases ha with
  |undef=>exact(ae e).elim
  |agg=>exact(ae e).elim
  |aR=>exact(ae e).elim
  |iv hr=>
   cases hr with
   |az a e'=>obtain⟨rfl,rfl⟩:=af e;exact⟨g.I,.refl r,.dS _ _ _⟩
   |bool b=>obtain⟨rfl,rfl⟩:=af e;exact⟨g.I,.refl r,.bool _⟩
   |int k' n'=>obtain⟨rfl,rfl⟩:=af e;exact⟨g.I,.refl r,.int _ _⟩
   |str s=>obtain⟨rfl,rfl⟩:=af e;exact⟨g.I,.refl r,.str _⟩
   |dS a c e'=>obtain⟨rfl,rfl⟩:=af e;exact⟨g.I,.refl r,.dS _ _ _⟩
   |sl b off n' cap e' es f h1 h2 h3 h4 h5 h6=>obtain⟨rfl,rfl⟩:=af e;exact⟨g.I,.refl r,.sl b off n' cap e' es f h1 h2 h3 h4 h5 h6⟩
   |bh=>obtain⟨rfl,rfl⟩:=af e;exact⟨g.I,.refl r,.bh⟩
   |ptr b off cs f h1 h2 h3=>obtain⟨rfl,rfl⟩:=af e;exact⟨g.I,.refl r,.ptr b off cs f h1 h2 h3⟩
   |fn f ay cs h1 h2=>obtain⟨rfl,rfl⟩:=af e;exact⟨g.I,.refl r,.fn f ay cs h1 h2⟩
   |junk v h1=>obtain⟨rfl,rfl⟩:=af e;exact⟨g.I,.refl r,.junk _ h1⟩
  |@own _ id o m ai jU ho=>
   obtain⟨ob,hg,e2⟩:=M.aM e;unfold aH at ho;rw[hg]at ho;cases ob with
   |cells cs=>exact ho.elim
   |buf v' e' es=>
    obtain⟨hv,e4⟩:=M.aj e2;obtain⟨_,h3,e5,e6⟩:=ag e4;obtain rfl:=aL e5;obtain⟨rfl,rfl⟩:=af e6;have hf:=mc r hg;have df:v'=ai:=by simpa using hv
    refine⟨_,hf,?_⟩;exact gP hf.rel (id:=id) (ob:=.bb v' e' es) (aq _ _ _) rfl (ho.2 df)
   |bb v' e' es=>
    obtain⟨hv,e4⟩:=M.aj e2;obtain⟨rfl,rfl⟩:=af e4;have df:v'=ai:=by simpa using hv
    exact⟨g.I,.refl r,gP r hg rfl (ho.2 df)⟩
   |map _=>exact ho.elim
  |@ref _ id ai i j kz hr=>
   obtain⟨ob,hg,e2⟩:=M.aM e;unfold aI at hr;rw[hg]at hr;cases ob with
   |cells cs=>
    obtain⟨rfl,rfl,b,ah,rfl⟩:=hr;obtain⟨-,e4⟩:=M.aj e2;obtain⟨xs,h3,e5,e6⟩:=ag e4;obtain⟨jv,dg,e8⟩:=M.aM e6;obtain⟨b',aO,bZ,_,hc⟩:=r.ob id _ hg;rw[ah]at aO;cases aO;obtain⟨V,hV⟩:=pick hc;obtain⟨I1,f1,hl,hx⟩:=ih.list cs k g xs _ e5 r V λj c h=>(hV j c h).2.2
    cases jv with
    |buf _ _ _=>exact(ae e8).elim
    |bb _ _ _=>exact(ae e8).elim
    |map _=>exact(ae e8).elim
    |cells Cm=>
     have iJ:=f1.cells id Cm dg;rw[hg]at iJ;cases iJ;obtain⟨_,h5,e9,dm⟩:=ag e8;obtain rfl:=aL e9;obtain⟨rfl,rfl⟩:=af dm;have hlen:∀(j:Nat) (x:IV),xs[j]?=some x->∃c,cs[j]?=some c:=λj x h=>by
      have:j<xs.length:=by
       rcases Nat.lt_or_ge j xs.length with h' | h'
       ·exact h'
       ·rw[List.getElem?_eq_none h']at h;cases h
      exact⟨_,List.getElem?_eq_getElem (by omega)⟩
     have hf:=mF (xs:=xs) f1.rel dg ah λj x h=>let⟨c,bH⟩:=hlen j x h;⟨V j,(hV j c bH).1,hx j x h⟩
     refine⟨_,f1.trans hf,?_⟩;refine .ptr b j (xs.drop j) (λi=>V (j+i)) (.inr ah) (λi x h=>?_) λi x h=>?_
     ·rw[List.getElem?_drop]at h;obtain⟨c,bH⟩:=hlen _ x h;exact(hV _ c bH).1
     ·rw[List.getElem?_drop]at h;exact(hx _ x h).mono hf.sub λ_ _ _ _ h=>h
   |buf v' e' es=>
    obtain⟨hv,e4⟩:=M.aj e2;obtain⟨c,hc,e6⟩:=M.lift_bind e4;obtain⟨_,h4,e7,e8⟩:=ag e6;obtain rfl:=aL e7;obtain⟨rfl,rfl⟩:=af e8;have hf:=mc r hg;have df:v'=ai:=by simpa using hv
    exact⟨_,hf,gQ hf.rel (id:=id) (v':=v') (es:=es) (aq _ _ _) hc (hr.2 df)⟩
   |bb v' e' es=>
    obtain⟨hv,e4⟩:=M.aj e2;obtain⟨c,hc,e6⟩:=M.lift_bind e4;obtain⟨rfl,rfl⟩:=af e6;have df:v'=ai:=by simpa using hv
    exact⟨g.I,.refl r,gQ r hg hc (hr.2 df)⟩
   |map _=>exact(ae e2).elim
  |@bJ f ay cs hn hr=>
   obtain⟨xs,h1,e1,e2⟩:=ag e;obtain⟨rfl,rfl⟩:=af e2;obtain⟨I1,f1,hl,hx⟩:=ih.list cs k g xs _ e1 r (λj=>ay.getD j (.bool true)) λj c h=>by
    have:j<ay.size:=by
     rcases Nat.lt_or_ge j cs.length with h' | h'
     ·omega
     ·rw[List.getElem?_eq_none h']at h;cases h
    exact hr j _ c (by simp[Array.getD,this]) h
   refine⟨I1,f1,.fn f ay xs (by omega) λj v x h1 h2=>?_⟩;have:=hx j x h2
   rwa [show ay.getD j (.bool true)=v from by
    obtain⟨hj,he⟩:=Array.getElem?_eq_some_iff.1 h1;simp[Array.getD,hj,he]]at this
def rb (ν:Nat->Nat) (f:AV->M IV):Prop:=
 ∀(k:Cx) (g:Gh) (a:AV) (x:IV) (h':Hp),(f a).run g.h=some (x,h')->Rel ν k g->∀v,RA ν g v a->
  h'=g.h/\∀J:Nat->Prop,(∀b,g.I b->J b)->(∀id o b,get g.h id=some o->g.φ id=some b->J b)->RI ν J g.w v x
theorem rb.list {ν:Nat->Nat} {f:AV->M IV} (hf:rb ν f) (k:Cx) (g:Gh) (r:Rel ν k g):∀(cs:List AV) (xs:List IV) (h':Hp),(M.aN f cs).run g.h=some (xs,h')->
  ∀V:Nat->Value,(∀(j:Nat) (c:AV),cs[j]?=some c->RA ν g (V j) c)->h'=g.h/\xs.length=cs.length/\
   ∀J:Nat->Prop,(∀b,g.I b->J b)->(∀id o b,get g.h id=some o->g.φ id=some b->J b)->∀(j:Nat) (x:IV),xs[j]?=some x->RI ν J g.w (V j) x:=by
 intro cs
 induction cs with
 |nil=>
  intro xs h' e V _;obtain⟨rfl,rfl⟩:=b9 e;exact⟨rfl,rfl,λ_ _ _ j x h=>by simp at h⟩
 |cons c cs ih=>
  intro xs h' e V hV;obtain⟨y,h1,zs,e1,e2,rfl⟩:=bU e;obtain⟨rfl,r1⟩:=hf k g c y h1 e1 r (V 0) (hV 0 c rfl);obtain⟨rfl,hl,r2⟩:=ih zs h' e2 (λj=>V (j+1)) λj c' hc=>hV (j+1) c' (by simpa using hc)
  refine⟨rfl,by simp[hl],λJ hJ fD j x hx=>?_⟩;cases j with
  |zero=>simp at hx;subst hx;exact r1 J hJ fD
  |succ j=>exact r2 J hJ fD j x (by simpa using hx)
theorem lp (ν:Nat->Nat):∀n,rb ν (fz false n):=by
 intro n
 induction n with
 |zero=>intro k g a x h' e;exact(ae e).elim
 |succ n ih=>
  intro k g a x h' e r v ha;have up:∀{J:Nat->Prop},(∀b,g.I b->J b)->∀{v:Value} {x:IV},RI ν g.I g.w v x->RI ν J g.w v x:=λhJ _ _ h=>h.mono hJ λ_ _ _ _ h=>h
  have Bg:∀{J:Nat->Prop} {b e:Nat} {es:List (List IV)},(∀b,g.I b->J b)->Row ν g.I g.w b e es->Row ν J g.w b e es:=λhJ h=>h.mono (λ_ _=>up hJ) λ_ _ h=>h
  cases ha with
  |undef=>exact(ae e).elim
  |agg=>exact(ae e).elim
  |aR=>exact(ae e).elim
  |iv hr=>
   have key:∀y:IV,(M.ret y).run g.h=some (x,h')->RI ν g.I g.w v y->h'=g.h/\∀J:Nat->Prop,(∀b,g.I b->J b)->(∀id o b,get g.h id=some o->g.φ id=some b->J b)->RI ν J g.w v x:=by
    intro y e hy;obtain⟨rfl,rfl⟩:=af e;exact⟨rfl,λJ hJ _=>up hJ hy⟩
   cases hr with
   |az a e'=>exact key _ e (.dS _ _ _)
   |bool b=>exact key _ e (.bool _)
   |int k' n'=>exact key _ e (.int _ _)
   |str s=>exact key _ e (.str _)
   |dS a c e'=>exact key _ e (.dS _ _ _)
   |sl b off n' cap e' es f h1 h2 h3 h4 h5 h6=>exact key _ e (.sl b off n' cap e' es f h1 h2 h3 h4 h5 h6)
   |bh=>exact key _ e .bh
   |ptr b off cs f h1 h2 h3=>exact key _ e (.ptr b off cs f h1 h2 h3)
   |fn f ay cs h1 h2=>exact key _ e (.fn f ay cs h1 h2)
   |junk v h1=>exact key _ e (.junk _ h1)
  |@own _ id o m ai jU ho=>
   obtain⟨ob,hg,e2⟩:=M.aM e;unfold aH at ho;rw[hg]at ho;cases ob with
   |cells cs=>exact ho.elim
   |buf v' e' es=>
    obtain⟨hv,e4⟩:=M.aj e2;obtain⟨rfl,rfl⟩:=af e4;have df:v'=ai:=by simpa using hv
    refine⟨rfl,λJ hJ fD=>ky (λb hp=>⟨fD id _ b hg hp,?_⟩) (ho.2 df)⟩;rcases r.ob id _ hg with⟨h1,_⟩|⟨b',h1,_,_,aC⟩
    ·rw[hp]at h1;cases h1
    ·rw[hp]at h1;cases h1;exact Bg hJ aC
   |bb v' e' es=>
    obtain⟨hv,e4⟩:=M.aj e2;obtain⟨rfl,rfl⟩:=af e4;have df:v'=ai:=by simpa using hv
    exact⟨rfl,λJ hJ _=>up hJ (gP r hg rfl (ho.2 df))⟩
   |map _=>exact ho.elim
  |@ref _ id ai i j kz hr=>
   obtain⟨ob,hg,e2⟩:=M.aM e;unfold aI at hr;rw[hg]at hr;cases ob with
   |cells cs=>
    obtain⟨rfl,rfl,b,ah,rfl⟩:=hr;obtain⟨-,e4⟩:=M.aj e2;obtain⟨xs,h3,e5,e6⟩:=ag e4;obtain⟨rfl,rfl⟩:=af e6;obtain⟨b',aO,bZ,_,hc⟩:=r.ob id _ hg;rw[ah]at aO;cases aO;obtain⟨V,hV⟩:=pick hc;obtain⟨rfl,hl,hx⟩:=ih.list k g r cs xs _ e5 V λj c h=>(hV j c h).2.2
    have hlen:∀(j:Nat) (x:IV),xs[j]?=some x->∃c,cs[j]?=some c:=λj x h=>by
     have:j<xs.length:=by
      rcases Nat.lt_or_ge j xs.length with h' | h'
      ·exact h'
      ·rw[List.getElem?_eq_none h']at h;cases h
     exact⟨_,List.getElem?_eq_getElem (by omega)⟩
    refine⟨rfl,λJ hJ fD=>.ptr b j (xs.drop j) (λi=>V (j+i)) (fD id _ b hg ah) (λi x h=>?_) λi x h=>?_⟩
    ·rw[List.getElem?_drop]at h;obtain⟨c,bH⟩:=hlen _ x h;exact(hV _ c bH).1
    ·rw[List.getElem?_drop]at h;exact hx J hJ fD _ x h
   |buf v' e' es=>
    obtain⟨hv,e4⟩:=M.aj e2;obtain⟨c,hc,e6⟩:=M.lift_bind e4;obtain⟨rfl,rfl⟩:=af e6;have df:v'=ai:=by simpa using hv
    obtain⟨b,ah,rfl⟩:=hr.2 df;refine⟨rfl,λJ hJ fD=>fY (fD id _ b hg ah) ?_ hc⟩;rcases r.ob id _ hg with⟨h1,_⟩|⟨b',h1,_,_,aC⟩
    ·rw[ah]at h1;cases h1
    ·rw[ah]at h1;cases h1;exact Bg hJ aC
   |bb v' e' es=>
    obtain⟨hv,e4⟩:=M.aj e2;obtain⟨c,hc,e6⟩:=M.lift_bind e4;obtain⟨rfl,rfl⟩:=af e6;have df:v'=ai:=by simpa using hv
    exact⟨rfl,λJ hJ _=>up hJ (gQ r hg hc (hr.2 df))⟩
   |map _=>exact(ae e2).elim
  |@bJ f ay cs hn hr=>
   obtain⟨xs,h1,e1,e2⟩:=ag e;obtain⟨rfl,rfl⟩:=af e2;obtain⟨rfl,hl,hx⟩:=ih.list k g r cs xs _ e1 (λj=>ay.getD j (.bool true)) λj c h=>by
    have:j<ay.size:=by
     rcases Nat.lt_or_ge j cs.length with h' | h'
     ·omega
     ·rw[List.getElem?_eq_none h']at h;cases h
    exact hr j _ c (by simp[Array.getD,this]) h
   refine⟨rfl,λJ hJ fD=>.fn f ay xs (by omega) λj v x h1 h2=>?_⟩;have:=hx J hJ fD j x h2
   rwa [show ay.getD j (.bool true)=v from by
    obtain⟨hj,he⟩:=Array.getElem?_eq_some_iff.1 h1;simp[Array.getD,hj,he]]at this
def bf (ν:Nat->Nat) (k:Cx) (g:Gh) (h':Hp) (r:AV) (res:Result Value):Prop:=
 ∃g' v,res = .ok v g'.w/\g'.h=h'/\Rel ν k g'/\aX ν g g'/\RA ν g' v r
theorem bf.same {ν:Nat->Nat} {k:Cx} {g:Gh} (r:Rel ν k g) {v:Value} {x:AV} {res:Result Value} (hr:res = .ok v g.w) (h:RA ν g v x):bf ν k g g.h x res:=
 ⟨g,v,hr,rfl,r,.refl ν g,h⟩
def gp:TypeDesc->Bool
 |.struct _ | .array _ _=>true
 |_=>false
def fE (P:Program) (t:TypeId) (sz:Nat) (agg:Bool):Bool:=
 match P.underlying t,P.info? t with
 |some d,some i=>gp d==agg&&i.size==sz&&(agg||sz==1)
 |_,_=>false
theorem cZ {P:Program} {t:TypeId} {sz:Nat} {agg:Bool} (h:fE P t sz agg=true) :
  ∃d i,P.underlying t=some d/\P.info? t=some i/\gp d=agg/\i.size=sz/\(agg=false->sz=1):=by
 unfold fE at h;cases hu:P.underlying t with
 |none=>simp[hu]at h
 |some d=>
  cases hi:P.info? t with
  |none=>simp[hu,hi]at h
  |some i=>
   simp only[hu,hi,Bool.and_eq_true,beq_iff_eq,Bool.or_eq_true]at h;refine⟨d,i,rfl,rfl,h.1.1,h.1.2,λha=>?_⟩;rcases h.2 with h' | h'
   ·rw[ha]at h';cases h'
   ·exact h'
theorem cH {P:Program} {t:TypeId} {d:TypeDesc} (h:P.underlying t=some d) (w:World):(isAgg t).run P w = .ok (gp d) w:=by
 cases d<;>simp[isAgg,run_underlying h,gp]
theorem run_sizeOf {P:Program} {t:TypeId} {i:TypeInfo} (h:P.info? t=some i) (w:World):(Go.sizeOf t).run P w = .ok i.size w:=by
 simp[Go.sizeOf,typeInfo,h]
theorem ij {agg:Bool} {l:List AV} {h h':Hp} {r:AV} (e:(mk agg l).run h=some (r,h')):h'=h/\(agg=true/\r = .agg l\/agg=false/\l=[r]):=by
 unfold mk at e;cases agg with
 |true=>simp only[if_true]at e;obtain⟨rfl,rfl⟩:=af e;exact⟨rfl,.inl ⟨rfl,rfl⟩⟩
 |false=>
  simp only[Bool.false_eq_true,if_false]at e
  match l with
  |[]=>exact(ae e).elim
  |[x]=>obtain⟨rfl,rfl⟩:=af e;exact⟨rfl,.inr ⟨rfl,rfl⟩⟩
  |_::_::_=>exact(ae e).elim
theorem jw {ν:Nat->Nat} {P:Program} {g:Gh} {t:TypeId} {sz:Nat} {agg:Bool} (ht:fE P t sz agg=true) {b off:Nat} {l:List AV} (hl:l.length=sz)
  (hc:∀(i:Nat) (x:AV),l[i]?=some x->∃v,g.w.cell? ⟨b,off+i,none⟩=some v/\v.oneCell'=true/\RA ν g v x) {r:AV} (hr:agg=true/\r = .agg l\/agg=false/\l=[r]) :
  ∃v,(loadVar t ⟨b,off,none⟩).run P g.w = .ok v g.w/\RA ν g v r:=by
 obtain⟨d,i,hu,hi,ha,hs,h1⟩:=cZ ht;obtain⟨V,hV⟩:=pick hc;rcases hr with⟨dq,rfl⟩|⟨dq,rfl⟩
 ·have dI:(loadCells ⟨b,off,none⟩ i.size).run P g.w = .ok ((List.range i.size).map V).toArray g.w:=run_loadCells g.w _ _ V λj hj=>by
   have:=(hV j (l[j]'(by omega)) (List.getElem?_eq_getElem (by omega))).1
   rwa [Addr.add_lit]
  refine⟨.agg ((List.range i.size).map V).toArray,?_,.agg (by simp;omega) (λj v h=>?_) λj v c h1 h2=>?_⟩
  ·simp[loadVar,cH hu,ha,dq,run_sizeOf hi,dI]
  ·obtain⟨hj,rfl⟩:j<i.size/\V j=v:=by
    have hj:j<i.size:=by
     rcases Nat.lt_or_ge j i.size with h' | h'
     ·exact h'
     ·simp[List.getElem?_eq_none (show(List.range i.size).length<=j by simpa using h')]at h
    exact⟨hj,by simpa[hj]using h⟩
   exact(hV j (l[j]'(by omega)) (List.getElem?_eq_getElem (by omega))).2.1
  ·have hj:j<l.length:=by
    rcases Nat.lt_or_ge j l.length with h' | h'
    ·exact h'
    ·rw[List.getElem?_eq_none h']at h2;cases h2
   obtain rfl:V j=v:=by simpa[show j<i.size by omega]using h1
   exact(hV j c h2).2.2
 ·have h0:=hV 0 r rfl;refine⟨V 0,?_,h0.2.2⟩;have:=h0.1;simp only[Nat.add_zero]at this;simp[loadVar,cH hu,ha,dq,this]
theorem me {ν:Nat->Nat} {k:Cx} {g:Gh} (r:Rel ν k g) {id ai i j sz:Nat} {ob:Ob} {l:List AV} (hg:get g.h id=some ob) (hl:dc ob ai i j sz=some l) {v:Value}
  (h:aI g v id ai i j):∃b off,v = .pointer (some ⟨b,off,none⟩)/\∀(m:Nat) (x:AV),l[m]?=some x->∃v,g.w.cell? ⟨b,off+m,none⟩=some v/\v.oneCell'=true/\RA ν g v x:=by
 unfold aI at h;rw[hg]at h;have cr:=r.ob id _ hg;have row:∀{b e:Nat} {es:List (List IV)} {c:List IV},Row ν g.I g.w b e es->es[i]?=some c->∀(m:Nat) (x:AV),(((c.drop j).take sz).map AV.iv)[m]?=some x->
   ∃v,g.w.cell? ⟨b,i*e+j+m,none⟩=some v/\v.oneCell'=true/\RA ν g v x:=by
  intro b e es c aC hc m x hx;simp only[List.getElem?_map,List.getElem?_take,Option.map_eq_some_iff]at hx;obtain⟨y,hy,rfl⟩:=hx;split at hy
  ·rw[List.getElem?_drop]at hy;obtain⟨v,h1,h2⟩:=aC.2 i (j+m) c y hc hy;exact⟨v,by rw[Nat.add_assoc];exact h1,h2.one,.iv h2⟩
  ·cases hy
 cases ob with
 |cells cs=>
  obtain⟨rfl,rfl,b,ah,rfl⟩:=h;obtain⟨b',aO,_,_,hc⟩:=cr;rw[ah]at aO;cases aO;simp only[dc,true_and,if_true,Option.some.injEq]at hl;subst hl;refine⟨b,j,rfl,λm x hx=>?_⟩;rw[List.getElem?_take]at hx;split at hx
  ·rw[List.getElem?_drop]at hx;exact hc _ _ hx
  ·cases hx
 |buf v' e es=>
  simp only[dc]at hl;split at hl
  ·rename_i hv;obtain⟨b,ah,rfl⟩:=h.2 hv;simp only[Option.map_eq_some_iff]at hl;obtain⟨c,hc,rfl⟩:=hl;rcases cr with⟨h1,_⟩|⟨b',h1,_,_,aC⟩
   ·rw[ah]at h1;cases h1
   ·rw[ah]at h1;cases h1;exact⟨b,_,rfl,row aC hc⟩
  ·cases hl
 |bb v' e es=>
  simp only[dc]at hl;split at hl
  ·rename_i hv;obtain⟨b,ah,rfl⟩:=h.2 hv;simp only[Option.map_eq_some_iff]at hl;obtain⟨c,hc,rfl⟩:=hl;rcases cr with⟨h1,_⟩|⟨b',h1,_,aC⟩
   ·rw[ah]at h1;cases h1
   ·rw[ah]at h1;cases h1;exact⟨b,_,rfl,row aC hc⟩
  ·cases hl
 |map _=>simp[dc]at hl
theorem la {ν:Nat->Nat} {P:Program} {k:Cx} {g:Gh} (r:Rel ν k g) {t:TypeId} {sz:Nat} {agg:Bool} (ht:fE P t sz agg=true) {v:Value} {x y:AV} {h':Hp} (hv:RA ν g v x)
  (e:(load agg sz x).run g.h=some (y,h')):h'=g.h/\∃u,(Instr.loadAt t v).run P g.w = .ok u g.w/\RA ν g u y:=by
 cases hv with
 |undef=>exact(ae e).elim
 |agg=>exact(ae e).elim
 |aR=>exact(ae e).elim
 |own=>exact(ae e).elim
 |bJ=>exact(ae e).elim
 |iv hr=>
  cases hr with
  |ptr b off cs f hI hc hr=>
   obtain⟨hl,e2⟩:=M.aj e;obtain⟨rfl,hm⟩:=ij e2;have jx:((cs.take sz).map AV.iv).length=sz:=by simpa using hl
   obtain⟨u,hu,hR⟩:=jw (ν:=ν) (g:=g) ht (b:=b) (off:=off) jx (λi x hx=>by
    simp only[List.getElem?_map,Option.map_eq_some_iff,List.getElem?_take]at hx;obtain⟨y,hy,rfl⟩:=hx;split at hy
    ·exact⟨f i,hc i y hy,(hr i y hy).one,.iv (hr i y hy)⟩
    ·cases hy) hm
   exact⟨rfl,u,by simp[Instr.loadAt,Instr.sureAddr,hu],hR⟩
  |_=>exact(ae e).elim
 |ref kz hr=>
  obtain⟨ob,hg,e2⟩:=M.aM e;obtain⟨l,hl,e4⟩:=M.lift_bind e2;obtain⟨jx,e6⟩:=M.aj e4;obtain⟨rfl,hm⟩:=ij e6;obtain⟨b,off,rfl,hc⟩:=me r hg hl hr;obtain⟨u,hu,hR⟩:=jw (ν:=ν) (g:=g) ht (b:=b) (off:=off) (by simpa using jx) hc hm;exact⟨rfl,u,by simp[Instr.loadAt,Instr.sureAddr,hu],hR⟩
theorem sk {ν:Nat->Nat} {P:Program} {k:Cx} {g:Gh} (r:Rel ν k g) {t:TypeId} {sz:Nat} {agg:Bool} (ht:fE P t sz agg=true) {v:Value} {x y:AV} {h':Hp} (hv:RA ν g v x)
  (e:(load agg sz x).run g.h=some (y,h')):bf ν k g h' y ((Instr.loadAt t v).run P g.w):=by
 obtain⟨rfl,u,hu,hR⟩:=la r ht hv e;exact .same r hu hR
theorem aI.move {g:Gh} {v:Value} {id ai i j:Nat} {ob:Ob} (hg:get g.h id=some ob) (hv:valid ob ai i=true) (h:aI g v id ai i j) (n:Nat) :
  ∃b off,v = .pointer (some ⟨b,off,none⟩)/\aI g (.pointer (some ⟨b,off+n,none⟩)) id ai i (j+n):=by
 unfold aI at h ⊢;rw[hg]at h ⊢;cases ob with
 |cells cs=>
  obtain⟨rfl,rfl,b,ah,rfl⟩:=h;exact⟨b,j,rfl,rfl,rfl,b,ah,rfl⟩
 |buf v' e es=>
  obtain⟨b,ah,rfl⟩:=h.2 (by simpa[valid]using hv);exact⟨b,_,rfl,h.1,λ_=>⟨b,ah,by rw[Nat.add_assoc]⟩⟩
 |bb v' e es=>
  obtain⟨b,ah,rfl⟩:=h.2 (by simpa[valid]using hv);exact⟨b,_,rfl,h.1,λ_=>⟨b,ah,by rw[Nat.add_assoc]⟩⟩
 |map _=>simp[valid]at hv
theorem RI.drop {ν:Nat->Nat} {I:Nat->Prop} {w:World} {b off n:Nat} {cs:List IV} (h:RI ν I w (.pointer (some ⟨b,off,none⟩)) (.ptr cs)) :
  RI ν I w (.pointer (some ⟨b,off+n,none⟩)) (.ptr (cs.drop n)):=by
 cases h with
 |ptr _ _ _ f hI hc hr=>
  refine .ptr b (off+n) _ (λj=>f (n+j)) hI (λj x hx=>?_) λj x hx=>?_
  ·rw[List.getElem?_drop]at hx;rw[Nat.add_assoc];exact hc _ _ hx
  ·rw[List.getElem?_drop]at hx;exact hr _ _ hx
def pD (P:Program) (s:TypeId) (f off:Nat):Bool:=
 match P.underlying s with
 |some (.struct fs)=>match fs[f]? with
  |some fd=>fd.offset==off&&(match P.info? fd.type with | some i=>i.size != 0 | none=>false)
  |none=>false
 |_=>false
theorem sm {ν:Nat->Nat} {P:Program} {k:Cx} {g:Gh} (r:Rel ν k g) {s:TypeId} {f off:Nat} (ht:pD P s f off=true) {v:Value} {x y:AV} {h':Hp} (hv:RA ν g v x)
  (e:(cU off x).run g.h=some (y,h')):bf ν k g h' y ((Instr.fieldAt s v f).run P g.w):=by
 unfold pD at ht;split at ht
 ·rename_i fs hu;split at ht
  ·rename_i fd hf;simp only[Bool.and_eq_true,beq_iff_eq]at ht;obtain⟨rfl,bC⟩:=ht;split at bC
   ·rename_i i hi;have bG:¬i.size=0:=by simpa using bC
    have key:∀(b o:Nat),(Instr.fieldAt s (.pointer (some ⟨b,o,none⟩)) f).run P g.w = .ok (.pointer (some ⟨b,o+fd.offset,none⟩)) g.w:=by
     intro b o;simp[Instr.fieldAt,run_underlying hu,hf,Instr.sureAddr,fieldPlace,run_sizeOf hi,bG,Addr.add_lit]
    cases hv with
    |undef=>exact(ae e).elim
    |agg=>exact(ae e).elim
    |aR=>exact(ae e).elim
    |own=>exact(ae e).elim
    |bJ=>exact(ae e).elim
    |iv hr=>
     cases hr with
     |ptr b o cs f' hI hc hr=>
      obtain⟨-,e2⟩:=M.aj e;obtain⟨rfl,rfl⟩:=af e2;exact .same r (key _ _) (.iv (RI.drop (.ptr b o cs f' hI hc hr)))
     |_=>exact(ae e).elim
    |ref kz hr=>
     obtain⟨ob,hg,e2⟩:=M.aM e;obtain⟨ct,e4⟩:=M.aj e2;obtain⟨rfl,rfl⟩:=af e4;obtain⟨b,o,rfl,hR⟩:=hr.move hg ct fd.offset;exact .same r (key _ _) (.ref rfl hR)
   ·cases bC
  ·cases ht
 ·cases ht
theorem cQ {x:AV} {n:Int} {h h':Hp} (e:(idx x).run h=some (n,h')):h'=h/\∃k,x = .iv (.int k n):=by
 unfold idx at e;split at e
 ·obtain⟨rfl,rfl⟩:=af e;exact⟨rfl,_,rfl⟩
 ·exact(ae e).elim
def pE (P:Program) (t:TypeId) (len e:Nat):Bool:=
 match P.underlying t with
 |some (.array n el)=>n==len&&(match P.info? el with | some i=>i.size==e | none=>false)
 |_=>false
theorem re {P:Program} {t:TypeId} {len e:Nat} (h:pE P t len e=true):∃el i,P.underlying t=some (.array len el)/\P.info? el=some i/\i.size=e:=by
 unfold pE at h;split at h
 ·rename_i n el hu;simp only[Bool.and_eq_true,beq_iff_eq]at h;obtain⟨rfl,h⟩:=h;split at h
  ·rename_i i hi;exact⟨el,i,hu,hi,by simpa using h⟩
  ·cases h
 ·cases h
theorem sn {ν:Nat->Nat} {P:Program} {k:Cx} {g:Gh} (r:Rel ν k g) {t:TypeId} {len e:Nat} (ht:pE P t len e=true) {v u:Value} {x z y:AV} {h':Hp} (hv:RA ν g v x) (hu:RA ν g u z)
  (e':(eD len e x z).run g.h=some (y,h')):bf ν k g h' y ((Instr.indexAt t v u).run P g.w):=by
 obtain⟨el,i,dv,hi,rfl⟩:=re ht;obtain⟨n,h1,e1,e2⟩:=ag e';obtain⟨rfl,kk,rfl⟩:=cQ e1;cases hu with
 |iv hz=>
  cases hz;obtain⟨hn,e4⟩:=M.aj e2;have dJ:0<=n/\n<len:=by simpa using hn
  have key:∀(b o:Nat),(Instr.indexAt t (.pointer (some ⟨b,o,none⟩)) (.int kk n)).run P g.w = .ok (.pointer (some ⟨b,o+n.toNat*i.size,none⟩)) g.w:=by
   intro b o;simp[Instr.indexAt,run_underlying dv,Instr.sureAddr,asIntOf,dJ,run_sizeOf hi,Addr.add_lit]
  cases hv with
  |undef=>exact(ae e4).elim
  |agg=>exact(ae e4).elim
  |aR=>exact(ae e4).elim
  |own=>exact(ae e4).elim
  |bJ=>exact(ae e4).elim
  |iv hr=>
   cases hr with
   |ptr b o cs f' hI hc hr=>
    obtain⟨-,e2⟩:=M.aj e4;obtain⟨rfl,rfl⟩:=af e2;exact .same r (key _ _) (.iv (RI.drop (.ptr b o cs f' hI hc hr)))
   |_=>exact(ae e4).elim
  |ref kz hr=>
   obtain⟨ob,hg,e2⟩:=M.aM e4;obtain⟨ct,e4⟩:=M.aj e2;obtain⟨rfl,rfl⟩:=af e4;obtain⟨b,o,rfl,hR⟩:=hr.move hg ct (n.toNat*i.size);exact .same r (key _ _) (.ref rfl hR)
def sliceB (P:Program) (t:TypeId) (e:Nat):Bool:=
 match P.underlying t with
 |some (.slice el)=>(match P.info? el with | some i=>i.size==e | none=>false)
 |_=>false
theorem dh {P:Program} {t:TypeId} {e:Nat} (h:sliceB P t e=true):∃el i,P.underlying t=some (.slice el)/\P.info? el=some i/\i.size=e:=by
 unfold sliceB at h;split at h
 ·rename_i el hu;split at h
  ·rename_i i hi;exact⟨el,i,hu,hi,by simpa using h⟩
  ·cases h
 ·cases h
theorem tP {ν:Nat->Nat} {P:Program} {k:Cx} {g:Gh} (r:Rel ν k g) {t:TypeId} {e:Nat} (ht:sliceB P t e=true) {v u:Value} {x z y:AV} {h':Hp} (hv:RA ν g v x) (hu:RA ν g u z)
  (e':(gL e x z).run g.h=some (y,h')):bf ν k g h' y ((Instr.indexAt t v u).run P g.w):=by
 obtain⟨el,i,dv,hi,rfl⟩:=dh ht;obtain⟨n,h1,e1,e2⟩:=ag e';obtain⟨rfl,kk,rfl⟩:=cQ e1;cases hu with
 |iv hz=>
  cases hz;obtain⟨hn,e4⟩:=M.aj e2;have dJ:0<=n:=by simpa using hn
  have key:∀(b o len cap:Nat),n<(len:Int)->(Instr.indexAt t (.slice (some ⟨b,o,none⟩) len cap) (.int kk n)).run P g.w = .ok (.pointer (some ⟨b,o+n.toNat*i.size,none⟩)) g.w:=by
   intro b o len cap aV;simp[Instr.indexAt,run_underlying dv,asIntOf,dJ,aV,run_sizeOf hi,Addr.add_lit]
  cases hv with
  |undef=>exact(ae e4).elim
  |agg=>exact(ae e4).elim
  |aR=>exact(ae e4).elim
  |ref=>exact(ae e4).elim
  |bJ=>exact(ae e4).elim
  |iv hr=>
   cases hr with
   |dS a cap aJ=>
    obtain⟨-,e2⟩:=M.aj e4;obtain⟨c,hc,e6⟩:=M.lift_bind e2;simp at hc
   |sl b off m cap aJ es f hI hm eF hl hc hr=>
    obtain⟨he,e2⟩:=M.aj e4;obtain⟨c,bH,e6⟩:=M.lift_bind e2;obtain⟨rfl,rfl⟩:=af e6;have cB:aJ=i.size:=by simpa using he
    subst cB;have aV:n.toNat<es.length:=by
     rcases Nat.lt_or_ge n.toNat es.length with h | h
     ·exact h
     ·rw[List.getElem?_eq_none h]at bH;cases bH
    refine .same r (key b off m cap (by omega)) (.iv (.ptr b _ c (λj=>f n.toNat j) hI (λj x hx=>?_) λj x hx=>hr _ _ _ _ bH hx));exact hc _ _ _ _ bH hx
   |_=>exact(ae e4).elim
  |@own _ id o m ai jU ho=>
   obtain⟨hm,e2⟩:=M.aj e4;obtain⟨ob,hg,e5⟩:=M.aM e2;have c8:n<(m:Int):=by simpa using hm
   unfold aH at ho;rw[hg]at ho;have fin:∀{v' aJ:Nat} {es:List (List IV)},(get g.h id=some (.buf v' aJ es)\/get g.h id=some (.bb v' aJ es))->v'=ai->aJ=i.size->cF g.w (g.φ id) aJ es o m v->
     bf ν k g g.h (.ref id ai (o+n.toNat) 0) ((Instr.indexAt t v (.int kk n)).run P g.w):=by
    intro v' aJ es dg hv he hs;cases ah:g.φ id with
    |none=>rw[ah]at hs;obtain⟨_,rfl⟩:=hs;omega
    |some b=>
     rw[ah]at hs;obtain⟨x,cap,rfl,h2,h3,h4,_⟩:=hs;have hx:x=o*aJ:=h4.resolve_right λh=>by have:=h.1;omega
     subst hx he;refine .same r (key b _ m cap c8) (.ref rfl ?_);unfold aI;rcases dg with dg | dg<;>rw[dg]<;>exact⟨Nat.le_of_eq hv.symm,λ_=>⟨b,ah,by rw[Nat.add_mul];rfl⟩⟩
   cases ob with
   |cells cs=>exact ho.elim
   |buf v' aJ es=>
    obtain⟨cz,e7⟩:=M.aj e5;obtain⟨rfl,rfl⟩:=af e7;simp only[Bool.and_eq_true,beq_iff_eq]at cz;exact fin (.inl hg) cz.1 cz.2 (ho.2 cz.1)
   |bb v' aJ es=>
    obtain⟨cz,e7⟩:=M.aj e5;obtain⟨rfl,rfl⟩:=af e7;simp only[Bool.and_eq_true,beq_iff_eq]at cz;exact fin (.inr hg) cz.1 cz.2 (ho.2 cz.1)
   |map _=>exact ho.elim
section
variable {ν:Nat->Nat} {P:Program} {k:Cx} {g:Gh}
theorem RA.int {v:Value} {kk:IntKind} {n:Int} (h:RA ν g v (.iv (.int kk n))):v = .int kk n:=by cases h with | iv h=>cases h;rfl
theorem RA.bool {v:Value} {b:Bool} (h:RA ν g v (.iv (.bool b))):v = .bool b:=by cases h with | iv h=>cases h;rfl
theorem RA.str {v:Value} {s:ByteArray} (h:RA ν g v (.iv (.str s))):v = .string s:=by cases h with | iv h=>cases h;rfl
theorem RA.bh {v:Value} (h:RA ν g v (.iv .bh)):v = .pointer none:=by cases h with | iv h=>cases h;rfl
theorem RA.ptr {v:Value} {cs:List IV} (h:RA ν g v (.iv (.ptr cs))):∃b off,v = .pointer (some ⟨b,off,none⟩):=by cases h with | iv h=>cases h;exact⟨_,_,rfl⟩
theorem mkInt {kk:IntKind} {n:Int}:RA ν g (.int kk n) (.iv (.int kk n)):=.iv (.int _ _)
theorem bO {b:Bool}:RA ν g (.bool b) (.iv (.bool b)):=.iv (.bool _)
theorem mkStr {s:ByteArray}:RA ν g (.string s) (.iv (.str s)):=.iv (.str _)
theorem jZ {t:TypeId} {sz off:Nat} {agg:Bool} (ht:fE P t sz agg=true) {vs:Array Value} {cs:List AV} (hv:RA ν g (.agg vs) (.agg cs)) (hl:((cs.drop off).take sz).length=sz)
  {r:AV} (hr:agg=true/\r = .agg ((cs.drop off).take sz)\/agg=false/\(cs.drop off).take sz=[r]) (w:World):∃v,(part t vs off).run P w = .ok v w/\RA ν g v r:=by
 obtain⟨d,i,hu,hi,ha,hs,h1⟩:=cZ ht;subst hs;cases hv with
 |agg hn ho fF=>
  have cK:off+i.size<=cs.length\/i.size=0:=by simp only[List.length_take,List.length_drop]at hl;omega
  rcases hr with⟨dq,rfl⟩|⟨dq,hr⟩
  ·have key:∀(j:Nat) (v:Value),(vs.extract off (off+i.size))[j]?=some v->vs[off+j]?=some v/\j<i.size:=by
    intro j v h;rw[Array.getElem?_extract]at h;split at h
    ·exact⟨h,by omega⟩
    ·cases h
   refine⟨.agg (vs.extract off (off+i.size)),by simp[part,cH hu,ha,dq,run_sizeOf hi],.agg (by simp only[Array.size_extract,hl];omega) (λj v h=>ho _ v (key j v h).1) λj v c h h2=>?_⟩;obtain⟨h',aV⟩:=key j v h;rw[List.getElem?_take,if_pos aV,List.getElem?_drop]at h2;exact fF _ v c h' h2
  ·have hz:i.size=1:=h1 dq;have hc:cs[off]?=some r:=by
    have:((cs.drop off).take i.size)[0]?=some r:=by rw[hr];rfl
    rw[List.getElem?_take,if_pos (by omega),List.getElem?_drop]at this;simpa using this
   have aV:off<vs.size:=by omega
   refine⟨vs[off],by simp[part,cH hu,ha,dq,Array.getElem?_eq_getElem aV],fF off _ r (Array.getElem?_eq_getElem aV) hc⟩
theorem mV {agg:Bool} {off sz:Nat} {x y:AV} {h h':Hp} (e:(fC agg off sz x).run h=some (y,h')) :
  h'=h/\∃cs,x = .agg cs/\((cs.drop off).take sz).length=sz/\(agg=true/\y = .agg ((cs.drop off).take sz)\/agg=false/\(cs.drop off).take sz=[y]):=by
 unfold fC at e;split at e
 ·rename_i cs;obtain⟨hl,e2⟩:=M.aj e;obtain⟨rfl,hm⟩:=ij e2;exact⟨rfl,cs,rfl,by simpa using hl,hm⟩
 ·exact(ae e).elim
theorem RA.dN {v:Value} {cs:List AV} (h:RA ν g v (.agg cs)):∃vs,v = .agg vs:=by cases h;exact⟨_,rfl⟩
def sq (P:Program) (s:TypeId) (f:Nat) (agg:Bool) (off sz:Nat):Bool:=
 match P.underlying s with
 |some (.struct fs)=>match fs[f]? with
  |some fd=>fd.offset==off&&fE P fd.type sz agg
  |none=>false
 |_=>false
theorem tQ (r:Rel ν k g) {s:TypeId} {f off sz:Nat} {agg:Bool} (ht:sq P s f agg off sz=true) {v:Value} {x y:AV} {h':Hp} (hv:RA ν g v x)
  (e:(fC agg off sz x).run g.h=some (y,h')):bf ν k g h' y ((Instr.field s v f).run P g.w):=by
 unfold sq at ht;split at ht
 ·rename_i fs hu;split at ht
  ·rename_i fd hf;simp only[Bool.and_eq_true,beq_iff_eq]at ht;obtain⟨rfl,ht⟩:=ht;obtain⟨rfl,cs,rfl,hl,hm⟩:=mV e;obtain⟨vs,rfl⟩:=hv.dN;obtain⟨u,dv,hR⟩:=jZ ht hv hl hm g.w;exact .same r (by simp[Instr.field,run_underlying hu,hf,asAgg,dv]) hR
  ·cases ht
 ·cases ht
def pF (P:Program) (t:TypeId) (agg:Bool) (len e:Nat):Bool:=
 match P.underlying t with
 |some (.array n el)=>n==len&&fE P el e agg
 |_=>false
theorem sr (r:Rel ν k g) {t:TypeId} {len e:Nat} {agg:Bool} (ht:pF P t agg len e=true) {v u:Value} {x z y:AV} {h':Hp} (hv:RA ν g v x) (hu:RA ν g u z)
  (e':(eP agg len e x z).run g.h=some (y,h')):bf ν k g h' y ((Instr.index t v u).run P g.w):=by
 unfold pF at ht;split at ht
 ·rename_i n el dv;simp only[Bool.and_eq_true,beq_iff_eq]at ht;obtain⟨rfl,ht⟩:=ht;obtain⟨m,h1,e1,e2⟩:=ag e';obtain⟨rfl,kk,rfl⟩:=cQ e1;obtain rfl:=hu.int;obtain⟨hm,e4⟩:=M.aj e2;have c8:0<=m/\m<n:=by simpa using hm
  obtain⟨rfl,cs,rfl,hl,tR⟩:=mV e4;obtain⟨vs,rfl⟩:=hv.dN;obtain⟨d,i,_,hi,_,hs,_⟩:=cZ ht;obtain⟨u,zR,hR⟩:=jZ ht hv hl tR g.w;exact .same r (by simp[Instr.index,run_underlying dv,asIntOf,c8,run_sizeOf hi,hs,zR]) hR
 ·cases ht
theorem su (r:Rel ν k g) {t:TypeId} (ht:P.underlying t=some .string) {v u:Value} {x z y:AV} {h':Hp} (hv:RA ν g v x) (hu:RA ν g u z)
  (e:(fK x z).run g.h=some (y,h')):bf ν k g h' y ((Instr.index t v u).run P g.w):=by
 unfold fK at e;split at e
 ·rename_i s kk n;obtain rfl:=hv.str;obtain rfl:=hu.int;obtain⟨hn,e2⟩:=M.aj e;have dJ:0<=n:=by simpa using hn
  split at e2
  ·rename_i b hb;obtain⟨rfl,rfl⟩:=af e2;exact .same r (by simp[Instr.index,run_underlying ht,asIntOf,dJ,hb]) mkInt
  ·exact(ae e2).elim
 ·exact(ae e).elim
theorem oq {op:BinOp} {t:TypeId} {kk k':IntKind} {a b:Int} {z:IV} (h:dZ op kk k' a b=some z) (w:World) :
  ∃v,(binOp op t (.int kk a) (.int k' b)).run P w = .ok v w/\RI ν g.I g.w v z:=by
 cases op
 case shl=>
  simp only[dZ]at h;split at h
  ·cases h
  ·rename_i hb;cases h;exact⟨_,by simp[binOp,Op.shift,hb],.int _ _⟩
 case shr=>
  simp only[dZ]at h;split at h
  ·cases h
  ·rename_i hb;cases h;exact⟨_,by simp[binOp,Op.shift,hb],.int _ _⟩
 all_goals
  simp only[dZ]at h;split at h
  case isFalse=>cases h
  rename_i hk;subst hk
 case quo=>
  split at h
  ·cases h
  ·rename_i hb;cases h;exact⟨_,by simp[binOp,Op.intDiv,hb],.int _ _⟩
 case rem=>
  split at h
  ·cases h
  ·rename_i hb;cases h;exact⟨_,by simp[binOp,Op.intDiv,hb],.int _ _⟩
 all_goals cases h
 case add | sub | mul=>exact⟨_,by simp[binOp,Op.intArith],.int _ _⟩
 case and | or | xor | andNot=>exact⟨_,by simp[binOp];rfl,.int _ _⟩
 all_goals exact⟨_,by simp[binOp,Op.intCmp],.bool _⟩
theorem ot {op:BinOp} {t:TypeId} {a b:ByteArray} {z:IV} (h:iI op a b=some z) (w:World) :
  ∃v,(binOp op t (.string a) (.string b)).run P w = .ok v w/\RI ν g.I g.w v z:=by
 cases op<;>simp only[iI]at h<;>(try cases h)
 case add=>
  split at h
  ·rename_i hb;cases h;refine⟨.string (a++b),?_,.str _⟩;have:¬(9223372036854775807:Int)<((a.size:Int)+b.size):=by omega
   simp[binOp,Op.stringOp,this]
  ·cases h
 all_goals exact⟨_,by simp[binOp,Op.stringOp,pB,beq_toListBytes],.bool _⟩
def Bh (P:Program) (op:BinOp) (t:TypeId) (q:Nat):Bool:=
 match q with
 |0=>true
 |1=>(match P.underlying t with | some .bool=>true | _=>false)
 |2=>(match P.underlying t with | some (.pointer _)=>true | _=>false)
 |_=>op==op
theorem mf (d:Nat) {t el:TypeId} (h:P.underlying t=some (.pointer el)) (w:World):(Op.equalIn (d+1) t (.pointer none) (.pointer none)).run P w = .ok true w:=by simp[Op.equalIn,run_underlying h]
theorem iV (d:Nat) {t el:TypeId} (h:P.underlying t=some (.pointer el)) (a:Addr) (w:World):(Op.equalIn (d+1) t (.pointer (some a)) (.pointer none)).run P w = .ok false w:=by simp[Op.equalIn,run_underlying h]
theorem iW (d:Nat) {t el:TypeId} (h:P.underlying t=some (.pointer el)) (a:Addr) (w:World):(Op.equalIn (d+1) t (.pointer none) (.pointer (some a))).run P w = .ok false w:=by simp[Op.equalIn,run_underlying h]
theorem ik {t:TypeId} {a b:Option Addr} {z:Bool} (h:∀(d:Nat) (w:World),(Op.equalIn (d+1) t (.pointer a) (.pointer b)).run P w = .ok z w) (x y:Operand) (w:World) :
  ((do eqGuard .eql t x y (.pointer a) (.pointer b);binOp .eql t (.pointer a) (.pointer b):Sem Value).run P w = .ok (.bool z) w)/\
  ((do eqGuard .neq t x y (.pointer a) (.pointer b);binOp .neq t (.pointer a) (.pointer b):Sem Value).run P w = .ok (.bool (!z)) w):=by
 have h':(Op.equal t (.pointer a) (.pointer b)).run P w = .ok z w:=h 9999 w;constructor
 ·simp only[Sem.run_bind,eqGuard_at_pointer,Sem.run_pure,Result.andThen_ok,binOp];simp[h']
 ·simp only[Sem.run_bind,eqGuard_at_pointer,Sem.run_pure,Result.andThen_ok,binOp];simp[h']
theorem tS (r:Rel ν k g) {op:BinOp} {t:TypeId} {q:Nat} (ht:Bh P op t q=true) {a b:Operand} {v u:Value} {x z:AV} {y:IV} (hv:RA ν g v x) (hu:RA ν g u z) (e:bin op q x z=some y) :
  bf ν k g g.h (.iv y) ((do eqGuard op t a b v u;binOp op t v u:Sem Value).run P g.w):=by
 unfold bin at e;split at e
 ·obtain rfl:=hv.int;obtain rfl:=hu.int;obtain⟨w',h1,h2⟩:=oq (ν:=ν) (P:=P) (g:=g) (t:=t) e g.w;exact .same r (by simp[eqGuard_at_int,h1]) (.iv h2)
 ·obtain rfl:=hv.str;obtain rfl:=hu.str;obtain⟨w',h1,h2⟩:=ot (ν:=ν) (P:=P) (g:=g) (t:=t) e g.w;exact .same r (by simp[eqGuard_at_string,h1]) (.iv h2)
 ·obtain rfl:=hv.bool;obtain rfl:=hu.bool;have dC:P.underlying t=some .bool:=by
   simp only[Bh]at ht;split at ht
   ·assumption
   ·cases ht
  split at e
  ·cases e;exact .same r (by simp only[Sem.run_bind,eqGuard_at_bool,Sem.run_pure,Result.andThen_ok];exact run_eql_bool _ _ _ _ dC) bO
  ·cases e;refine .same r (v:=.bool (!_)) ?_ bO;simp only[Sem.run_bind,eqGuard_at_bool,Sem.run_pure,Result.andThen_ok,binOp];simp[run_equal_bool g.w t _ _ dC]
  ·cases e
 case h_7=>cases e
 all_goals
  have dC:∃el,P.underlying t=some (.pointer el):=by
   simp only[Bh]at ht;split at ht
   ·exact⟨_,by assumption⟩
   ·cases ht
  obtain⟨el,dC⟩:=dC
 ·obtain rfl:=hv.bh;obtain rfl:=hu.bh;have key:=ik (P:=P) (λd w=>mf d dC w) a b g.w;split at e
  ·cases e;exact .same r key.1 bO
  ·cases e;exact .same r key.2 bO
  ·cases e
 ·obtain⟨b',off,rfl⟩:=hv.ptr;obtain rfl:=hu.bh;have key:=ik (P:=P) (λd w=>iV d dC ⟨b',off,none⟩ w) a b g.w;split at e
  ·cases e;exact .same r key.1 bO
  ·cases e;exact .same r key.2 bO
  ·cases e
 ·obtain rfl:=hv.bh;obtain⟨b',off,rfl⟩:=hu.ptr;have key:=ik (P:=P) (λd w=>iW d dC ⟨b',off,none⟩ w) a b g.w;split at e
  ·cases e;exact .same r key.1 bO
  ·cases e;exact .same r key.2 bO
  ·cases e
def dy (q:Nat) (d:Option TypeDesc):Bool:=
 match d with
 |some (.int _)=>q==0
 |some .bool=>q==1
 |some .string=>q==2
 |_=>false
theorem nH {d:Option TypeDesc} (h:dy 0 d=true):∃kk,d=some (.int kk):=by
 unfold dy at h;split at h<;>first | exact⟨_,rfl⟩|simp at h
theorem mg {d:Option TypeDesc} (h:dy 1 d=true):d=some .bool:=by
 unfold dy at h;split at h<;>first | rfl | simp at h
theorem nJ {d:Option TypeDesc} (h:dy 2 d=true):d=some .string:=by
 unfold dy at h;split at h<;>first | rfl | simp at h
def vV (P:Program):List Field->List Nat->Nat->Bool
 |[],[],_=>true
 |f::fs,q::qs,i=>f.name != "_"&&f.offset==i&&fE P f.type 1 false&&dy q (P.underlying f.type)&&vV P fs qs (i+1)
 |_,_,_=>false
theorem lq {q:Nat} {t:TypeId} {x y:AV} {b:Bool} (e:jt q x y=some b) (ht:dy q (P.underlying t)=true) {v u:Value} (hv:RA ν g v x) (hu:RA ν g u y) (d:Nat) (w:World) :
  (Op.equalIn (d+1) t v u).run P w = .ok b w:=by
 unfold jt at e;split at e
 ·obtain rfl:=hv.int;obtain rfl:=hu.int;obtain⟨kk,h1⟩:=nH ht;simp only[Option.ite_none_right_eq_some,Option.some.injEq]at e;obtain⟨hk,rfl⟩:=e;subst hk;exact run_equalIn_int w d t _ _ _ _ h1
 ·cases e;obtain rfl:=hv.bool;obtain rfl:=hu.bool;exact run_equalIn_bool w d t _ _ (mg ht)
 ·cases e;obtain rfl:=hv.str;obtain rfl:=hu.str;rw[run_equalIn_string w d t _ _ (nJ ht),beq_toListBytes]
 ·cases e
theorem Cn {xs ys:Array Value} (d:Nat) (w:World):∀(fs:List Field) (qs:List Nat) (i:Nat) (cs ds:List AV) (b:Bool),vV P fs qs i=true->eqs qs cs ds=some b->
  (∀(j:Nat) (c:AV),cs[j]?=some c->∃v,xs[i+j]?=some v/\RA ν g v c)->(∀(j:Nat) (c:AV),ds[j]?=some c->∃v,ys[i+j]?=some v/\RA ν g v c)->
  (Op.eqFields (d+1) xs ys fs).run P w = .ok b w:=by
 intro fs
 induction fs with
 |nil=>
  intro qs i cs ds b h1 h2 _ _;cases qs with
  |cons=>simp[vV]at h1
  |nil=>
   cases cs<;>cases ds<;>simp[eqs]at h2;subst h2;simp[Op.eqFields]
 |cons f fs ih=>
  intro qs i cs ds b h1 h2 hx hy;cases qs with
  |nil=>simp[vV]at h1
  |cons q qs=>
   cases cs with
   |nil=>simp[eqs]at h2
   |cons c cs=>
    cases ds with
    |nil=>simp[eqs]at h2
    |cons d' ds=>
     simp only[vV,Bool.and_eq_true]at h1;obtain⟨⟨⟨⟨hn,tT⟩,gq⟩,hq⟩,cO⟩:=h1;simp only[eqs,Option.bind_eq_some_iff]at h2;obtain⟨b1,e1,b2,e2,e3⟩:=h2;cases e3;obtain⟨v,hv,yq⟩:=hx 0 c rfl;obtain⟨u,hu,s9⟩:=hy 0 d' rfl;obtain⟨dd,ii,h3,h4,h5,h6,_⟩:=cZ gq;have tF:f.offset=i:=by simpa using tT
     have jf:(part f.type xs f.offset).run P w = .ok v w:=by simp[part,cH h3,h5,tF,show xs[i]?=some v from hv]
     have bQ:(part f.type ys f.offset).run P w = .ok u w:=by simp[part,cH h3,h5,tF,show ys[i]?=some u from hu]
     have he:=lq (P:=P) e1 hq yq s9 d w;have hr:=ih qs (i+1) cs ds b2 cO e2 (λj c hc=>by have:=hx (j+1) c (by simpa using hc);rwa [show i+1+j=i+(j+1) by omega]) (λj c hc=>by
      have:=hy (j+1) c (by simpa using hc);rwa [show i+1+j=i+(j+1) by omega])
     have dJ:f.name≠"_":=by simpa using hn
     simp only[Op.eqFields,if_pos dJ,Sem.run_bind,jf,bQ,he,Result.andThen_ok,Sem.run_ite];cases b1
     ·simp
     ·simp[hr]
def zS (P:Program) (t:TypeId) (qs:List Nat):Bool:=
 match P.underlying t with
 |some (.struct fs)=>vV P fs.toList qs 0&&!P.stoodInHeld t&&!P.eqGuardType P.depth t
 |_=>false
theorem RA.dO {vs:Array Value} {cs:List AV} (h:RA ν g (.agg vs) (.agg cs)) (j:Nat) (c:AV) (hc:cs[j]?=some c):∃v,vs[j]?=some v/\RA ν g v c:=by
 cases h with
 |agg hn _ hr=>
  have hj:j<cs.length:=by
   rcases Nat.lt_or_ge j cs.length with h' | h'
   ·exact h'
   ·rw[List.getElem?_eq_none h']at hc;cases hc
  exact⟨vs[j],Array.getElem?_eq_getElem (by omega),hr j _ c (Array.getElem?_eq_getElem (by omega)) hc⟩
theorem Co (r:Rel ν k g) {t:TypeId} {qs:List Nat} (ht:zS P t qs=true) {a b:Operand} {v u:Value} {cs ds:List AV} {z:Bool} (neg:Bool) (hv:RA ν g v (.agg cs)) (hu:RA ν g u (.agg ds)) (e:eqs qs cs ds=some z) :
  bf ν k g g.h (.iv (.bool (if neg then !z else z))) ((do eqGuard (if neg then .neq else .eql) t a b v u;binOp (if neg then .neq else .eql) t v u:Sem Value).run P g.w):=by
 unfold zS at ht;split at ht
 ·rename_i fs gH;simp only[Bool.and_eq_true,Bool.not_eq_true']at ht;obtain⟨⟨h1,h2⟩,h3⟩:=ht;obtain⟨xs,rfl⟩:=hv.dN;obtain⟨ys,rfl⟩:=hu.dN;have ou:P.fieldsOf t=fs:=by simp[Program.fieldsOf,gH]
  have bd:=Cn (ν:=ν) (P:=P) (g:=g) (xs:=xs) (ys:=ys) 9998 g.w fs.toList qs 0 cs ds z h1 e (λj c hc=>by simpa using hv.dO j c hc) (λj c hc=>by simpa using hu.dO j c hc);have fU:=run_equalIn_struct g.w 9999 t xs ys (by rw[ou];exact gH) h2;rw[ou]at fU;cases neg
  ·refine .same r ?_ bO;simp only[Bool.false_eq_true,if_false,Sem.run_bind,run_eqGuard_agg _ _ _ _ _ _ _ h3,Result.andThen_ok,run_eql_struct,fU,bd]
  ·refine .same r ?_ bO;simp only[if_true,Sem.run_bind,run_eqGuard_agg _ _ _ _ _ _ _ h3,Result.andThen_ok,run_neq_struct,fU,bd]
 ·cases ht
theorem xb (r:Rel ν k g) {op:UnOp} {v:Value} {x:AV} {y:IV} (hv:RA ν g v x) (e:un op x=some y):bf ν k g g.h (.iv y) ((Op.unary op v).run P g.w):=by
 unfold un at e;split at e
 ·obtain rfl:=hv.int;split at e
  ·cases e;exact .same r (by simp[Op.unary,Op.intArith]) mkInt
  ·cases e;exact .same r (v:=.int _ _) (by simp only[Op.unary,intBits_xor];rfl) mkInt
  ·cases e
 ·obtain rfl:=hv.bool;split at e
  ·cases e;exact .same r (by simp[Op.unary]) bO
  ·cases e
 ·cases e
def sv (P:Program) (s d:TypeId) (kk:IntKind):Bool:=
 (P.underlying s).isSome&&(match P.underlying d with | some (.int k')=>k'==kk | _=>false)
theorem tU (r:Rel ν k g) {s d:TypeId} {kk:IntKind} (ht:sv P s d kk=true) {v:Value} {x:AV} {n:Int} {h':Hp} (hv:RA ν g v x) (e:(idx x).run g.h=some (n,h')) :
  bf ν k g g.h (.iv (.int kk (kk.wrap n))) ((convert s d v).run P g.w):=by
 obtain⟨_,k',rfl⟩:=cQ e;obtain rfl:=hv.int;unfold sv at ht;simp only[Bool.and_eq_true]at ht;obtain⟨h1,h2⟩:=ht;obtain⟨sd,hs⟩:=Option.isSome_iff_exists.1 h1;split at h2
 ·rename_i yr hd;have:yr=kk:=by simpa using h2
  subst this;exact .same r (by simp[convert,run_underlying hs,run_underlying hd,Conv.intToInt]) mkInt
 ·cases h2
theorem tV (r:Rel ν k g) {s d:TypeId} (hs:P.underlying s=some .string) (hd:P.underlying d=some .string) {v:Value} {t:ByteArray} (hv:RA ν g v (.iv (.str t))) :
  bf ν k g g.h (.iv (.str t)) ((convert s d v).run P g.w):=by
 obtain rfl:=hv.str;exact .same r (by simp[convert,run_underlying hs,run_underlying hd]) mkStr
end
section
variable {ν:Nat->Nat} {P:Program} {k:Cx} {g:Gh}
def RO (ν:Nat->Nat) (g:Gh):Option Value->Option AV->Prop
 |none,none=>True
 |some v,some x=>RA ν g v x
 |_,_=>False
theorem gR {y:Nat} {o:Option AV} {n:Option Nat} {h h':Hp} (e:(bound y o).run h=some (n,h')) {c:Option Value} (hc:RO ν g c o) :
  h'=h/\(o=none/\n=none/\c=none\/∃(kk:IntKind) (m:Nat),c=some (.int kk m)/\m<=y/\n=some m):=by
 unfold bound at e;split at e
 ·obtain⟨rfl,rfl⟩:=af e;cases c with
  |none=>exact⟨rfl,.inl ⟨rfl,rfl,rfl⟩⟩
  |some v=>exact hc.elim
 ·rename_i kk m;obtain⟨hm,e2⟩:=M.aj e;obtain⟨rfl,rfl⟩:=af e2;have c8:0<=m/\m<=y:=by simpa using hm
  cases c with
  |none=>exact hc.elim
  |some v=>
   obtain rfl:=RA.int hc;exact⟨rfl,.inr ⟨kk,m.toNat,by rw[Int.toNat_of_nonneg c8.1],by omega,rfl⟩⟩
 ·exact(ae e).elim
theorem cV {n cap:Nat} (eF:n<=cap) {lo hi:Option AV} {cl ch:Option Value} {l h:Option Nat} {g0 g1 g2:Hp} (dD:Bool)
  (eh:(bound n hi).run g0=some (h,g1)) (el:(bound (h.getD n) lo).run g1=some (l,g2)) (hh:RO ν g ch hi) (hl:RO ν g cl lo) (w:World) :
  g2=g0/\l.getD 0<=h.getD n/\h.getD n<=n/\(Instr.sliceBounds dD n cap cl ch none).run P w = .ok (l.getD 0,h.getD n,cap) w:=by
 obtain⟨rfl,h1⟩:=gR eh hh;obtain⟨rfl,h2⟩:=gR el hl;refine⟨rfl,?_⟩;rcases h1 with⟨-,rfl,rfl⟩|⟨k1,m1,rfl,gS,rfl⟩
 ·rcases h2 with⟨-,rfl,rfl⟩|⟨k2,m2,rfl,gT,rfl⟩
  ·simp[Instr.sliceBounds]
  ·simp only[Option.getD_none]at gT;have:(Instr.sliceBound (.int k2 m2) n .sliceB).run P w = .ok m2 w:=by simp[Instr.sliceBound,asIntOf,gT]
   simp[Instr.sliceBounds,this,gT]
 ·have hs:∀c,(Instr.sliceBound (.int k1 m1) cap c).run P w = .ok m1 w:=λc=>by
   have:m1<=cap:=by omega
   simp[Instr.sliceBound,asIntOf,this]
  rcases h2 with⟨-,rfl,rfl⟩|⟨k2,m2,rfl,gT,rfl⟩
  ·simp[Instr.sliceBounds,hs,gS]
  ·simp only[Option.getD_some]at gT;have:(Instr.sliceBound (.int k2 m2) m1 .sliceB).run P w = .ok m2 w:=by simp[Instr.sliceBound,asIntOf,gT]
   simp[Instr.sliceBounds,hs,this,gT,gS]
theorem dA {t el:TypeId} {i:TypeInfo} (hu:P.underlying t=some (.slice el)) (hi:P.info? el=some i) {a:Option Addr} {n cap l h:Nat} {cl ch:Option Value} {w:World}
  (hb:(Instr.sliceBounds true n cap cl ch none).run P w = .ok (l,h,cap) w) :
  (Instr.sliceAt t (.slice a n cap) cl ch none).run P w = .ok (.slice (if cap=l then a else a.map (·.add (l*i.size))) (h - l) (cap - l)) w:=by
 have:(Instr.slice t (.slice a n cap) cl ch none).run P w = .ok (.slice (if cap=l then a else a.map (·.add (l*i.size))) (h - l) (cap - l)) w:=by
  simp[Instr.slice,run_underlying hu,hb,run_sizeOf hi]
 simp[Instr.sliceAt,run_underlying hu,this]
theorem tW (r:Rel ν k g) {t:TypeId} {e:Nat} (ht:sliceB P t e=true) {v:Value} {cl ch:Option Value} {x y:AV} {lo hi:Option AV} {h':Hp} (hv:RA ν g v x) (hl:RO ν g cl lo) (hh:RO ν g ch hi)
  (e':(gM e x lo hi).run g.h=some (y,h')):bf ν k g h' y ((Instr.sliceAt t v cl ch none).run P g.w):=by
 obtain⟨el,i,hu,bX,rfl⟩:=dh ht;cases hv with
 |undef=>exact(ae e').elim
 |agg=>exact(ae e').elim
 |aR=>exact(ae e').elim
 |ref=>exact(ae e').elim
 |bJ=>exact(ae e').elim
 |iv hr=>
  cases hr with
  |dS a cap aJ=>
   obtain⟨-,e2⟩:=M.aj e';obtain⟨hb,h2,e3,e4⟩:=ag e2;obtain⟨lb,h3,e5,e6⟩:=ag e4;obtain⟨rfl,h4,h5,h6⟩:=cV (ν:=ν) (g:=g) (P:=P) (n:=0) (cap:=cap) (Nat.zero_le _) true e3 e5 hh hl g.w;obtain⟨rfl,rfl⟩:=af e6;simp only[List.length_nil]at *;have hz:hb.getD 0=0:=by omega
   have ov:lb.getD 0=0:=by omega
   refine .same r (dA hu bX h6) (.iv ?_);simp only[hz,ov,List.take_nil,List.drop_nil,Nat.sub_zero];exact .dS _ _ _
  |sl b off n cap aJ es f hI hn eF lr hc hr=>
   obtain⟨he,e2⟩:=M.aj e';obtain⟨hb,h2,e3,e4⟩:=ag e2;obtain⟨lb,h3,e5,e6⟩:=ag e4;subst hn;obtain⟨rfl,h4,h5,h6⟩:=cV (ν:=ν) (g:=g) (P:=P) eF true e3 e5 hh hl g.w;obtain⟨rfl,rfl⟩:=af e6;have cB:aJ=i.size:=by simpa using he
   subst cB;refine .same r (dA hu bX h6) (.iv ?_);generalize lb.getD 0=l at *;generalize hb.getD es.length=h at *;by_cases Cp:l=h
   ·subst Cp;have:(es.take l).drop l=[]:=by simp
    rw[this,Nat.sub_self];exact .dS _ _ _
   ·have bG:¬cap=l:=by omega
    rw[if_neg bG];simp only[Option.map_some,Addr.add_lit];have eG:∀(j:Nat) (c:List IV),((es.take h).drop l)[j]?=some c->es[l+j]?=some c:=by
     intro j c hj;rw[List.getElem?_drop,List.getElem?_take]at hj;split at hj
     ·exact hj
     ·cases hj
    refine .sl b _ _ _ i.size _ (λa b=>f (l+a) b) hI (by simp;omega) (by omega) (λc bH=>lr c (List.mem_of_mem_take (List.mem_of_mem_drop bH))) (λa j c x h1 h2=>?_) λa j c x h1 h2=>hr _ _ _ _ (eG a c h1) h2
    have:=hc _ _ _ _ (eG a c h1) h2
    rwa [Nat.add_mul,<-Nat.add_assoc]at this
  |_=>exact(ae e').elim
 |@own _ id o m ai jU ho=>
  obtain⟨hb,h2,e3,e4⟩:=ag e';obtain⟨lb,h3,e5,e6⟩:=ag e4;obtain⟨ob,h4,e7,e8⟩:=ag e6;have q1:=(gR e3 hh).1;subst q1;have q2:=(gR e5 hl).1;subst q2;obtain⟨hg,rfl⟩:=kj e7;unfold aH at ho;rw[hg]at ho;have fin:∀{v' aJ:Nat} {es:List (List IV)},(get g.h id=some (.buf v' aJ es)\/get g.h id=some (.bb v' aJ es))->v'=ai->aJ=i.size->cF g.w (g.φ id) aJ es o m v->
    bf ν k g g.h (.own id (o+lb.getD 0) (hb.getD m - lb.getD 0) ai) ((Instr.sliceAt t v cl ch none).run P g.w):=by
   intro v' aJ es dg hv he hs;have own:∀u:Value,u.oneCell'=true->cF g.w (g.φ id) aJ es (o+lb.getD 0) (hb.getD m - lb.getD 0) u->RA ν g u (.own id (o+lb.getD 0) (hb.getD m - lb.getD 0) ai):=by
    intro u Cq JL;refine .own Cq ?_;unfold aH;rcases dg with dg | dg<;>rw[dg]<;>exact⟨Nat.le_of_eq hv.symm,λ_=>JL⟩
   cases ah:g.φ id with
   |none=>
    rw[ah]at hs;obtain⟨⟨a,rfl⟩,rfl⟩:=hs;obtain⟨-,h4,h5,h6⟩:=cV (ν:=ν) (g:=g) (P:=P) (n:=0) (cap:=0) (Nat.le_refl _) true e3 e5 hh hl g.w;refine .same r (dA hu bX h6) (own _ rfl ?_);rw[ah];have:hb.getD 0=0:=by omega
    have:lb.getD 0=0:=by omega
    exact⟨⟨a,by simp[*]⟩,by omega⟩
   |some b=>
    rw[ah]at hs;obtain⟨x,cap,rfl,q2,q3,q4,q5⟩:=hs;obtain⟨-,h4,h5,h6⟩:=cV (ν:=ν) (g:=g) (P:=P) q3 true e3 e5 hh hl g.w;refine .same r (dA hu bX h6) (own _ rfl ?_);rw[ah];subst he;generalize lb.getD 0=l at *;generalize hb.getD m=h at *;by_cases cR:cap=l
    ·rw[if_pos cR];refine⟨x,cap - l,rfl,by omega,by omega,?_,λhx c hc=>?_⟩
     ·rcases q4 with q4 | q4
      ·by_cases rf:l=0
       ·left;subst rf;simpa using q4
       ·right;omega
      ·right;omega
     ·by_cases ow:x=o*i.size
      ·exact q5 ow c (Nat.lt_of_lt_of_le hc (Nat.mul_le_mul_right _ (by omega)))
      ·have:=q4.resolve_left ow;have rf:l=0:=by omega
       subst rf;exact absurd (by simpa using hx) ow
    ·rw[if_neg cR];refine⟨x+l*i.size,cap - l,by simp[Addr.add_lit],by omega,by omega,?_,λhx c hc=>?_⟩
     ·rcases q4 with q4 | q4
      ·left;rw[q4,Nat.add_mul]
      ·right;omega
     ·have ow:x=o*i.size:=by rw[Nat.add_mul]at hx;omega
      exact q5 ow c (Nat.lt_of_lt_of_le hc (Nat.mul_le_mul_right _ (by omega)))
  cases ob with
  |cells cs=>exact ho.elim
  |buf v' aJ es=>
   obtain⟨cz,dm⟩:=M.aj e8;obtain⟨rfl,rfl⟩:=af dm;simp only[Bool.and_eq_true,beq_iff_eq]at cz;exact fin (.inl hg) cz.1 cz.2 (ho.2 cz.1)
  |bb v' aJ es=>
   obtain⟨cz,dm⟩:=M.aj e8;obtain⟨rfl,rfl⟩:=af dm;simp only[Bool.and_eq_true,beq_iff_eq]at cz;exact fin (.inr hg) cz.1 cz.2 (ho.2 cz.1)
  |map _=>exact ho.elim
theorem sw (r:Rel ν k g) {t:TypeId} (ht:P.underlying t=some .string) {v:Value} {cl ch:Option Value} {x y:AV} {lo hi:Option AV} {h':Hp} (hv:RA ν g v x) (hl:RO ν g cl lo) (hh:RO ν g ch hi)
  (e:(fL x lo hi).run g.h=some (y,h')):bf ν k g h' y ((Instr.sliceAt t v cl ch none).run P g.w):=by
 unfold fL at e;split at e
 ·rename_i s;obtain rfl:=hv.str;obtain⟨hb,h2,e3,e4⟩:=ag e;obtain⟨lb,h3,e5,e6⟩:=ag e4;obtain⟨rfl,h4,h5,h6⟩:=cV (ν:=ν) (g:=g) (P:=P) (n:=s.size) (cap:=s.size) (Nat.le_refl _) false e3 e5 hh hl g.w;obtain⟨rfl,rfl⟩:=af e6;refine .same r (v:=.string (s.extract (lb.getD 0) (hb.getD s.size))) ?_ mkStr;simp[Instr.sliceAt,Instr.slice,run_underlying ht,h6]
 ·exact(ae e).elim
theorem vW {t el:TypeId} {i:TypeInfo} (hu:P.underlying t=some (.slice el)) (hi:P.info? el=some i) {a:Option Addr} {n cap:Nat} {cl:Option Value} {k1 k2:IntKind} (cR:cl=none\/∃k3,cl=some (.int k3 0)) (w:World) :
  ∃a',(Instr.sliceAt t (.slice a n cap) cl (some (.int k1 0)) (some (.int k2 0))).run P w = .ok (.slice a' 0 0) w:=by
 rcases cR with rfl | ⟨k3,rfl⟩
 ·exact⟨a,by simp[Instr.sliceAt,Instr.slice,run_underlying hu,Instr.sliceBounds,Instr.sliceBound,asIntOf,run_sizeOf hi]⟩
 ·exact⟨a,by simp[Instr.sliceAt,Instr.slice,run_underlying hu,Instr.sliceBounds,Instr.sliceBound,asIntOf,run_sizeOf hi]⟩
theorem tX (r:Rel ν k g) {t:TypeId} {e:Nat} (ht:sliceB P t e=true) {v:Value} {cl:Option Value} {k1 k2:IntKind} (cR:cl=none\/∃k3,cl=some (.int k3 0)) {x y:AV} {h':Hp} (hv:RA ν g v x)
  (e':(lh e x).run g.h=some (y,h')):bf ν k g h' y ((Instr.sliceAt t v cl (some (.int k1 0)) (some (.int k2 0))).run P g.w):=by
 obtain⟨el,i,hu,hi,rfl⟩:=dh ht;have key:∀a n cap,bf ν k g g.h (.iv (.az i.size)) ((Instr.sliceAt t (.slice a n cap) cl (some (.int k1 0)) (some (.int k2 0))).run P g.w):=by
  intro a n cap;obtain⟨a',h⟩:=vW (k1:=k1) (k2:=k2) hu hi (a:=a) (n:=n) (cap:=cap) cR g.w;exact .same r h (.iv (.az _ _))
 cases hv with
 |undef=>exact(ae e').elim
 |agg=>exact(ae e').elim
 |aR=>exact(ae e').elim
 |ref=>exact(ae e').elim
 |bJ=>exact(ae e').elim
 |iv hr=>
  cases hr with
  |az a aJ=>obtain⟨rfl,rfl⟩:=af e';exact key _ _ _
  |dS a cap aJ=>obtain⟨rfl,rfl⟩:=af e';exact key _ _ _
  |sl b off n cap aJ es f hI hn eF lr hc hr=>obtain⟨rfl,rfl⟩:=af e';exact key _ _ _
  |_=>exact(ae e').elim
 |@own _ id o m ai jU ho=>
  obtain⟨ob,hg,e2⟩:=M.aM e';obtain⟨ct,e4⟩:=M.aj e2;unfold aH at ho;rw[hg]at ho;have fin:∀{aJ:Nat} {es:List (List IV)},cF g.w (g.φ id) aJ es o m v->bf ν k g g.h (.iv (.az i.size)) ((Instr.sliceAt t v cl (some (.int k1 0)) (some (.int k2 0))).run P g.w):=by
   intro aJ es hs;cases ah:g.φ id with
   |none=>rw[ah]at hs;obtain⟨⟨a,rfl⟩,_⟩:=hs;exact key _ _ _
   |some b=>rw[ah]at hs;obtain⟨x,cap,rfl,_⟩:=hs;exact key _ _ _
  cases ob with
  |cells cs=>exact ho.elim
  |buf v' aJ es=>obtain⟨rfl,rfl⟩:=af e4;exact fin (ho.2 (by simpa[valid]using ct))
  |bb v' aJ es=>obtain⟨rfl,rfl⟩:=af e4;exact fin (ho.2 (by simpa[valid]using ct))
  |map _=>exact ho.elim
def sA (P:Program) (t:TypeId) (str:Bool):Bool:=
 match P.underlying t with
 |some (.slice _)=>!str
 |some .string=>str
 |_=>false
theorem tY (r:Rel ν k g) {t ty:TypeId} {str:Bool} (ht:sA P t str=true) {v:Value} {x y:AV} {h':Hp} (hv:RA ν g v x) (e:(len str x).run g.h=some (y,h')) :
  bf ν k g h' y ((Builtin.len_ #[t] ty #[v]).run P g.w):=by
 unfold sA at ht;split at ht
 ·rename_i el hu;have:str=false:=by simpa using ht
  subst this;have key:∀(a:Option Addr) (n cap:Nat),bf ν k g g.h (.iv (.int .i64 n)) ((Builtin.len_ #[t] ty #[.slice a n cap]).run P g.w):=λa n cap=>
   .same r (v:=.int .i64 n) (by simp[Builtin.len_,run_underlying hu,goInt]) mkInt
  cases hv with
  |undef=>exact(ae e).elim
  |agg=>exact(ae e).elim
  |aR=>exact(ae e).elim
  |ref=>exact(ae e).elim
  |bJ=>exact(ae e).elim
  |iv hr=>
   cases hr with
   |az a aJ=>obtain⟨rfl,rfl⟩:=af e;exact key _ _ _
   |dS a cap aJ=>obtain⟨rfl,rfl⟩:=af e;exact key _ 0 _
   |sl b off n cap aJ es f hI hn eF lr hc hr=>obtain⟨rfl,rfl⟩:=af e;rw[hn];exact key _ _ _
   |_=>exact(ae e).elim
  |@own _ id o m ai jU ho=>
   obtain⟨ob,hg,e2⟩:=M.aM e;unfold aH at ho;rw[hg]at ho;have fin:∀{aJ:Nat} {es:List (List IV)},cF g.w (g.φ id) aJ es o m v->bf ν k g g.h (.iv (.int .i64 m)) ((Builtin.len_ #[t] ty #[v]).run P g.w):=by
    intro aJ es hs;cases ah:g.φ id with
    |none=>rw[ah]at hs;obtain⟨⟨a,rfl⟩,rfl⟩:=hs;exact key _ _ _
    |some b=>rw[ah]at hs;obtain⟨x,cap,rfl,_⟩:=hs;exact key _ _ _
   cases ob with
   |cells cs=>exact ho.elim
   |buf v' aJ es=>
    obtain⟨ct,e4⟩:=M.aj e2;obtain⟨rfl,rfl⟩:=af e4;exact fin (ho.2 (by simpa using ct))
   |bb v' aJ es=>
    obtain⟨ct,e4⟩:=M.aj e2;obtain⟨rfl,rfl⟩:=af e4;exact fin (ho.2 (by simpa using ct))
   |map _=>exact ho.elim
 ·rename_i hu;have:str=true:=ht;subst this;unfold len at e;split at e
  ·rename_i h;cases h
  ·rename_i h;cases h
  ·rename_i h;cases h
  ·obtain⟨rfl,rfl⟩:=af e;obtain rfl:=hv.str;exact .same r (v:=.int .i64 _) (by simp[Builtin.len_,run_underlying hu,goInt]) mkInt
  ·exact(ae e).elim
 ·cases ht
theorem xc (P:Program) (w:World):∀(xs:List AV) (vs:List Value) (a:Int) (kk:IntKind) (z:Int),mT a xs kk=some z->vs.length=xs.length->(∀(j:Nat) (v:Value) (x:AV),vs[j]?=some v->xs[j]?=some x->RA ν g v x)->
  (vs.foldlM Builtin.min2 (.int kk a)).run P w = .ok (.int kk z) w:=by
 intro xs
 induction xs with
 |nil=>
  intro vs a kk z h hl _;have:vs=[]:=List.eq_nil_of_length_eq_zero hl;subst this;simp[mT]at h;subst h;rfl
 |cons x xs ih=>
  intro vs a kk z h hl hr;cases vs with
  |nil=>simp at hl
  |cons v vs=>
   have h0:=hr 0 v x rfl rfl;unfold mT at h;split at h
   ·rename_i heq;cases heq
   ·rename_i Cr b r heq;cases heq;split at h
    ·rename_i hk;subst hk;obtain rfl:=h0.int;simp only[List.foldlM_cons,Sem.run_bind,Builtin.min2,Sem.run_pure,Result.andThen_ok];exact ih vs _ _ _ h (by simpa using hl) λj v' x' h1 h2=>hr (j+1) v' x' (by simpa using h1) (by simpa using h2)
    ·cases h
   ·cases h
theorem xd (P:Program) (w:World):∀(xs:List AV) (vs:List Value) (a:Int) (kk:IntKind) (z:Int),od a xs kk=some z->vs.length=xs.length->(∀(j:Nat) (v:Value) (x:AV),vs[j]?=some v->xs[j]?=some x->RA ν g v x)->
  (vs.foldlM Builtin.max2 (.int kk a)).run P w = .ok (.int kk z) w:=by
 intro xs
 induction xs with
 |nil=>
  intro vs a kk z h hl _;have:vs=[]:=List.eq_nil_of_length_eq_zero hl;subst this;simp[od]at h;subst h;rfl
 |cons x xs ih=>
  intro vs a kk z h hl hr;cases vs with
  |nil=>simp at hl
  |cons v vs=>
   have h0:=hr 0 v x rfl rfl;unfold od at h;split at h
   ·rename_i heq;cases heq
   ·rename_i Cr b r heq;cases heq;split at h
    ·rename_i hk;subst hk;obtain rfl:=h0.int;simp only[List.foldlM_cons,Sem.run_bind,Builtin.max2,Sem.run_pure,Result.andThen_ok];exact ih vs _ _ _ h (by simpa using hl) λj v' x' h1 h2=>hr (j+1) v' x' (by simpa using h1) (by simpa using h2)
    ·cases h
   ·cases h
theorem fh {x:AV} {l:List AV} {h h':Hp} (e:(bW x).run h=some (l,h')) {v:Value} (hv:RA ν g v x) :
  h'=h/\v.cells.size=l.length/\∀(j:Nat) (c:AV),l[j]?=some c->∃u,v.cells[j]?=some u/\u.oneCell'=true/\RA ν g u c:=by
 have one:∀{z:AV},(M.ret [z]).run h=some (l,h')->RA ν g v z->v.oneCell'=true->h'=h/\v.cells.size=l.length/\∀(j:Nat) (c:AV),l[j]?=some c->∃u,v.cells[j]?=some u/\u.oneCell'=true/\RA ν g u c:=by
  intro z e hz h1;obtain⟨rfl,rfl⟩:=af e;have hc:v.cells=#[v]:=by cases v<;>first | rfl | simp[Value.oneCell']at h1
  refine⟨rfl,by rw[hc];rfl,λj c hj=>?_⟩;cases j with
  |zero=>simp at hj;subst hj;exact⟨v,by rw[hc];rfl,h1,hz⟩
  |succ j=>simp at hj
 cases hv with
 |undef=>exact(ae e).elim
 |aR=>exact(ae e).elim
 |agg hn h1 hr=>
  obtain⟨rfl,rfl⟩:=af e;refine⟨rfl,hn,λj c hj=>?_⟩;obtain⟨u,hu,hR⟩:=RA.dO (.agg hn h1 hr) j c hj;exact⟨u,hu,h1 j u hu,hR⟩
 |iv hr=>exact one e (.iv hr) hr.one
 |own h1 h2=>exact one e (.own h1 h2) h1
 |ref h1 h2=>exact one e (.ref h1 h2) h1
 |bJ hn hr=>exact one e (.bJ hn hr) rfl
def RC (ν:Nat->Nat) (g:Gh) (vs:Array Value) (cs:List AV):Prop:=
 vs.size=cs.length/\∀(j:Nat) (c:AV),cs[j]?=some c->∃u,vs[j]?=some u/\u.oneCell'=true/\RA ν g u c
theorem RC.agg {vs:Array Value} {cs:List AV} (h:RC ν g vs cs):RA ν g (.agg vs) (.agg cs):=by
 have key:∀(j:Nat) (v:Value),vs[j]?=some v->∃c,cs[j]?=some c/\v.oneCell'=true/\RA ν g v c:=by
  intro j v hv;have hj:j<vs.size:=(Array.getElem?_eq_some_iff.1 hv).1;have hc:cs[j]?=some (cs[j]'(by have:=h.1;omega)):=List.getElem?_eq_getElem _;obtain⟨u,hu,h1,hR⟩:=h.2 j _ hc;rw[hv]at hu;cases hu;exact⟨_,hc,h1,hR⟩
 exact .agg h.1 (λj v hv=>let⟨_,_,h1,_⟩:=key j v hv;h1) λj v c hv hc=>by
  obtain⟨c',bH,_,hR⟩:=key j v hv;rw[hc]at bH;cases bH;exact hR
theorem iQ (off:Nat):∀(l:List Value) (s:Nat) (cs:Array Value),off+s+l.length<=cs.size->
  let r:=(l.zipIdx s).foldl (λcs (p:Value×Nat)=>cs.setIfInBounds (off+p.2) p.1) cs
  r.size=cs.size/\∀j,r[j]?=if off+s<=j/\j<off+s+l.length then l[j - (off+s)]? else cs[j]?:=by
 intro l
 induction l with
 |nil=>intro s cs _;simp;intro j h1 h2;omega
 |cons v l ih=>
  intro s cs hl;simp only[List.zipIdx_cons,List.foldl_cons];simp only[List.length_cons]at hl;obtain⟨h1,h2⟩:=ih (s+1) (cs.setIfInBounds (off+s) v) (by simp;omega);refine⟨by rw[h1];simp,λj=>?_⟩;rw[h2 j];by_cases hj:j=off+s
  ·subst hj;rw[if_neg (by omega),if_pos (by simp),Array.getElem?_setIfInBounds_self_of_lt (by omega)];simp
  ·by_cases Bi:off+(s+1)<=j/\j<off+(s+1)+l.length
   ·rw[if_pos Bi,if_pos (by simp;omega)];rw[show j - (off+s)=(j - (off+(s+1)))+1 by omega];simp
   ·rw[if_neg Bi,if_neg (by simp;omega)];rw[Array.getElem?_setIfInBounds_ne (Ne.symm hj)]
theorem fZ {α:Type} (cs:List α) (o:Nat) (l:List α) (h:o+l.length<=cs.length) (j:Nat) :
  (cn cs o l)[j]?=if o<=j/\j<o+l.length then l[j - o]? else cs[j]?:=by
 unfold cn;rw[List.getElem?_append,List.getElem?_append];simp only[List.length_append,List.length_take,Nat.min_eq_left (show o<=cs.length by omega)];by_cases h1:j<o
 ·rw[if_pos (by omega),if_pos h1,if_neg (by omega),List.getElem?_take,if_pos h1]
 ·by_cases h2:j<o+l.length
  ·rw[if_pos h2,if_neg h1,if_pos ⟨by omega,h2⟩]
  ·rw[if_neg h2,if_neg (by omega),List.getElem?_drop,show o+l.length+(j - (o+l.length))=j by omega]
theorem dj {α:Type} (cs:List α) (o:Nat) (l:List α) (h:o+l.length<=cs.length):(cn cs o l).length=cs.length:=by simp[cn];omega
theorem RC.cn {vs us:Array Value} {cs l:List AV} {o:Nat} (h:RC ν g vs cs) (hu:RC ν g us l) (cK:o+l.length<=cs.length) :
  RC ν g ((us.toList.zipIdx).foldl (λcs (p:Value×Nat)=>cs.setIfInBounds (o+p.2) p.1) vs) (al.cn cs o l):=by
 have hs:=iQ o us.toList 0 vs (by have:=h.1;have:=hu.1;simp;omega);simp only[Nat.add_zero,Array.length_toList]at hs;refine⟨by rw[hs.1,dj _ _ _ cK,h.1],λj c hc=>?_⟩;rw[fZ _ _ _ cK]at hc;rw[hs.2 j];have:=hu.1;by_cases hj:o<=j/\j<o+l.length
 ·rw[if_pos hj]at hc;rw[if_pos (by omega)];simpa using hu.2 _ c hc
 ·rw[if_neg hj]at hc;rw[if_neg (by omega)];exact h.2 j c hc
end
section
variable {ν:Nat->Nat} {P:Program} {k:Cx} {g:Gh}
theorem RC.mono {g':Gh} {vs:Array Value} {cs:List AV} (h:RC ν g vs cs) (hm:aX ν g g'):RC ν g' vs cs:=
 ⟨h.1,λj c hc=>let⟨u,h1,h2,h3⟩:=h.2 j c hc;⟨u,h1,h2,hm _ _ h3⟩⟩
theorem vX:∀(cs:List AV) (s:Nat) (k:Cx) (g:Gh) (ls:List AV) (h':Hp),(eE s cs).run g.h=some (ls,h')->Rel ν k g->∀vs:Array Value,RC ν g vs cs->
  ∃jg,Rel ν k { g with φ:=jg,h:=h' }/\aX ν g { g with φ:=jg,h:=h' }/\RC ν { g with φ:=jg,h:=h' } vs ls/\(∀id,(get g.h id).isSome=true->jg id=g.φ id/\get h' id=get g.h id)/\
   ∀id,id<s->get h' id=get g.h id:=by
 intro cs
 induction cs with
 |nil=>
  intro s k g ls h' e r vs hv;obtain⟨rfl,rfl⟩:=af e;exact⟨g.φ,r,.refl ν g,hv,λ_ _=>⟨rfl,rfl⟩,λ_ _=>rfl⟩
 |cons c cs ih=>
  intro s k g ls h' e r vs hv;have Bj:RC ν g (vs.extract 1 vs.size) cs:=by
   refine⟨by have:=hv.1;simp at this ⊢;omega,λj c' hc=>?_⟩;obtain⟨u,h1,h2⟩:=hv.2 (j+1) c' (by simpa using hc)
   grind
  obtain⟨u,hu,Cq,s9⟩:=hv.2 0 c rfl;have glue:∀{g':Gh} {c':AV} {rs:List AV},RC ν g' (vs.extract 1 vs.size) rs->RA ν g' u c'->RC ν g' vs (c'::rs):=by
   intro g' c' rs h1 h2;have bC:0<vs.size:=(Array.getElem?_eq_some_iff.1 hu).1;refine⟨by have:=h1.1;simp at this ⊢;omega,λj JM hc=>?_⟩;cases j with
   |zero=>simp at hc;subst hc;exact⟨u,hu,Cq,h2⟩
   |succ j=>
    obtain⟨u',h3,h4⟩:=h1.2 j JM (by simpa using hc)
    grind
  have plain:∀{h1:Hp} {rs:List AV},(eE (s+1) cs).run g.h=some (rs,h1)->ls=c::rs->h'=h1->
    ∃jg,Rel ν k { g with φ:=jg,h:=h' }/\aX ν g { g with φ:=jg,h:=h' }/\RC ν { g with φ:=jg,h:=h' } vs ls/\(∀id,(get g.h id).isSome=true->jg id=g.φ id/\get h' id=get g.h id)/\
     ∀id,id<s->get h' id=get g.h id:=by
   intro h1 rs e1 e2 e3;subst e2 e3;obtain⟨jg,r1,m1,c1,o1,o2⟩:=ih (s+1) k g rs h' e1 r _ Bj;exact⟨jg,r1,m1,glue c1 (m1 _ _ s9),o1,λid bw=>o2 id (by omega)⟩
  by_cases mG:∃e',c = .iv (.az e')
  ·obtain⟨e',rfl⟩:=mG;obtain⟨_,h1,e1,e2⟩:=ag e;obtain⟨hf,rfl⟩:=M.cq e1;obtain⟨_,h2,e3,e4⟩:=ag e2;obtain rfl:=aL e3;obtain⟨rs,h3,e5,e6⟩:=ag e4;obtain⟨rfl,rfl⟩:=af e6;have hn:=r.new (s:=s) (ob:=.buf 0 e' []) (p:=none) (w':=g.w) hf (Nat.le_refl _) rfl rfl rfl (λ_ _=>rfl) (λb h=>by cases h) λ_=>.inl ⟨aw _ _ _,rfl⟩
   obtain⟨jg,r1,m1,c1,o1,o2⟩:=ih (s+1) k _ rs _ e5 hn.1 _ (Bj.mono hn.2);have zT:RA ν { g with φ:=bl g.φ s none,h:=set g.h s (.buf 0 e' []) } u (.own s 0 0 0):=by
    cases s9 with
    |iv hr=>
     cases hr with
     |az a _=>
      refine .own rfl ?_;unfold aH;simp only[aq,aw];exact⟨Nat.le_refl _,λ_=>⟨⟨a,rfl⟩,rfl⟩⟩
   refine⟨jg,r1,hn.2.trans m1,glue c1 (m1 _ _ zT),λid bw=>?_,λid bw=>?_⟩
   ·have bG:id≠s:=λhe=>by rw[he,hf]at bw;cases bw
    obtain⟨p1,p2⟩:=o1 id (by rw[show get (set g.h s (.buf 0 e' [])) id=get g.h id from bF _ _ (Ne.symm bG)];exact bw);exact⟨p1.trans (dM _ _ bG),p2.trans (bF _ _ (Ne.symm bG))⟩
   ·exact(o2 id (by omega)).trans (bF _ _ (by omega))
  ·have E7:eE s (c::cs)=(eE (s+1) cs).bind λrs=>.ret (c::rs):=by
    cases c with
    |iv x=>
     cases x with
     |az e'=>exact absurd ⟨e',rfl⟩ mG
     |_=>rfl
    |_=>rfl
   rw[E7]at e;obtain⟨rs,h1,e1,e2⟩:=ag e;obtain⟨rfl,rfl⟩:=af e2
   simp_all
theorem alloc_old (w:World) (o:Obj) (b:Nat) (h:b<w.heap.size):(w.alloc o).heap[b]?=w.heap[b]?:=by first | exact heap_alloc_old w o b h | exact heap_alloc_old w o h
theorem kA (r:Rel ν k g) {slot:Nat} {t:TypeId} {vs:Array Value} {cs:List AV} (hv:RC ν g vs cs) {h':Hp} {y:AV}
  (e:((M.fresh slot).bind λ_=>(eE (slot+1) cs).bind λl=>(M.write slot (.cells l)).bind λ_=>M.ret (.ref slot 0 0 0)).run g.h=some (y,h')) :
  bf ν k g h' y (.ok (.pointer (some ⟨g.w.heap.size,0,none⟩)) (g.w.alloc (.cells vs t))):=by
 obtain⟨_,h1,e1,e2⟩:=ag e;obtain⟨hf,rfl⟩:=M.cq e1;obtain⟨l,h2,e3,e4⟩:=ag e2;obtain⟨jg,r1,m1,c1,o1,o2⟩:=vX cs (slot+1) k g l h2 e3 r vs hv;obtain⟨_,h3,e5,e6⟩:=ag e4;obtain rfl:=aL e5;obtain⟨rfl,rfl⟩:=af e6;have hn:=r1.new (s:=slot) (ob:=.cells l) (p:=some g.w.heap.size) (w':=g.w.alloc (.cells vs t)) (by rw[o2 slot (by omega)];exact hf) (by simp) rfl rfl rfl (λb hb=>alloc_old _ _ _ hb)
  (λb h=>by cases h;exact Nat.le_refl _) λhm=>by
   refine⟨g.w.heap.size,aw _ _ _,λhi=>?_,⟨by simp,λo=>World.frozen?_alloc_new _ _ _ _⟩,λj c hc=>?_⟩
   ·exact Nat.lt_irrefl _ (r.small _ hi)
   ·obtain⟨u,h1,h2,h3⟩:=c1.2 j c hc;exact⟨u,by rw[World.cell?_alloc_new];exact h1,h2,hm _ _ h3⟩
 refine⟨_,_,rfl,rfl,hn.1,m1.trans hn.2,.ref rfl ?_⟩;unfold aI;simp only[aq,aw];exact⟨trivial,trivial,_,rfl,rfl⟩
theorem tZ (r:Rel ν k g) {slot:Nat} {t:TypeId} {v:Value} {x y:AV} (hv:RA ν g v x) {h':Hp}
  (e:((bW x).bind λxs=>(M.fresh slot).bind λ_=>(eE (slot+1) xs).bind λl=>(M.write slot (.cells l)).bind λ_=>M.ret (.ref slot 0 0 0)).run g.h=some (y,h')) :
  bf ν k g h' y ((Instr.box t v).run P g.w):=by
 obtain⟨xs,h1,e1,e2⟩:=ag e;obtain⟨rfl,hs,hc⟩:=fh e1 hv;have:=kA (t:=t) r ⟨hs,hc⟩ e2;simpa[Instr.box,newVar,newRow]using this
def sB:Value->IV->Bool
 |v,.junk=>v.oneCell'
 |.int kk n,.int k' m=>kk==k'&&n==m
 |.bool b,.bool c=>b==c
 |.string s,.str t=>s.data.toList==t.data.toList
 |.slice none 0 0,.az _=>true
 |.pointer none,.bh=>true
 |_,_=>false
theorem j0 {v:Value} {x:IV} (h:sB v x=true) (I:Nat->Prop) (w:World):RI ν I w v x:=by
 unfold sB at h;split at h
 ·exact .junk _ h
 ·simp only[Bool.and_eq_true,beq_iff_eq]at h;obtain⟨rfl,rfl⟩:=h;exact .int _ _
 ·have:=beq_iff_eq.1 h;subst this;exact .bool _
 ·rename_i s t;have:=beq_iff_eq.1 h;have:s=t:=by
   cases s;cases t;simp at this;simp[this]
  subst this;exact .str _
 ·exact .az _ _
 ·exact .bh
 ·cases h
def im:List Value->List IV->Bool
 |[],[]=>true
 |v::vs,x::xs=>sB v x&&im vs xs
 |_,_=>false
theorem iX:∀{vs:List Value} {xs:List IV},im vs xs=true->vs.length=xs.length/\∀(j:Nat) (x:IV),xs[j]?=some x->∃v,vs[j]?=some v/\sB v x=true
 |[],[],_=>⟨rfl,λj x h=>by simp at h⟩
 |v::vs,x::xs,h=>by
  simp only[im,Bool.and_eq_true]at h;obtain⟨h1,h2⟩:=iX h.2
  grind
 |[],_::_,h=>by simp[im]at h
 |_::_,[],h=>by simp[im]at h
theorem qn {vs:Array Value} {xs:List IV} (h:im vs.toList xs=true):RC ν g vs (xs.map .iv):=by
 obtain⟨h1,h2⟩:=iX h;refine⟨by simpa using h1,λj c hc=>?_⟩;simp only[List.getElem?_map,Option.map_eq_some_iff]at hc;obtain⟨x,hx,rfl⟩:=hc;obtain⟨v,hv,fV⟩:=h2 j x hx;have hR:RI ν g.I g.w v x:=j0 fV _ _;exact⟨v,by simpa using hv,hR.one,.iv hR⟩
def mh (P:Program) (t:TypeId) (z:List IV):Bool:=
 match P.info? t with
 |some i=>(match i.zero with | some v=>im v.cells.toList z | none=>false)
 |none=>false
theorem kX {t:TypeId} {z:List IV} (h:mh P t z=true):∃i v,P.info? t=some i/\i.zero=some v/\im v.cells.toList z=true:=by
 unfold mh at h
 grind
theorem ox (r:Rel ν k g) {slot:Nat} {t:TypeId} {z:List IV} (ht:mh P t z=true) {y:AV} {h':Hp}
  (e:((M.fresh slot).bind λ_=>(eE (slot+1) (z.map .iv)).bind λl=>(M.write slot (.cells l)).bind λ_=>M.ret (.ref slot 0 0 0)).run g.h=some (y,h')) :
  bf ν k g h' y ((Instr.alloc t true (.tuple #[])).run P g.w):=by
 obtain⟨i,v,hi,hz,hc⟩:=kX ht;have:=kA (t:=t) r (qn hc) e;simpa[Instr.alloc,zeroValue,typeInfo,hi,hz,newVar,newRow]using this
theorem vY (r:Rel ν k g) {slot e:Nat} {a:Option Addr} {y:AV} {h':Hp}
  (e':((M.fresh slot).bind λ_=>(M.write slot (.buf 0 e [])).bind λ_=>M.ret (.own slot 0 0 0)).run g.h=some (y,h')):bf ν k g h' y (.ok (.slice a 0 0) g.w):=by
 obtain⟨_,h1,e1,e2⟩:=ag e';obtain⟨hf,rfl⟩:=M.cq e1;obtain⟨_,h2,e3,e4⟩:=ag e2;obtain rfl:=aL e3;obtain⟨rfl,rfl⟩:=af e4;have hn:=r.new (s:=slot) (ob:=.buf 0 e []) (p:=none) (w':=g.w) hf (Nat.le_refl _) rfl rfl rfl (λ_ _=>rfl) (λb h=>by cases h) λ_=>.inl ⟨aw _ _ _,rfl⟩
 refine⟨{ g with φ:=bl g.φ slot none,h:=set g.h slot (.buf 0 e []) },_,rfl,rfl,hn.1,hn.2,.own rfl ?_⟩;unfold aH;simp only[aq,aw];exact⟨Nat.le_refl _,λ_=>⟨⟨a,rfl⟩,rfl⟩⟩
end
section
variable {ν:Nat->Nat} {P:Program} {k:Cx} {g:Gh}
theorem iq (w:World) (b:Nat):∀(vs:List Value) (o k:Nat),k≠b->(w.setCells b o vs).heap[k]?=w.heap[k]?:=by
 intro vs
 induction vs generalizing w with
 |nil=>intro o k _;rfl
 |cons v vs ih=>intro o k hk;rw[World.setCells,ih _ _ _ hk];exact heap_setCell_other _ _ _ _ hk
theorem dH (w:World) (b:Nat):∀(vs:List Value) (o:Nat),(w.setCells b o vs).heap.size=w.heap.size:=by
 intro vs
 induction vs generalizing w with
 |nil=>intro o;rfl
 |cons v vs ih=>intro o;rw[World.setCells,ih];simp
theorem iR (w:World) (b:Nat):∀(vs:List Value) (o:Nat),(w.setCells b o vs).os=w.os/\(w.setCells b o vs).tape=w.tape/\(w.setCells b o vs).output=w.output:=by
 intro vs
 induction vs generalizing w with
 |nil=>intro o;exact⟨rfl,rfl,rfl⟩
 |cons v vs ih=>intro o;rw[World.setCells];exact ih _ _
theorem cT (w:World) (b o:Nat) (vs:List Value) (hc:∀j,j<vs.length->(w.cell? ⟨b,o+j,none⟩).isSome=true) (i:Nat) :
  (w.setCells b o vs).cell? ⟨b,i,none⟩=if o<=i/\i<o+vs.length then vs[i - o]? else w.cell? ⟨b,i,none⟩:=by
 by_cases h:o<=i/\i<o+vs.length
 ·rw[if_pos h];have:=World.cell?_setCells_in b vs o w hc (i - o) (by omega);rw[show o+(i - o)=i by omega]at this;rw[this,List.getElem?_eq_getElem (by omega)]
 ·rw[if_neg h];exact World.cell?_setCells_out b vs o w _ λ_ _=>by simp only[];omega
theorem fb (w:World) (b o:Nat) (vs:List Value) (hc:∀j,j<vs.length->(w.cell? ⟨b,o+j,none⟩).isSome=true) (i:Nat) (h:(w.cell? ⟨b,i,none⟩).isSome=true) :
  ((w.setCells b o vs).cell? ⟨b,i,none⟩).isSome=true:=by
 rw[cT w b o vs hc i];split
 ·rename_i h';rw[List.getElem?_eq_getElem (by omega)];rfl
 ·exact h
theorem cF.put {w w':World} {b e o n:Nat} {es es':List (List IV)} {v:Value} (h:cF w (some b) e es o n v) (hl:es.length<=es'.length)
  (hc:∀c,(w.cell? ⟨b,c,none⟩).isSome=true->(w'.cell? ⟨b,c,none⟩).isSome=true):cF w' (some b) e es' o n v:=by
 obtain⟨x,cap,e1,e2,e3,e4,e5⟩:=h;exact⟨x,cap,e1,by omega,e3,e4,λhx c h'=>hc c (e5 hx c h')⟩
theorem Rel.put (r:Rel ν k g) {id v e b off v':Nat} {es es':List (List IV)} {vs:List Value} (hg:get g.h id=some (.buf v e es)) (ah:g.φ id=some b)
  (dI:∀j,j<vs.length->(g.w.cell? ⟨b,off+j,none⟩).isSome=true) (hv:v'=v/\es.length<=es'.length\/v'=v+1)
  (aC:(∀v x,RI ν g.I g.w v x->RI ν g.I (g.w.setCells b off vs) v x)->Row ν g.I (g.w.setCells b off vs) b e es') :
  Rel ν k { g with w:=g.w.setCells b off vs,h:=set g.h id (.buf v' e es') }/\aX ν g { g with w:=g.w.setCells b off vs,h:=set g.h id (.buf v' e es') }:=by
 obtain⟨bZ,ca⟩:¬g.I b/\qm g.w b:=by
  rcases r.ob id _ hg with⟨h1,_⟩|⟨b',h1,h2,h3,_⟩
  ·rw[ah]at h1;cases h1
  ·rw[ah]at h1;cases h1;exact⟨h2,h3⟩
 have aO:bl g.φ id (g.φ id)=g.φ:=by funext i;simp only[bl];split<;>simp_all
 have cO:=iR g.w b vs off;have ht:=r.gO (s:=id) (ob:=.buf v' e es') (p:=g.φ id) (w':=g.w.setCells b off vs) (I':=g.I) hg (λb' h=>by rw[ah]at h;cases h;exact bZ) (by rw[dH];exact Nat.le_refl _) cO.1 cO.2.1 cO.2.2
  (λb' _ bG=>iq _ _ _ _ _ λhe=>bG (by rw[he];exact ah)) (λ_ h=>h) (λ_ h=>.inl h) (.inl rfl)
  (λu o n ai ho=>by
   unfold aH at ho ⊢;rw[hg]at ho;simp only[aq,aw];obtain⟨h1,h2⟩:=ho;rcases hv with⟨rfl,hl⟩|rfl
   ·refine⟨h1,λhe=>?_⟩;have:=h2 he;rw[ah]at this ⊢;exact this.put hl λc hc=>fb _ _ _ _ dI _ hc
   ·exact⟨by omega,λhe=>by omega⟩)
  (λu ai i j hr=>by
   unfold aI at hr ⊢;rw[hg]at hr;simp only[aq,aw];obtain⟨h1,h2⟩:=hr;rcases hv with⟨rfl,hl⟩|rfl
   ·exact⟨h1,h2⟩
   ·exact⟨by omega,λhe=>by omega⟩)
  (λck _=>.inr ⟨b,(aw _ _ _).trans ah,bZ,⟨by rw[dH];exact ca.1,λo=>by rw[World.frozen?_setCells];exact ca.2 o⟩,aC ck⟩)
 rw[aO]at ht;exact ht
theorem mH {t:TypeId} {i:TypeInfo} (hi:P.info? t=some i) {b off:Nat} {v:Value} {w:World} (hs:v.cells.size=i.size) (hc:∀j,j<i.size->(w.cell? ⟨b,off+j,none⟩).isSome=true)
  (hf:∀o,w.frozen? ⟨b,o,none⟩=false) (h1:∀u ∈ v.cells.toList,u.oneCell'=true) :
  (Instr.storeAt t (.pointer (some ⟨b,off,none⟩)) v).run P w = .ok () (w.setCells b off v.cells.toList):=by
 have:=run_storeCells_cells (P:=P) b off v.cells.toList 0 w (by simpa[hs]using hc) (λ_ _=>hf _) h1;simp[Instr.storeAt,Instr.sureAddr,storeVar,run_sizeOf hi,hs,this]
def iS (P:Program) (t:TypeId) (sz:Nat):Bool:=match P.info? t with | some i=>i.size==sz | none=>false
theorem fi {t:TypeId} {sz:Nat} (h:iS P t sz=true):∃i,P.info? t=some i/\i.size=sz:=by
 unfold iS at h;split at h
 ·exact⟨_,by assumption,by simpa using h⟩
 ·cases h
theorem qo (r:Rel ν k g) {slot:Nat} {t:TypeId} {sz:Nat} (ht:iS P t sz=true) {va vx:Value} {a x y:AV} (ct:RA ν g va a) (oy:RA ν g vx x) {h':Hp}
  (e':(store slot sz a x).run g.h=some (y,h')) :
  ∃g',(Instr.storeAt t va vx).run P g.w = .ok () g'.w/\y = .aR []/\g'.h=h'/\Rel ν k g'/\aX ν g g':=by
 obtain⟨i,hi,rfl⟩:=fi ht;obtain⟨xs,h1,e1,e2⟩:=ag e';obtain⟨rfl,hs,hc⟩:=fh e1 oy;obtain⟨hl,e4⟩:=M.aj e2;have jx:xs.length=i.size:=by simpa using hl
 have ed:∀u ∈ vx.cells.toList,u.oneCell'=true:=by
  intro u hu;obtain⟨j,hj,rfl⟩:=List.getElem_of_mem hu;simp only[Array.length_toList]at hj;obtain⟨u',h1,h2,_⟩:=hc j _ (List.getElem?_eq_getElem (by omega));rw[Array.getElem?_eq_getElem hj]at h1;cases h1;simpa using h2
 split at e4
 case h_2=>exact(ae e4).elim
 rename_i id ai i' j;cases ct with
 |ref kz hr=>
  obtain⟨ob,hg,e6⟩:=M.aM e4;unfold aI at hr;rw[hg]at hr;cases ob with
  |bb _ _ _=>exact(ae e6).elim
  |map _=>exact(ae e6).elim
  |cells cs=>
   obtain⟨rfl,rfl,b,ah,rfl⟩:=hr;obtain⟨cK,e8⟩:=M.aj e6;have rh:j+i.size<=cs.length:=by simpa using cK
   obtain⟨l,h5,e9,dm⟩:=ag e8;obtain⟨jg,r1,m1,c1,o1,o2⟩:=vX xs slot k g l h5 e9 r vx.cells ⟨hs,hc⟩;obtain⟨_,h6,oz,lu⟩:=ag dm;obtain rfl:=aL oz;obtain⟨rfl,rfl⟩:=af lu;obtain⟨b',aO,bZ,ca,oA⟩:=r.ob id _ hg;rw[ah]at aO;cases aO;have lr:l.length=i.size:=by have:=c1.1;omega
   have hex:∀m,m<vx.cells.toList.length->(g.w.cell? ⟨b,j+m,none⟩).isSome=true:=by
    intro m hm;simp only[Array.length_toList]at hm;obtain⟨u,hu,_⟩:=oA (j+m) _ (List.getElem?_eq_getElem (by omega));rw[hu];rfl
   have bd:=mH hi (b:=b) (off:=j) (v:=vx) (w:=g.w) (by omega) (λm hm=>hex m (by simp;omega)) ca.2 ed;have Cs:get h5 id=some (.cells cs):=by rw[(o1 id (by rw[hg];rfl)).2];exact hg
   have zU:jg id=some b:=by rw[(o1 id (by rw[hg];rfl)).1];exact ah
   have cO:=iR g.w b vx.cells.toList j;have GV:bl jg id (jg id)=jg:=by funext m;simp only[bl];split<;>simp_all
   have ht:=r1.gO (s:=id) (ob:=.cells (cn cs j l)) (p:=jg id) (w':=g.w.setCells b j vx.cells.toList) (I':=g.I) Cs (λb' h=>by simp only[zU]at h;cases h;exact bZ)
    (by rw[dH];exact Nat.le_refl _) cO.1 cO.2.1 cO.2.2
    (λb' _ bG=>iq _ _ _ _ _ λhe=>bG (by rw[he];exact zU)) (λ_ h=>h) (λ_ h=>.inl h) (.inl rfl)
    (λu o n ai ho=>by
     unfold aH at ho;simp only[Cs]at ho)
    (λu ai m n hr=>by
     unfold aI at hr ⊢;simp only[Cs]at hr;simp only[aq,aw];exact hr)
    (λ_ hm=>by
     refine⟨b,(aw _ _ _).trans zU,bZ,⟨by rw[dH];exact ca.1,λo=>by rw[World.frozen?_setCells];exact ca.2 o⟩,λm c c8=>?_⟩;rw[fZ _ _ _ (by omega)]at c8;simp only[];rw[cT _ _ _ _ hex];simp only[Array.length_toList,hs,jx];by_cases dT:j<=m/\m<j+i.size
     ·rw[if_pos (by omega)]at c8;rw[if_pos dT];obtain⟨u,h1,h2,h3⟩:=c1.2 _ c c8;exact⟨u,by simpa using h1,h2,hm _ _ h3⟩
     ·rw[if_neg (by omega)]at c8;rw[if_neg dT];obtain⟨u,h1,h2,h3⟩:=oA m c c8;exact⟨u,h1,h2,hm _ _ (m1 _ _ h3)⟩)
   rw[GV]at ht;exact⟨_,bd,rfl,rfl,ht.1,m1.trans ht.2⟩
  |buf v0 e0 Lr=>
   obtain⟨l,h4,e7,e8⟩:=ag e6;obtain⟨V,hV⟩:=pick hc;obtain⟨I1,f1,lr,hx⟩:=(iU ν 8).list xs k g l h4 e7 r V λj c h=>(hV j c h).2.2
   obtain⟨jv,dg,dm⟩:=M.aM e8;cases jv with
   |cells _=>exact(ae dm).elim
   |bb _ _ _=>exact(ae dm).elim
   |map _=>exact(ae dm).elim
   |buf v e es=>
    obtain⟨bt,lu⟩:=M.aj dm;simp only[Bool.and_eq_true,beq_iff_eq,Nat.ble_eq]at bt;obtain⟨hv,cK⟩:=bt;obtain⟨c,kT,rj⟩:=M.lift_bind lu;obtain⟨_,h8,Ct,Cu⟩:=ag rj;obtain rfl:=aL Ct;obtain⟨rfl,rfl⟩:=af Cu;have hR:=f1.mono _ _ (.ref kz (by unfold aI;rw[hg];exact hr):RA ν g va (.ref id ai i' j));cases hR with
    |ref _ hR=>
    unfold aI at hR;simp only[dg]at hR;obtain⟨b,ah,rfl⟩:=hR.2 hv;have r1:=f1.rel;rcases r1.ob id _ dg with⟨h1,_⟩|⟨b',h1,bZ,ca,aC⟩
    ·simp only[ah]at h1;cases h1
    simp only[ah]at h1;cases h1;simp only[]at bZ ca aC;have Bk:c.length=e:=aC.1 c (List.mem_of_getElem? kT);have hex:∀m,m<vx.cells.toList.length->(g.w.cell? ⟨b,i'*e+j+m,none⟩).isSome=true:=by
     intro m hm;simp only[Array.length_toList]at hm;obtain⟨u,hu,_⟩:=aC.2 i' (j+m) c _ kT (List.getElem?_eq_getElem (by omega));rw[Nat.add_assoc,hu];rfl
    have bd:=mH hi (b:=b) (off:=i'*e+j) (v:=vx) (w:=g.w) (by omega) (λm hm=>hex m (by simp;omega)) ca.2 ed;have bX:i'<es.length:=by
     rcases Nat.lt_or_ge i' es.length with h | h
     ·exact h
     ·rw[List.getElem?_eq_none h]at kT;cases kT
    have ef:=r1.put (id:=id) (v:=v) (e:=e) (b:=b) (off:=i'*e+j) (v':=v) (es:=es) (es':=es.set i' (cn c j l)) (vs:=vx.cells.toList) dg ah hex (.inl ⟨rfl,by simp⟩)
     (λck=>by
      refine⟨λc' bH=>?_,λi2 j2 c' x' h1 h2=>?_⟩
      ·rcases List.mem_or_eq_of_mem_set bH with h | h
       ·exact aC.1 c' h
       ·rw[h,dj _ _ _ (by omega)];exact Bk
      ·simp only[];rw[cT _ _ _ _ hex];simp only[Array.length_toList,hs,jx];rw[List.getElem?_set]at h1;by_cases ua:i'=i2
       ·subst ua;rw[if_pos rfl,if_pos bX]at h1;cases h1;rw[fZ _ _ _ (by omega)]at h2;by_cases dT:j<=j2/\j2<j+l.length
        ·rw[if_pos dT]at h2;rw[if_pos (by omega)];obtain⟨c0,FI⟩:∃c0,xs[j2 - j]?=some c0:=⟨_,List.getElem?_eq_getElem (by omega)⟩;obtain⟨u,hu,_,_⟩:=hc _ c0 FI;refine⟨u,?_,?_⟩
         ·rw[show i'*e+j2 - (i'*e+j)=j2 - j by omega];simpa using hu
         ·have:=(hV _ c0 FI).1;rw[hu]at this;cases this;exact ck _ _ (hx _ x' h2)
        ·rw[if_neg dT]at h2;rw[if_neg (by omega)];obtain⟨u,h3,h4⟩:=aC.2 i' j2 c x' kT h2;exact⟨u,h3,ck _ _ h4⟩
       ·rw[if_neg ua]at h1;have Bi:j2<e:=by
         have:=aC.1 c' (List.mem_of_getElem? h1);rcases Nat.lt_or_ge j2 c'.length with h | h
         ·omega
         ·rw[List.getElem?_eq_none h]at h2;cases h2
        have cW:¬(i'*e+j<=i2*e+j2/\i2*e+j2<i'*e+j+i.size):=by
         intro⟨ha,hb⟩;rcases Nat.lt_or_gt_of_ne ua with aV | aV
         ·have:i'*e+e<=i2*e:=by rw[<-Nat.succ_mul];exact Nat.mul_le_mul_right _ aV
          omega
         ·have:i2*e+e<=i'*e:=by rw[<-Nat.succ_mul];exact Nat.mul_le_mul_right _ aV
          omega
        rw[if_neg cW];obtain⟨u,h3,h4⟩:=aC.2 i2 j2 c' x' h1 h2;exact⟨u,h3,ck _ _ h4⟩)
    exact⟨_,bd,rfl,rfl,ef.1,f1.mono.trans ef.2⟩
end
theorem M.lv {α β γ:Type} (f:β->M γ) (h:α->β):∀l:List α,M.aN f (l.map h)=M.aN (λx=>f (h x)) l
 |[]=>rfl
 |x::r=>by simp only[List.map_cons,M.aN,M.lv f h r]
section
variable {ν:Nat->Nat} {P:Program} {k:Cx} {g:Gh}
def j1 (ν:Nat->Nat) (I:Nat->Prop) (w:World) (vs:Array Value) (e:Nat) (es:List (List IV)):Prop:=
 vs.size=es.length*e/\(∀c ∈ es,c.length=e)/\∀(i j:Nat) (c:List IV) (x:IV),es[i]?=some c->c[j]?=some x->∃u,vs[i*e+j]?=some u/\RI ν I w u x
theorem aA {α:Type} {l:List α} {i:Nat} {x:α} (h:l[i]?=some x):i<l.length:=by
 rcases Nat.lt_or_ge i l.length with h' | h'
 ·exact h'
 ·rw[List.getElem?_eq_none h']at h;cases h
theorem j1.step {I:Nat->Prop} {w:World} {vs us:Array Value} {e i0:Nat} {es:List (List IV)} {l:List IV} (h:j1 ν I w vs e es) (hi:i0<es.length) (hu:us.size=e) (hl:l.length=e)
  (hr:∀(m:Nat) (x:IV),l[m]?=some x->∃u,us[m]?=some u/\RI ν I w u x) :
  j1 ν I w ((us.toList.zipIdx).foldl (λcs (p:Value×Nat)=>cs.setIfInBounds (i0*e+p.2) p.1) vs) e (es.set i0 l):=by
 have cK:i0*e+e<=vs.size:=by rw[h.1,<-Nat.succ_mul];exact Nat.mul_le_mul_right _ hi
 have hs:=iQ (i0*e) us.toList 0 vs (by simp;omega);simp only[Nat.add_zero,Array.length_toList,hu]at hs;refine⟨by rw[hs.1,h.1];simp,λc hc=>?_,λi j c x h1 h2=>?_⟩
 ·rcases List.mem_or_eq_of_mem_set hc with h' | h'
  ·exact h.2.1 c h'
  ·rw[h',hl]
 ·rw[hs.2,List.getElem?_set]at *;by_cases oB:i0=i
  ·subst oB;rw[if_pos rfl,if_pos hi]at h1;cases h1;have hj:=aA h2;rw[if_pos (by omega),show i0*e+j - i0*e=j by omega];simpa using hr j x h2
  ·rw[if_neg oB]at h1;have hj:j<e:=by have:=aA h2;rw[h.2.1 c (List.mem_of_getElem? h1)]at this;exact this
   have cW:¬(i0*e<=i*e+j/\i*e+j<i0*e+e):=by
    intro⟨ha,hb⟩;rcases Nat.lt_or_gt_of_ne oB with aV | aV
    ·have:i0*e+e<=i*e:=by rw[<-Nat.succ_mul];exact Nat.mul_le_mul_right _ aV
     omega
    ·have:i*e+e<=i0*e:=by rw[<-Nat.succ_mul];exact Nat.mul_le_mul_right _ aV
     omega
   rw[if_neg cW];exact h.2.2 i j c x h1 h2
theorem zV {e n:Nat}:∀(ps:List (Nat×AV)) (k:Cx) (g:Gh) (out:List (Nat×List IV)) (h':Hp),
  (M.aN (λp:Nat×AV=>(bW p.2).bind λxs=>(M.ok (xs.length==e&&Nat.blt p.1 n)).bind λ_=>(M.aN (fz true 8) xs).bind λl=>M.ret (p.1,l)) ps).run g.h=some (out,h')->Rel ν k g->
  ∀vs:List (Nat×Value),vs.length=ps.length->(∀(j:Nat) (q:Nat×Value) (p:Nat×AV),vs[j]?=some q->ps[j]?=some p->q.1=p.1/\RA ν g q.2 p.2)->
  ∃I',cg ν k g h' I'/\out.length=vs.length/\∀(j:Nat) (p:Nat×List IV) (q:Nat×Value),out[j]?=some p->vs[j]?=some q->
   q.1=p.1/\p.1<n/\q.2.cells.size=e/\p.2.length=e/\∀(m:Nat) (x:IV),p.2[m]?=some x->∃u,q.2.cells[m]?=some u/\RI ν I' g.w u x:=by
 intro ps
 induction ps with
 |nil=>
  intro k g out h' e' r vs hl _;obtain⟨rfl,rfl⟩:=b9 e';have:vs=[]:=List.eq_nil_of_length_eq_zero hl;subst this;exact⟨g.I,.refl r,rfl,λj p q h=>by simp at h⟩
 |cons p ps ih=>
  intro k g out h' e' r vs hl hv;obtain⟨y,h1,zs,e1,e2,rfl⟩:=bU e';cases vs with
  |nil=>simp at hl
  |cons q vs=>
   obtain⟨hq,Cv⟩:=hv 0 q p rfl rfl;obtain⟨xs,h2,e3,e4⟩:=ag e1;obtain⟨rfl,hs,hc⟩:=fh e3 Cv;obtain⟨bt,e6⟩:=M.aj e4;simp only[Bool.and_eq_true,beq_iff_eq,Nat.blt_eq]at bt;obtain⟨l,h4,e7,e8⟩:=ag e6;obtain⟨V,hV⟩:=pick hc;obtain⟨I1,f1,lr,hx⟩:=(iU ν 8).list xs k g l h4 e7 r V λj c h=>(hV j c h).2.2
   obtain⟨rfl,rfl⟩:=af e8;obtain⟨I2,f2,kU,ub⟩:=ih k _ zs h' e2 f1.rel vs (by simpa using hl) λj q' p' h1 h2=>by
    obtain⟨a1,a2⟩:=hv (j+1) q' p' (by simpa using h1) (by simpa using h2);exact⟨a1,f1.mono _ _ a2⟩
   refine⟨I2,f1.trans f2,by simp[kU],λj p' q' h1 h2=>?_⟩;cases j with
   |zero=>
    simp at h1 h2;subst h1 h2;refine⟨hq,bt.2,by omega,by simp only[];omega,λm x hm=>?_⟩;have aV:=aA hm;simp only[]at aV;have hu:=(hV m _ (List.getElem?_eq_getElem (show m<xs.length by omega))).1;exact⟨V m,hu,(hx m x hm).mono f2.sub λ_ _ _ _ h=>h⟩
   |succ j=>exact ub j p' q' (by simpa using h1) (by simpa using h2)
theorem qp {I:Nat->Prop} {w:World} {e:Nat}:∀(out:List (Nat×List IV)) (vs:List (Nat×Value)) (cells:Array Value) (es:List (List IV)),out.length=vs.length->j1 ν I w cells e es->
  (∀(j:Nat) (p:Nat×List IV) (q:Nat×Value),out[j]?=some p->vs[j]?=some q->
   q.1=p.1/\p.1<es.length/\q.2.cells.size=e/\p.2.length=e/\∀(m:Nat) (x:IV),p.2[m]?=some x->∃u,q.2.cells[m]?=some u/\RI ν I w u x)->
  ∃eQ,Instr.fill (λi=>some (i*e,e)) cells vs=some eQ/\j1 ν I w eQ e (ec es out):=by
 intro out
 induction out with
 |nil=>
  intro vs cells es hl aC _;have:vs=[]:=List.eq_nil_of_length_eq_zero hl.symm;subst this;exact⟨cells,rfl,aC⟩
 |cons p out ih=>
  intro vs cells es hl aC hh;cases vs with
  |nil=>simp at hl
  |cons q vs=>
   obtain⟨h1,h2,h3,h4,h5⟩:=hh 0 p q rfl rfl;have xe:=aC.step (i0:=p.1) (us:=q.2.cells) (l:=p.2) h2 h3 h4 h5;obtain⟨c',bH,fW⟩:=ih vs _ (es.set p.1 p.2) (by simpa using hl) xe λj p' q' a b=>by
    obtain⟨x1,x2,x3⟩:=hh (j+1) p' q' (by simpa using a) (by simpa using b);exact⟨x1,by simpa using x2,x3⟩
   refine⟨c',?_,fW⟩;rw[<-bH];have cK:¬(cells.size<q.1*e+e):=by
    have:p.1*e+e<=es.length*e:=by rw[<-Nat.succ_mul];exact Nat.mul_le_mul_right _ h2
    rw[aC.1,h1];omega
   obtain⟨i,v⟩:=q;simp only at h1 h3 cK;subst h1;simp only[Instr.fill,h3];rw[if_neg (by simp;omega)];congr 1;rw[<-Array.foldl_toList,Array.toList_zipIdx]
def xf (P:Program) (t:TypeId) (len e:Nat) (z:List IV):Bool:=
 match P.underlying t with
 |some (.slice el)=>iS P el e&&mh P el z&&Nat.ble (len*e) 16777216&&z.length==e&&Nat.blt 0 e
 |_=>false
theorem mi {zs:Array Value} {z:List IV} (hz:im zs.toList z=true) (n:Nat) {I:Nat->Prop} {w:World} :
  j1 ν I w ((Array.range (n*zs.size)).map (zs[· % zs.size]!)) zs.size (List.replicate n z):=by
 obtain⟨h1,h2⟩:=iX hz;refine⟨by simp,λc hc=>by rw[List.eq_of_mem_replicate hc];simpa using h1.symm,λi j c x hi hj=>?_⟩;have bX:=aA hi;simp only[List.length_replicate]at bX;rw[List.getElem?_replicate,if_pos bX]at hi;cases hi;have Bl:=aA hj;obtain⟨v,hv,hc⟩:=h2 j x hj;have uc:j<zs.size:=by simp at h1;omega
 have aV:i*zs.size+j<n*zs.size:=by
  have:i*zs.size+zs.size<=n*zs.size:=by rw[<-Nat.succ_mul];exact Nat.mul_le_mul_right _ bX
  omega
 refine⟨v,?_,j0 hc _ _⟩;have qq:(i*zs.size+j) % zs.size=j:=by rw[Nat.add_comm,Nat.add_mul_mod_self_right,Nat.mod_eq_of_lt uc]
 simp only[Array.getElem?_map,Array.getElem?_range,if_pos aV,Option.map_some,qq];rw[getElem!_pos zs j uc];have:zs[j]?=some v:=by simpa using hv
 rw[Array.getElem?_eq_getElem uc]at this;exact this
theorem ud (r:Rel ν k g) {slot:Nat} {t:TypeId} {n e:Nat} {z:List IV} (ht:xf P t n e z=true) {ps:List (Nat×AV)} {vs:List (Nat×Value)} (hl:vs.length=ps.length)
  (hv:∀(j:Nat) (q:Nat×Value) (p:Nat×AV),vs[j]?=some q->ps[j]?=some p->q.1=p.1/\RA ν g q.2 p.2) {y:AV} {h':Hp}
  (e':((M.ok (z.length==e)).bind λ_=>
   (M.aN (λp:Nat×AV=>(bW p.2).bind λxs=>(M.ok (xs.length==e&&Nat.blt p.1 n)).bind λ_=>(M.aN (fz true 8) xs).bind λl=>M.ret (p.1,l)) ps).bind λl=>
   (M.fresh slot).bind λ_=>(M.write slot (.buf 0 e (ec (List.replicate n z) l))).bind λ_=>M.ret (.own slot 0 n 0)).run g.h=some (y,h')) :
  bf ν k g h' y ((Instr.buildSlice t n vs.toArray).run P g.w):=by
 unfold xf at ht;split at ht
 case h_2=>cases ht
 rename_i el hu;simp only[Bool.and_eq_true,beq_iff_eq,Nat.ble_eq,Nat.blt_eq]at ht;obtain⟨⟨⟨⟨bC,hz⟩,GW⟩,ta⟩,dK⟩:=ht;obtain⟨i,hi,rk⟩:=fi bC;obtain⟨i',v,bX,oC,fV⟩:=kX hz;rw[hi]at bX;cases bX;subst rk;have eR:v.cells.size=i.size:=by have:=(iX fV).1;simp at this;omega
 obtain⟨-,e2⟩:=M.aj e';obtain⟨out,h2,e3,e4⟩:=ag e2;obtain⟨I1,f1,iD,zW⟩:=zV ps k g out h2 e3 r vs hl hv;obtain⟨_,h3,e5,e6⟩:=ag e4;obtain⟨hf,rfl⟩:=M.cq e5;obtain⟨_,h4,e7,e8⟩:=ag e6;obtain rfl:=aL e7;obtain⟨rfl,rfl⟩:=af e8;have rl:=mi (ν:=ν) fV n (I:=I1) (w:=g.w);rw[eR]at rl;obtain⟨cells,fj,aC⟩:=qp out vs _ _ iD rl λj p q a b=>by
  obtain⟨x1,x2,x3⟩:=zW j p q a b;exact⟨x1,by simpa using x2,x3⟩
 have hlen:(ec (List.replicate n z) out).length=n:=by
  have:∀(o:List (Nat×List IV)) (l:List (List IV)),(ec l o).length=l.length:=by
   intro o
   induction o with
   |nil=>intro l;rfl
   |cons a o ih=>intro l;simp[ec,ih]
  rw[this];simp
 have bd:(Instr.buildSlice t n vs.toArray).run P g.w = .ok (.slice (some ⟨g.w.heap.size,0,none⟩) n n) (g.w.alloc (.cells cells el)):=by
  have Cw:¬(2 ^ 24<n*i.size):=by omega
  by_cases gu:n=0
  ·subst gu;simp only[Nat.zero_mul,Array.range_zero',List.map_toArray]at fj;simp only[Instr.buildSlice,Sem.run_bind,run_underlying hu,Result.andThen_ok,run_sizeOf hi];simp at fj;simp[fj,newRow,Array.range_zero']
  ·simp only[Instr.buildSlice,Sem.run_bind,run_underlying hu,Result.andThen_ok,run_sizeOf hi];have Cy:¬n*i.size=0:=Nat.mul_ne_zero gu (by omega);simp[Cw,Cy,zeroValue,typeInfo,hi,oC,eR,fj,newRow]
 have r1:=f1.rel;have hn:=r1.new (s:=slot) (ob:=.buf 0 i.size (ec (List.replicate n z) out)) (p:=some g.w.heap.size) (w':=g.w.alloc (.cells cells el)) hf (by simp) rfl rfl rfl (λb hb=>alloc_old _ _ _ hb)
  (λb h=>by cases h;exact Nat.le_refl _) λhm=>by
   have ck:∀u x,RI ν I1 g.w u x->RI ν I1 (g.w.alloc (.cells cells el)) u x:=λu x h=>h.mono (λ_ h=>h) λb off w hb hc=>by
    rw[bx (alloc_old _ _ _ (r1.small b hb))];exact hc
   refine .inr ⟨g.w.heap.size,aw _ _ _,λbX=>Nat.lt_irrefl _ (r1.small _ bX),⟨by simp,λo=>World.frozen?_alloc_new _ _ _ _⟩,aC.2.1,λa b c x h1 h2=>?_⟩;obtain⟨u,dv,hR⟩:=aC.2.2 a b c x h1 h2;exact⟨u,by simp only[];rw[World.cell?_alloc_new];exact dv,ck _ _ hR⟩
 refine⟨_,_,bd,rfl,hn.1,f1.mono.trans hn.2,.own rfl ?_⟩;unfold aH;simp only[aq,aw];refine⟨Nat.le_refl _,λ_=>⟨0,n,rfl,by omega,Nat.le_refl _,.inl (by simp),λ_ c hc=>?_⟩⟩;rw[World.cell?_alloc_new,Array.getElem?_eq_getElem (by rw[aC.1,hlen];simpa using hc)];rfl
end
section
variable {ν:Nat->Nat} {P:Program} {k:Cx} {g:Gh}
theorem oD {e m:Nat} {f:Nat->Nat->Value}:∃news:List Value,news.length=m*e/\∀i j,i<m->j<e->news[i*e+j]?=some (f i j):=by
 refine⟨(List.range (m*e)).map λp=>f (p / e) (p % e),by simp,λi j hi hj=>?_⟩;have aV:i*e+j<m*e:=by
  have:i*e+e<=m*e:=by rw[<-Nat.succ_mul];exact Nat.mul_le_mul_right _ hi
  omega
 have hd:(i*e+j) / e=i:=by rw[Nat.mul_comm,Nat.mul_add_div (by omega),Nat.div_eq_of_lt hj,Nat.add_zero]
 have hm:(i*e+j) % e=j:=by rw[Nat.mul_comm,Nat.mul_add_mod,Nat.mod_eq_of_lt hj]
 simp[aV,hd,hm]
theorem kY {e m p:Nat} (h:p<m*e):∃i j,i<m/\j<e/\p=i*e+j:=by
 have he:0<e:=by
  rcases Nat.eq_zero_or_pos e with h0 | h0
  ·subst h0;simp at h
  ·exact h0
 refine⟨p / e,p % e,(Nat.div_lt_iff_lt_mul he).2 h,Nat.mod_lt _ he,?_⟩;rw[Nat.mul_comm];exact(Nat.div_add_mod p e).symm
def j3 (ν:Nat->Nat) (g:Gh) (v:Value) (e:Nat) (ys:List (List IV)) (news:List Value):Prop:=
 (∃a c,v = .slice a ys.length c/\(ys.length=0\/∃b off,a=some ⟨b,off,none⟩/\∀(p:Nat) (u:Value),news[p]?=some u->g.w.cell? ⟨b,off+p,none⟩=some u))/\
 news.length=ys.length*e/\(∀c ∈ ys,c.length=e)/\(∀u ∈ news,u.oneCell'=true)/\
 ∀(i j:Nat) (c:List IV) (x:IV),ys[i]?=some c->c[j]?=some x->∃u,news[i*e+j]?=some u/\RI ν g.I g.w u x
theorem j4 {b off a0 e m cap:Nat} {ys:List (List IV)} (hm:m=ys.length) (hl:∀c ∈ ys,c.length=e)
  (hc:∀(i j:Nat) (c:List IV) (x:IV),ys[i]?=some c->c[j]?=some x->∃u,g.w.cell? ⟨b,off+i*e+j,none⟩=some u/\RI ν g.I g.w u x) (ha:off=a0) :
  ∃news,j3 ν g (.slice (some ⟨b,a0,none⟩) m cap) e ys news:=by
 subst hm ha;have cf:∀i j,i<ys.length->j<e->∃u:Value,∀c x,ys[i]?=some c->c[j]?=some x->g.w.cell? ⟨b,off+i*e+j,none⟩=some u/\RI ν g.I g.w u x:=by
  intro i j hi hj;have kT:ys[i]?=some ys[i]:=List.getElem?_eq_getElem hi;have hle:=hl _ (List.getElem_mem hi);obtain⟨u,h1,h2⟩:=hc i j _ _ kT (List.getElem?_eq_getElem (by omega));exact⟨u,λc x h3 h4=>by
   rw[kT]at h3;cases h3;rw[List.getElem?_eq_getElem (by omega)]at h4;cases h4;exact⟨h1,h2⟩⟩
 obtain⟨f,hf⟩:∃f:Nat->Nat->Value,∀i j,i<ys.length->j<e->∀c x,ys[i]?=some c->c[j]?=some x->g.w.cell? ⟨b,off+i*e+j,none⟩=some (f i j)/\RI ν g.I g.w (f i j) x:=by
  refine⟨λi j=>if h:i<ys.length/\j<e then Classical.choose (cf i j h.1 h.2) else .bool true,λi j hi hj=>?_⟩;have h:i<ys.length/\j<e:=⟨hi,hj⟩;simp only[dif_pos h];exact Classical.choose_spec (cf i j hi hj)
 obtain⟨news,hn,rm⟩:=oD (e:=e) (m:=ys.length) (f:=f);have eS:∀(p:Nat) (u:Value),news[p]?=some u->∃i j c x,i<ys.length/\j<e/\p=i*e+j/\u=f i j/\ys[i]?=some c/\c[j]?=some x:=by
  intro p u hu;have hp:=aA hu;rw[hn]at hp;obtain⟨i,j,hi,hj,rfl⟩:=kY hp;rw[rm i j hi hj]at hu;cases hu;have hle:=hl _ (List.getElem_mem hi);exact⟨i,j,_,_,hi,hj,rfl,rfl,List.getElem?_eq_getElem hi,List.getElem?_eq_getElem (by omega)⟩
 refine⟨news,⟨_,cap,rfl,.inr ⟨b,off,rfl,λp u hu=>?_⟩⟩,hn,hl,λu hu=>?_,λi j c x h1 h2=>?_⟩
 ·obtain⟨i,j,c,x,hi,hj,rfl,rfl,h3,h4⟩:=eS p u hu;rw[<-Nat.add_assoc];exact(hf i j hi hj c x h3 h4).1
 ·obtain⟨p,hp,rfl⟩:=List.getElem_of_mem hu;obtain⟨i,j,c,x,hi,hj,_,h5,h3,h4⟩:=eS p _ (List.getElem?_eq_getElem hp);rw[h5];exact(hf i j hi hj c x h3 h4).2.one
 ·have hi:=aA h1;have hj:j<e:=by have:=aA h2;rwa [hl c (List.mem_of_getElem? h1)]at this
  exact⟨_,rm i j hi hj,(hf i j hi hj c x h1 h2).2⟩
theorem ga {v:Value} {e:Nat} {a:Option Addr} {c:Nat} (hv:v = .slice a 0 c):j3 ν g v e [] []:=
 ⟨⟨a,c,hv,.inl rfl⟩,by simp,λc h=>by simp at h,λu h=>by simp at h,λi j c x h=>by simp at h⟩
theorem j5 (r:Rel ν k g) {e:Nat} {x:AV} {ys:List (List IV)} {h':Hp} (e':(elems e x).run g.h=some (ys,h')) {v:Value} (hv:RA ν g v x):h'=g.h/\∃news,j3 ν g v e ys news:=by
 cases hv with
 |undef=>exact(ae e').elim
 |agg=>exact(ae e').elim
 |aR=>exact(ae e').elim
 |ref=>exact(ae e').elim
 |bJ=>exact(ae e').elim
 |iv hr=>
  cases hr with
  |az a _=>obtain⟨rfl,rfl⟩:=af e';exact⟨rfl,_,ga rfl⟩
  |dS a cap _=>
   obtain⟨-,e2⟩:=M.aj e';obtain⟨rfl,rfl⟩:=af e2;exact⟨rfl,_,ga rfl⟩
  |sl b off n cap aJ es f hI hn eF lr hc hr=>
   obtain⟨he,e2⟩:=M.aj e';obtain⟨rfl,rfl⟩:=af e2;have cB:aJ=e:=by simpa using he
   subst cB;exact⟨rfl,j4 hn lr (λi j c x h1 h2=>⟨_,hc i j c x h1 h2,hr i j c x h1 h2⟩) rfl⟩
  |_=>exact(ae e').elim
 |@own _ id o m ai jU ho=>
  obtain⟨ob,hg,e2⟩:=M.aM e';unfold aH at ho;rw[hg]at ho;have fin:∀{aJ:Nat} {es:List (List IV)},(∀b,g.φ id=some b->Row ν g.I g.w b aJ es)->aJ=e->cF g.w (g.φ id) aJ es o m v->∃news,j3 ν g v e ((es.drop o).take m) news:=by
   intro aJ es aC he hs;subst he;cases ah:g.φ id with
   |none=>
    rw[ah]at hs;obtain⟨⟨a,rfl⟩,rfl⟩:=hs;exact⟨[],by simpa using ga (ν:=ν) (g:=g) (e:=aJ) (v:=.slice a 0 0) rfl⟩
   |some b=>
    rw[ah]at hs;obtain⟨x,cap,rfl,h2,h3,h4,_⟩:=hs;by_cases hm:m=0
    ·subst hm;exact⟨[],by simpa using ga (ν:=ν) (g:=g) (e:=aJ) (a:=some ⟨b,x,none⟩) (c:=cap) rfl⟩
    ·have hx:x=o*aJ:=h4.resolve_right λh=>hm h.1
     have aC:=aC b ah;have eG:∀(i:Nat) (c:List IV),((es.drop o).take m)[i]?=some c->es[o+i]?=some c:=by
      intro i c hi;rw[List.getElem?_take]at hi;split at hi
      ·rwa [List.getElem?_drop]at hi
      ·cases hi
     exact j4 (by simp;omega) (λc hc=>aC.1 c (List.mem_of_mem_drop (List.mem_of_mem_take hc))) (λi j c y h1 h2=>by
      obtain⟨u,hu,hR⟩:=aC.2 (o+i) j c y (eG i c h1) h2;exact⟨u,by rwa [Nat.add_mul]at hu,hR⟩) hx.symm
  cases ob with
  |cells cs=>exact ho.elim
  |buf v' aJ es=>
   obtain⟨cz,dm⟩:=M.aj e2;obtain⟨rfl,rfl⟩:=af dm;simp only[Bool.and_eq_true,beq_iff_eq]at cz;refine⟨rfl,fin (λb ah=>?_) cz.2 (ho.2 cz.1)⟩;rcases r.ob id _ hg with⟨h1,_⟩|⟨b',h1,_,_,aC⟩
   ·rw[ah]at h1;cases h1
   ·rw[ah]at h1;cases h1;exact aC
  |bb v' aJ es=>
   obtain⟨cz,dm⟩:=M.aj e2;obtain⟨rfl,rfl⟩:=af dm;simp only[Bool.and_eq_true,beq_iff_eq]at cz;refine⟨rfl,fin (λb ah=>?_) cz.2 (ho.2 cz.1)⟩;rcases r.ob id _ hg with⟨h1,_⟩|⟨b',h1,_,aC⟩
   ·rw[ah]at h1;cases h1
   ·rw[ah]at h1;cases h1;exact aC
  |map _=>exact ho.elim
def oE (P:Program) (t u:TypeId) (e:Nat):Bool:=
 match P.underlying t,P.underlying u with
 |some (.slice el),some d=>(match d with | .int _=>false | _=>true)&&Nat.blt 0 e&&(match P.info? el with
  |some i=>i.size==e&&Nat.ble i.bytes 4096&&(match i.zero with | some z=>z.cells.size==e | none=>false)
  |none=>false)
 |_,_=>false
theorem tb {t u:TypeId} {e:Nat} (h:oE P t u e=true):∃el d i z,P.underlying t=some (.slice el)/\P.underlying u=some d/\(∀kk,d≠.int kk)/\P.info? el=some i/\i.size=e/\i.bytes<=4096/\i.zero=some z/\z.cells.size=e/\0<e:=by
 unfold oE at h;split at h
 case h_2=>cases h
 rename_i el d hu hd;simp only[Bool.and_eq_true,Nat.blt_eq]at h;obtain⟨⟨h1,h2⟩,h3⟩:=h;split at h3
 case h_2=>cases h3
 rename_i i hi;simp only[Bool.and_eq_true,beq_iff_eq,Nat.ble_eq]at h3;obtain⟨⟨h4,h5⟩,h6⟩:=h3;split at h6
 case h_2=>cases h6
 rename_i z hz;exact⟨el,d,i,z,hu,hd,(λkk he=>by subst he;cases h1),hi,h4,h5,hz,by simpa using h6,h2⟩
theorem mj {v:Value} {e:Nat} {ys:List (List IV)} {news:List Value} (h:j3 ν g v e ys news) {w:World} (hw:∀b off u,g.w.cell? ⟨b,off,none⟩=some u->w.cell? ⟨b,off,none⟩=some u) :
  (Builtin.lenOf v).run P w = .ok ys.length w/\(Builtin.firstCells e ys.length v).run P w = .ok news.toArray w:=by
 obtain⟨⟨a,c,rfl,ha⟩,hn,_⟩:=h;refine⟨by simp[Builtin.lenOf],?_⟩;rcases ha with h0 | ⟨b,off,rfl,hc⟩
 ·have:news=[]:=List.eq_nil_of_length_eq_zero (by rw[hn,h0];simp);subst this;cases a with
  |none=>simp[Builtin.firstCells]
  |some a=>simp[Builtin.firstCells,h0,loadCells,loadCellsFrom]
 ·exact run_firstCells_some w e ys.length _ _ _ news hn λj u hu=>by rw[Addr.add_lit];exact hw _ _ _ (hc j u hu)
theorem lx {need cap bytes:Nat} (h:cap<need) (hn:need<=1073741824) (hb:bytes<=4096):Builtin.nextslicecap need cap*bytes<=281474976710656:=by
 refine growslice_fits h ?_;exact Nat.le_trans (Nat.mul_le_mul hn hb) (by decide)
theorem fk {t u ty:TypeId} {e:Nat} (ht:oE P t u e=true) {base:Option Addr} {n cap:Nat} {olds:List Value} (iD:olds.length=n*e)
  (ho:n=0\/∃b,base=some ⟨b,0,none⟩/\∀(p:Nat) (x:Value),olds[p]?=some x->g.w.cell? ⟨b,p,none⟩=some x) {y:Value} {ys:List (List IV)} {news:List Value} (hy:j3 ν g y e ys news)
  (dk:n+ys.length<=1073741824) :
  (n+ys.length<=cap/\∀R,(match base with | some a=>(storeCells (a.add (n*e)) news).run P g.w | none=>.ok () g.w) = .ok () R->
    (Builtin.append_ #[t,u] ty #[.slice base n cap,y]).run P g.w = .ok (.slice base (n+ys.length) cap) R)\/
  (cap<n+ys.length/\∃(el dw:Nat) (arr:Array Value),n+ys.length<=dw/\arr.size=dw*e/\(∀(p:Nat) (x:Value),(olds++news)[p]?=some x->arr[p]?=some x)/\
    (Builtin.append_ #[t,u] ty #[.slice base n cap,y]).run P g.w = .ok (.slice (some ⟨g.w.heap.size,0,none⟩) (n+ys.length) dw) (g.w.drew.alloc (.cells arr el))):=by
 obtain⟨el,d,i,z,hu,hd,JN,hi,rfl,hb,hz,kB,dK⟩:=tb ht;obtain⟨f1,f2⟩:=mj (P:=P) hy (w:=g.w) λ_ _ _ h=>h
 by_cases hc:n+ys.length<=cap
 ·refine .inl ⟨hc,λR hR=>?_⟩;cases base with
  |none=>
   simp only[Result.ok.injEq,true_and]at hR;subst hR;simp[Builtin.append_,run_underlying hu,run_underlying hd,run_sizeOf hi,f1,f2,hc]
  |some a=>
   simp only[]at hR;simp[Builtin.append_,run_underlying hu,run_underlying hd,run_sizeOf hi,f1,f2,hc,hR]
 ·refine .inr ⟨by omega,el,grownCap g.w (n+ys.length) cap el,olds.toArray++news.toArray++Builtin.zeroCells z.cells (grownCap g.w (n+ys.length) cap el - (n+ys.length)),grownCap_ge _ _ _ _,?_,?_,?_⟩
  ·have:=grownCap_ge g.w (n+ys.length) cap el;simp only[Array.size_append,List.size_toArray];rw[size_zeroCells,kB,iD,hy.2.1,<-Nat.add_mul,<-Nat.add_mul];congr 1;omega
  ·intro p x hx;have hp:=aA hx;rw[Array.getElem?_append_left (by simpa using hp)];simpa using hx
  ·obtain⟨-,Cz⟩:=mj (P:=P) hy (w:=g.w.drew) λ_ _ _ h=>h
   have hold:(Builtin.firstCells i.size n (.slice base n cap)).run P g.w.drew = .ok olds.toArray g.w.drew:=by
    rcases ho with h0 | ⟨b,rfl,ek⟩
    ·have:olds=[]:=List.eq_nil_of_length_eq_zero (by rw[iD,h0];simp);subst this;cases base with
     |none=>simp[Builtin.firstCells]
     |some a=>simp[Builtin.firstCells,h0,loadCells,loadCellsFrom]
    ·exact run_firstCells_some g.w.drew i.size n _ _ _ olds iD λj x hx=>by rw[Addr.add_lit];simpa using ek j x hx
   have eF:=lx (need:=n+ys.length) (cap:=cap) (bytes:=i.bytes) (by omega) dk hb;have uf:¬(281474976710656<Builtin.nextslicecap (n+ys.length) cap*i.bytes):=by omega
   have CA:¬((9223372036854775807:Int)<(n:Int)+ys.length):=by omega
   simp[Builtin.append_,run_underlying hu,run_underlying hd,run_sizeOf hi,f1,hc,CA,typeInfo,hi,uf,Question.forced,hold,Cz,zeroValue,hz,newRow,grownCap];congr 2;apply Array.ext';simp
theorem ug (r:Rel ν k g) {slot:Nat} {t u ty:TypeId} {e:Nat} (ht:oE P t u e=true) {v yv:Value} {x y z:AV} (hv:RA ν g v x) (yu:RA ν g yv y) {h':Hp}
  (e':(app e slot x y).run g.h=some (z,h')):bf ν k g h' z ((Builtin.append_ #[t,u] ty #[v,yv]).run P g.w):=by
 obtain⟨ys,h1,e1,e2⟩:=ag e';obtain⟨rfl,news,hy⟩:=j5 r e1 yu;have oF:=hy.2.1;have mW:=hy.2.2.1;have rn:=hy.2.2.2.2;cases hv with
 |undef=>exact(ae e2).elim
 |agg=>exact(ae e2).elim
 |aR=>exact(ae e2).elim
 |ref=>exact(ae e2).elim
 |bJ=>exact(ae e2).elim
 |iv hr=>
  cases hr with
  |az a _=>
   obtain⟨dk,e4⟩:=M.aj e2;obtain⟨_,h3,e5,e6⟩:=ag e4;obtain⟨hf,rfl⟩:=M.cq e5;obtain⟨_,h4,e7,e8⟩:=ag e6;obtain rfl:=aL e7;obtain⟨rfl,rfl⟩:=af e8;have fN:0+ys.length<=1073741824:=by simpa[roomy]using dk
   rcases fk (ty:=ty) (base:=a) (n:=0) (cap:=0) (olds:=[]) ht (by simp) (.inl rfl) hy fN with⟨hc,bd⟩|⟨hc,el,dw,arr,h1,h2,h3,bd⟩
   ·have h0:ys=[]:=List.eq_nil_of_length_eq_zero (by omega);subst h0;have gu:news=[]:=List.eq_nil_of_length_eq_zero (by simpa using oF);subst gu;have:=bd g.w (by cases a<;>simp[storeCells]);have hn:=r.new (s:=slot) (ob:=.buf 0 e []) (p:=none) (w':=g.w) hf (Nat.le_refl _) rfl rfl rfl (λ_ _=>rfl) (λb h=>by cases h) λ_=>.inl ⟨aw _ _ _,rfl⟩
    refine⟨{ g with φ:=bl g.φ slot none,h:=set g.h slot (.buf 0 e []) },_,this,rfl,hn.1,hn.2,.own rfl ?_⟩;unfold aH;simp only[aq,aw];exact⟨Nat.le_refl _,λ_=>⟨⟨a,rfl⟩,rfl⟩⟩
   ·simp only[Nat.zero_add]at *;have hn:=r.new (s:=slot) (ob:=.buf 0 e ys) (p:=some g.w.heap.size) (w':=g.w.drew.alloc (.cells arr el)) hf (by simp) rfl rfl rfl (λb hb=>alloc_old g.w.drew _ _ hb)
     (λb h=>by cases h;exact Nat.le_refl _) λ_=>by
      have ck:∀u x,RI ν g.I g.w u x->RI ν g.I (g.w.drew.alloc (.cells arr el)) u x:=λu x h=>h.mono (λ_ h=>h) λb off w hb hc=>by
       rw[bx (alloc_old g.w.drew _ _ (r.small b hb))];exact hc
      refine .inr ⟨g.w.heap.size,aw _ _ _,λbX=>Nat.lt_irrefl _ (r.small _ bX),⟨by simp,λo=>World.frozen?_alloc_new g.w.drew _ _ _⟩,mW,λi j c x hi hj=>?_⟩;obtain⟨u,hu,hR⟩:=rn i j c x hi hj;exact⟨u,by simp only[];rw[show(g.w.drew.alloc (.cells arr el)).cell? ⟨g.w.heap.size,i*e+j,none⟩=arr[i*e+j]? from World.cell?_alloc_new g.w.drew _ _ _];exact h3 _ _ (by simpa using hu),ck _ _ hR⟩
    refine⟨_,_,bd,rfl,hn.1,hn.2,.own rfl ?_⟩;unfold aH;simp only[aq,aw];refine⟨Nat.le_refl _,λ_=>⟨0,dw,rfl,by omega,h1,.inl (by simp),λ_ c hc=>?_⟩⟩;rw[show(g.w.drew.alloc (.cells arr el)).cell? ⟨g.w.heap.size,c,none⟩=arr[c]? from World.cell?_alloc_new g.w.drew _ _ _,Array.getElem?_eq_getElem (by rw[h2];simpa using hc)];rfl
  |_=>exact(ae e2).elim
 |@own _ id o n ai jU ho=>
  obtain⟨ob,hg,e4⟩:=M.aM e2;unfold aH at ho;rw[hg]at ho;cases ob with
  |cells _=>exact ho.elim
  |bb _ _ _=>exact(ae e4).elim
  |map _=>exact(ae e4).elim
  |buf v' aJ es=>
   obtain⟨bt,e6⟩:=M.aj e4;simp only[Bool.and_eq_true,beq_iff_eq]at bt;obtain⟨⟨⟨rfl,rfl⟩,rfl⟩,dk⟩:=bt;obtain⟨_,h4,e7,e8⟩:=ag e6;obtain rfl:=aL e7;obtain⟨rfl,rfl⟩:=af e8;have fN:n+ys.length<=1073741824:=by simpa[roomy]using dk
   have hs:=ho.2 rfl;have grow:∀{cap:Nat} {base:Option Addr} {olds:List Value} {el dw:Nat} {arr:Array Value},v = .slice base n cap->olds.length=n*aJ->(∀c ∈ es.take n,c.length=aJ)->n<=es.length->
     (∀(i j:Nat) (c:List IV) (x:IV),(es.take n)[i]?=some c->c[j]?=some x->∃u,olds[i*aJ+j]?=some u/\RI ν g.I g.w u x)->
     n+ys.length<=dw->arr.size=dw*aJ->(∀(p:Nat) (x:Value),(olds++news)[p]?=some x->arr[p]?=some x)->
     (Builtin.append_ #[t,u] ty #[v,yv]).run P g.w = .ok (.slice (some ⟨g.w.heap.size,0,none⟩) (n+ys.length) dw) (g.w.drew.alloc (.cells arr el))->
     bf ν k g (set g.h id (.buf (v'+1) aJ (es.take n++ys))) (.own id 0 (n+ys.length) (v'+1)) ((Builtin.append_ #[t,u] ty #[v,yv]).run P g.w):=by
    intro cap base olds el dw arr _ iD FJ hn hold h1 h2 h3 bd;have bZ:∀b,g.φ id=some b->¬g.I b:=by
     intro b ah;rcases r.ob id _ hg with⟨h1,_⟩|⟨b',h1,h2,_⟩
     ·rw[ah]at h1;cases h1
     ·rw[ah]at h1;cases h1;exact h2
    have ck:∀u x,RI ν g.I g.w u x->RI ν g.I (g.w.drew.alloc (.cells arr el)) u x:=λu x h=>h.mono (λ_ h=>h) λb off w hb hc=>by
     rw[bx (alloc_old g.w.drew _ _ (r.small b hb))];exact hc
    have ht:=r.gO (s:=id) (ob:=.buf (v'+1) aJ (es.take n++ys)) (p:=some g.w.heap.size) (w':=g.w.drew.alloc (.cells arr el)) (I':=g.I) hg bZ (by simp) rfl rfl rfl
     (λb hb _=>alloc_old g.w.drew _ _ hb) (λ_ h=>h) (λ_ h=>.inl h) (.inr ⟨_,rfl,Nat.le_refl _⟩)
     (λw o n ai h=>by
      unfold aH at h ⊢;rw[hg]at h;simp only[aq,aw];have:=h.1;exact⟨by omega,λhe=>by omega⟩)
     (λw ai i j h=>by
      unfold aI at h ⊢;rw[hg]at h;simp only[aq,aw];have:=h.1;exact⟨by omega,λhe=>by omega⟩)
     (λ_ _=>by
      refine .inr ⟨g.w.heap.size,aw _ _ _,λbX=>Nat.lt_irrefl _ (r.small _ bX),⟨by simp,λo=>World.frozen?_alloc_new g.w.drew _ _ _⟩,λc hc=>?_,λi j c x hi hj=>?_⟩
      ·rcases List.mem_append.1 hc with h | h
       ·exact FJ c h
       ·exact mW c h
      ·rw[List.getElem?_append]at hi;simp only[List.length_take,Nat.min_eq_left hn]at hi;have key:∃u,(olds++news)[i*aJ+j]?=some u/\RI ν g.I g.w u x:=by
        split at hi
        ·obtain⟨u,hu,hR⟩:=hold i j c x hi hj;exact⟨u,by rw[List.getElem?_append_left (aA hu)];exact hu,hR⟩
        ·rename_i dT;obtain⟨u,hu,hR⟩:=rn (i - n) j c x hi hj;refine⟨u,?_,hR⟩;have:n*aJ+(i - n)*aJ=i*aJ:=by rw[<-Nat.add_mul];congr 1;omega
         rw[List.getElem?_append_right (by omega),show i*aJ+j - olds.length=(i - n)*aJ+j by omega];exact hu
       obtain⟨u,hu,hR⟩:=key;exact⟨u,by simp only[];rw[show(g.w.drew.alloc (.cells arr el)).cell? ⟨g.w.heap.size,i*aJ+j,none⟩=arr[i*aJ+j]? from World.cell?_alloc_new g.w.drew _ _ _];exact h3 _ _ hu,ck _ _ hR⟩)
    refine⟨_,_,bd,rfl,ht.1,ht.2,.own rfl ?_⟩;unfold aH;simp only[aq,aw];refine⟨Nat.le_refl _,λ_=>⟨0,dw,rfl,by simp;omega,h1,.inl (by simp),λ_ c hc=>?_⟩⟩;rw[show(g.w.drew.alloc (.cells arr el)).cell? ⟨g.w.heap.size,c,none⟩=arr[c]? from World.cell?_alloc_new g.w.drew _ _ _,Array.getElem?_eq_getElem (by rw[h2];simpa using hc)];rfl
   cases ah:g.φ id with
   |none=>
    rw[ah]at hs;obtain⟨⟨a,rfl⟩,rfl⟩:=hs;rcases fk (ty:=ty) (base:=a) (n:=0) (cap:=0) (olds:=[]) ht (by simp) (.inl rfl) hy fN with⟨hc,bd⟩|⟨hc,el,dw,arr,h1,h2,h3,bd⟩
    ·have h0:ys=[]:=List.eq_nil_of_length_eq_zero (by omega);subst h0;have gu:news=[]:=List.eq_nil_of_length_eq_zero (by simpa using oF);subst gu;have kZ:=bd g.w (by cases a<;>simp[storeCells]);have dC:=r.gO (s:=id) (ob:=.buf (v'+1) aJ []) (p:=g.φ id) (w':=g.w) (I':=g.I) hg (λb h=>by rw[ah]at h;cases h) (Nat.le_refl _) rfl rfl rfl
      (λ_ _ _=>rfl) (λ_ h=>h) (λ_ h=>.inl h) (.inl rfl)
      (λw o n ai h=>by
       unfold aH at h ⊢;rw[hg]at h;simp only[aq,aw];have:=h.1;exact⟨by omega,λhe=>by omega⟩)
      (λw ai i j h=>by
       unfold aI at h ⊢;rw[hg]at h;simp only[aq,aw];have:=h.1;exact⟨by omega,λhe=>by omega⟩)
      (λ_ _=>.inl ⟨(aw _ _ _).trans ah,rfl⟩)
     simp only[List.take_zero,List.append_nil]at *;refine⟨⟨g.I,bl g.φ id (g.φ id),g.w,set g.h id (.buf (v'+1) aJ [])⟩,_,kZ,rfl,dC.1,dC.2,.own rfl ?_⟩;unfold aH;simp only[aq,aw,ah];exact⟨Nat.le_refl _,λ_=>⟨⟨a,rfl⟩,rfl⟩⟩
    ·exact grow rfl (olds:=[]) (by simp) (λc h=>by simp at h) (Nat.zero_le _) (λi j c x h=>by simp at h) h1 h2 h3 bd
   |some b=>
    rw[ah]at hs;obtain⟨x,cap,rfl,q2,q3,q4,q5⟩:=hs;have hx:x=0:=by
     rcases q4 with h | h
     ·simpa using h
     ·exact absurd rfl h.2
    subst hx;have q5:=q5 (by simp);rcases r.ob id _ hg with⟨h1,_⟩|⟨b',h1,bZ,ca,aC⟩
    ·rw[ah]at h1;cases h1
    rw[ah]at h1;cases h1;have E8:=j4 (ν:=ν) (g:=g) (b:=b) (off:=0) (a0:=0) (e:=aJ) (m:=n) (cap:=cap) (ys:=es.take n) (by simp;omega) (λc hc=>aC.1 c (List.mem_of_mem_take hc)) (λi j c x h1 h2=>by
     rw[List.getElem?_take]at h1;split at h1
     ·obtain⟨w,hw,hR⟩:=aC.2 i j c x h1 h2;exact⟨w,by rw[Nat.zero_add];exact hw,hR⟩
     ·cases h1) rfl
    obtain⟨olds,⟨a,c,ha,JO⟩,iD,FJ,ed,hold⟩:=E8;simp only[Value.slice.injEq]at ha;obtain⟨rfl, -,rfl⟩:=ha;have rp:(es.take n).length=n:=by simp;omega
    rw[rp]at iD;have ek:n=0\/∃b',some (⟨b,0,none⟩:Addr)=some ⟨b',0,none⟩/\∀(p:Nat) (x:Value),olds[p]?=some x->g.w.cell? ⟨b',p,none⟩=some x:=by
     rcases JO with h | ⟨Cl,off,hb,hh⟩
     ·exact .inl (by omega)
     ·cases hb;exact .inr ⟨b,rfl,λp x hp=>by have:=hh p x hp;rwa [Nat.zero_add]at this⟩
    rcases fk (ty:=ty) (base:=some ⟨b,0,none⟩) (n:=n) (cap:=cap) (olds:=olds) ht iD ek hy fN with⟨hc,bd⟩|⟨hc,el,dw,arr,h1,h2,h3,bd⟩
    ·
     have hex:∀j,j<news.length->(g.w.cell? ⟨b,n*aJ+j,none⟩).isSome=true:=λj hj=>q5 _ (by
      have:n*aJ+ys.length*aJ<=cap*aJ:=by rw[<-Nat.add_mul];exact Nat.mul_le_mul_right _ hc
      rw[Nat.zero_add];omega)
     have fU:=run_storeCells_cells (P:=P) b (n*aJ) news 0 g.w (by simpa using hex) (λ_ _=>ca.2 _) hy.2.2.2.1;have kZ:=bd (g.w.setCells b (n*aJ) news) (by simpa[Addr.add_lit]using fU);have ef:=r.put (id:=id) (v:=v') (e:=aJ) (b:=b) (off:=n*aJ) (v':=v'+1) (es:=es) (es':=es.take n++ys) (vs:=news) hg ah hex (.inr rfl) (λck=>by
      refine⟨λc hc=>?_,λi j c x hi hj=>?_⟩
      ·rcases List.mem_append.1 hc with h | h
       ·exact aC.1 c (List.mem_of_mem_take h)
       ·exact mW c h
      ·rw[cT _ _ _ _ hex];rw[List.getElem?_append]at hi;simp only[rp]at hi;split at hi
       ·rename_i dT;rw[List.getElem?_take,if_pos dT]at hi;have mX:j<aJ:=by have:=aA hj;rwa [aC.1 c (List.mem_of_getElem? hi)]at this
        have:i*aJ+aJ<=n*aJ:=by rw[<-Nat.succ_mul];exact Nat.mul_le_mul_right _ dT
        rw[if_neg (by omega)];obtain⟨w,hw,hR⟩:=aC.2 i j c x hi hj;exact⟨w,hw,ck _ _ hR⟩
       ·rename_i dT;obtain⟨w,hw,hR⟩:=rn (i - n) j c x hi hj;have aV:=aA hw;have:n*aJ+(i - n)*aJ=i*aJ:=by rw[<-Nat.add_mul];congr 1;omega
        rw[if_pos (by omega),show i*aJ+j - n*aJ=(i - n)*aJ+j by omega];exact⟨w,hw,ck _ _ hR⟩)
     refine⟨_,_,kZ,rfl,ef.1,ef.2,.own rfl ?_⟩;unfold aH;simp only[aq,ah];refine⟨Nat.le_refl _,λ_=>⟨0,cap,rfl,by simp;omega,hc,.inl (by simp),λ_ c hc=>fb _ _ _ _ hex _ (q5 c hc)⟩⟩
    ·exact grow rfl iD (λc hc=>aC.1 c (List.mem_of_mem_take hc)) (by omega) hold h1 h2 h3 bd
def zX (P:Program) (t:TypeId) (e:Nat) (z:List IV):Bool:=
 match P.underlying t with
 |some (.slice el)=>iS P el e&&mh P el z
 |_=>false
theorem uh (r:Rel ν k g) {t ty:TypeId} {e:Nat} {z:List IV} (ht:zX P t e z=true) {v:Value} {x y:AV} (hv:RA ν g v x) {h':Hp} (e':(ko e z x).run g.h=some (y,h')) :
  bf ν k g h' y ((Builtin.clear_ #[t] ty #[v]).run P g.w):=by
 unfold zX at ht;split at ht
 case h_2=>cases ht
 rename_i el hu;simp only[Bool.and_eq_true]at ht;obtain⟨bC,hz⟩:=ht;obtain⟨i,hi,rfl⟩:=fi bC;obtain⟨i',zv,bX,oC,fV⟩:=kX hz;rw[hi]at bX;cases bX;cases hv with
 |undef=>exact(ae e').elim
 |agg=>exact(ae e').elim
 |aR=>exact(ae e').elim
 |ref=>exact(ae e').elim
 |bJ=>exact(ae e').elim
 |iv=>exact(ae e').elim
 |@own _ id o n ai jU ho=>
  obtain⟨ob,hg,e4⟩:=M.aM e';unfold aH at ho;rw[hg]at ho;cases ob with
  |cells _=>exact ho.elim
  |bb _ _ _=>exact(ae e4).elim
  |map _=>exact(ae e4).elim
  |buf v' aJ es=>
   obtain⟨bt,e6⟩:=M.aj e4;simp only[Bool.and_eq_true,beq_iff_eq]at bt;obtain⟨⟨rfl,rfl⟩,ta⟩:=bt;obtain⟨_,h4,e7,e8⟩:=ag e6;obtain rfl:=aL e7;obtain⟨rfl,rfl⟩:=af e8;have hs:=ho.2 rfl;have kB:zv.cells.size=i.size:=by have:=(iX fV).1;simp at this;omega
   have yw:RA ν g (.tuple #[]) (.aR []):=.aR rfl λj v c h=>by simp at h
   cases ah:g.φ id with
   |none=>
    rw[ah]at hs;obtain⟨⟨a,rfl⟩,rfl⟩:=hs;have CB:es=[]:=by
     rcases r.ob id _ hg with⟨_,h2⟩|⟨b',h1,_⟩
     ·exact h2
     ·rw[ah]at h1;cases h1
    subst CB;have zY:set g.h id (.buf v' i.size ([].take o++List.replicate 0 z++[].drop (o+0)))=set g.h id (.buf v' i.size []):=by simp
    rw[zY];have bd:(Builtin.clear_ #[t] ty #[.slice a 0 0]).run P g.w = .ok (.tuple #[]) g.w:=by
     cases a<;>simp[Builtin.clear_,run_underlying hu]
    have dC:=r.gO (s:=id) (ob:=.buf v' i.size []) (p:=g.φ id) (w':=g.w) (I':=g.I) hg (λb h=>by rw[ah]at h;cases h) (Nat.le_refl _) rfl rfl rfl
     (λ_ _ _=>rfl) (λ_ h=>h) (λ_ h=>.inl h) (.inl rfl)
     (λw o n ai h=>by
      unfold aH at h ⊢;rw[hg]at h;simp only[aq,aw];exact h)
     (λw ai i j h=>by
      unfold aI at h ⊢;rw[hg]at h;simp only[aq,aw];exact h)
     (λ_ _=>.inl ⟨(aw _ _ _).trans ah,rfl⟩)
    exact⟨⟨g.I,bl g.φ id (g.φ id),g.w,set g.h id (.buf v' i.size [])⟩,_,bd,rfl,dC.1,dC.2,dC.2 _ _ yw⟩
   |some b=>
    rw[ah]at hs;obtain⟨x,cap,rfl,q2,q3,q4,q5⟩:=hs;rcases r.ob id _ hg with⟨h1,_⟩|⟨b',h1,bZ,ca,aC⟩
    ·rw[ah]at h1;cases h1
    rw[ah]at h1;cases h1;generalize eR:(Builtin.zeroCells zv.cells n).toList=vs;have ui:vs.length=n*i.size:=by rw[<-eR];simp[size_zeroCells,kB]
    have ed:∀u ∈ vs,u.oneCell'=true:=by
     intro u dv;rw[<-eR]at dv;simp only[Builtin.zeroCells,Array.toList_map,List.mem_map]at dv;obtain⟨p,hp,rfl⟩:=dv;simp only[Array.toList_range,List.mem_range]at hp;have aV:p % zv.cells.size<zv.cells.size:=Nat.mod_lt _ (by
      rcases Nat.eq_zero_or_pos zv.cells.size with h0 | h0
      ·rw[h0]at hp;simp at hp
      ·exact h0)
     rw[getElem!_pos zv.cells _ aV];obtain⟨hl,eS⟩:=iX fV;obtain⟨w,hw,hc⟩:=eS (p % zv.cells.size) _ (List.getElem?_eq_getElem (by simp at hl;omega));have:w=zv.cells[p % zv.cells.size]:=by
      have h':zv.cells[p % zv.cells.size]?=some w:=by simpa using hw
      rw[Array.getElem?_eq_getElem aV]at h';exact(Option.some.inj h').symm
     rw[<-this];exact(j0 (ν:=ν) hc g.I g.w).one
    have hex:∀j,j<vs.length->(g.w.cell? ⟨b,o*i.size+j,none⟩).isSome=true:=by
     intro j hj;have gu:n≠0:=λh=>by rw[ui,h]at hj;simp at hj
     have hx:x=o*i.size:=q4.resolve_right λh=>gu h.1
     refine q5 hx _ ?_;have:n*i.size<=cap*i.size:=Nat.mul_le_mul_right _ q3;rw[Nat.add_mul];omega
    have bd:(Builtin.clear_ #[t] ty #[.slice (some ⟨b,x,none⟩) n cap]).run P g.w = .ok (.tuple #[]) (g.w.setCells b (o*i.size) vs):=by
     by_cases gu:n=0
     ·subst gu;have:vs=[]:=List.eq_nil_of_length_eq_zero (by simpa using ui);subst this;simp[Builtin.clear_,run_underlying hu,World.setCells]
     ·have hx:x=o*i.size:=q4.resolve_right λh=>gu h.1
      subst hx;have fU:=run_storeCells_cells (P:=P) b (o*i.size) vs 0 g.w (by simpa using hex) (λ_ _=>ca.2 _) ed;simp only[Nat.add_zero]at fU;have tR:∀m,n=m+1->(Builtin.clear_ #[t] ty #[.slice (some ⟨b,o*i.size,none⟩) n cap]).run P g.w = .ok (.tuple #[]) (g.w.setCells b (o*i.size) vs):=by
       intro m hm;subst hm;simp[Builtin.clear_,run_underlying hu,zeroValue,typeInfo,hi,oC,eR,fU]
      exact tR (n - 1) (by omega)
    have ef:=r.put (id:=id) (v:=v') (e:=i.size) (b:=b) (off:=o*i.size) (v':=v') (es:=es) (es':=es.take o++List.replicate n z++es.drop (o+n)) (vs:=vs) hg ah hex (.inl ⟨rfl,by simp;omega⟩) (λck=>by
     have CC:(es.take o).length=o:=by simp;omega
     refine⟨λc hc=>?_,λa j c y ha hj=>?_⟩
     ·simp only[List.mem_append]at hc;rcases hc with(h | h) | h
      ·exact aC.1 c (List.mem_of_mem_take h)
      ·rw[List.eq_of_mem_replicate h];exact ta
      ·exact aC.1 c (List.mem_of_mem_drop h)
     ·rw[cT _ _ _ _ hex,ui];rw[List.getElem?_append,List.getElem?_append]at ha;simp only[List.length_append,List.length_replicate,CC]at ha;have uj:∀{p q:Nat},p<q->p*i.size+i.size<=q*i.size:=λh=>by rw[<-Nat.succ_mul];exact Nat.mul_le_mul_right _ h
      split at ha
      ·rename_i h1;split at ha
       ·rename_i h2;rw[List.getElem?_take,if_pos h2]at ha;have mX:j<i.size:=by have:=aA hj;rwa [aC.1 c (List.mem_of_getElem? ha)]at this
        have:=uj h2;rw[if_neg (by omega)];obtain⟨w,hw,hR⟩:=aC.2 a j c y ha hj;exact⟨w,hw,ck _ _ hR⟩
       ·rename_i h2;rw[List.getElem?_replicate,if_pos (by omega)]at ha;cases ha;have mX:j<i.size:=by have:=aA hj;omega
        have e1:o*i.size+(a - o)*i.size=a*i.size:=by rw[<-Nat.add_mul];congr 1;omega
        have e2:(a - o)*i.size+i.size<=n*i.size:=uj (by omega);rw[if_pos (by omega),show a*i.size+j - o*i.size=(a - o)*i.size+j by omega];obtain⟨hl,eS⟩:=iX fV;obtain⟨w,hw,hc⟩:=eS j y hj;refine⟨w,?_,j0 hc _ _⟩;rw[<-eR];have hp:(a - o)*i.size+j<n*i.size:=by omega
        have qq:((a - o)*i.size+j) % i.size=j:=by rw[Nat.add_comm,Nat.add_mul_mod_self_right,Nat.mod_eq_of_lt mX]
        simp only[Builtin.zeroCells,Array.getElem?_toList,Array.getElem?_map,Array.getElem?_range,if_pos hp,Option.map_some,kB,qq];rw[getElem!_pos zv.cells j (by omega)];have h':zv.cells[j]?=some w:=by simpa using hw
        rw[Array.getElem?_eq_getElem (by omega)]at h';exact h'
      ·rename_i h1;rw[List.getElem?_drop,show o+n+(a - (o+n))=a by omega]at ha;have mX:j<i.size:=by have:=aA hj;rwa [aC.1 c (List.mem_of_getElem? ha)]at this
       have:o*i.size+n*i.size<=a*i.size:=by rw[<-Nat.add_mul];exact Nat.mul_le_mul_right _ (by omega)
       rw[if_neg (by omega)];obtain⟨w,hw,hR⟩:=aC.2 a j c y ha hj;exact⟨w,hw,ck _ _ hR⟩)
    exact⟨_,_,bd,rfl,ef.1,ef.2,ef.2 _ _ yw⟩
end
def jy (P:Program) (t:TypeId) (qs:List Nat):Bool:=
 match P.underlying t with
 |some (.array n e)=>qs.length==n&&qs.length != 1&&fE P e 1 false&&qs.all λq=>dy q (P.underlying e)
 |d=>(match qs with | [q]=>dy q d | _=>false)
section
variable {ν:Nat->Nat} {P:Program} {k:Cx} {g:Gh}
theorem gg {t:TypeId} {qs:List Nat} (h:jy P t qs=true):(∃n e,P.underlying t=some (.array n e)/\qs.length=n/\qs.length≠1/\fE P e 1 false=true/\∀q ∈ qs,dy q (P.underlying e)=true)\/∃q,qs=[q]/\dy q (P.underlying t)=true:=by
 unfold jy at h;split at h
 ·rename_i n e hu;simp only[Bool.and_eq_true,beq_iff_eq,bne_iff_ne,ne_eq,List.all_eq_true]at h;exact .inl ⟨n,e,hu,h.1.1.1,h.1.1.2,h.1.2,h.2⟩
 ·split at h
  ·rename_i q;exact .inr ⟨q,rfl,h⟩
  ·cases h
theorem qt {e:TypeId} (he:fE P e 1 false=true) {xs ys:Array Value} (d:Nat) (w:World):∀(qs:List Nat) (i:Nat) (cs ds:List AV) (b:Bool),(∀q ∈ qs,dy q (P.underlying e)=true)->eqs qs cs ds=some b->
  (∀(j:Nat) (c:AV),cs[j]?=some c->∃v,xs[i+j]?=some v/\RA ν g v c)->(∀(j:Nat) (c:AV),ds[j]?=some c->∃v,ys[i+j]?=some v/\RA ν g v c)->
  (Op.eqItems (d+1) e 1 xs ys (List.range' i qs.length)).run P w = .ok b w:=by
 intro qs
 induction qs with
 |nil=>
  intro i cs ds b _ h2 _ _;cases cs<;>cases ds<;>simp[eqs]at h2;subst h2;simp[Op.eqItems]
 |cons q qs ih=>
  intro i cs ds b h1 h2 hx hy;cases cs with
  |nil=>simp[eqs]at h2
  |cons c cs=>
   cases ds with
   |nil=>simp[eqs]at h2
   |cons d' ds=>
    simp only[eqs,Option.bind_eq_some_iff]at h2;obtain⟨b1,e1,b2,e2,e3⟩:=h2;cases e3;obtain⟨v,hv,yq⟩:=hx 0 c rfl;obtain⟨u,hu,s9⟩:=hy 0 d' rfl;obtain⟨dd,ii,h3,h4,h5,h6,_⟩:=cZ he;have jf:(part e xs (i*1)).run P w = .ok v w:=by simp[part,cH h3,h5,show xs[i]?=some v from hv]
    have bQ:(part e ys (i*1)).run P w = .ok u w:=by simp[part,cH h3,h5,show ys[i]?=some u from hu]
    have dK:=lq (P:=P) e1 (h1 q (by simp)) yq s9 d w;have hr:=ih (i+1) cs ds b2 (λq hq=>h1 q (by simp[hq])) e2 (λj c hc=>by have:=hx (j+1) c (by simpa using hc);rwa [show i+1+j=i+(j+1) by omega]) (λj c hc=>by
     have:=hy (j+1) c (by simpa using hc);rwa [show i+1+j=i+(j+1) by omega])
    simp only[List.length_cons,List.range'_succ,Op.eqItems,Sem.run_bind,jf,bQ,dK,Result.andThen_ok,Sem.run_ite];cases b1
    ·simp
    ·simp[hr]
theorem iK {e:TypeId} (he:fE P e 1 false=true):P.cellsOf e=1/\∃i,P.info? e=some i/\i.size=1:=by
 obtain⟨dd,ii,h3,h4,h5,h6,_⟩:=cZ he;exact⟨by simp[Program.cellsOf,h4,h6],ii,h4,h6⟩
theorem oG {t:TypeId} {qs:List Nat} (h:jy P t qs=true) {x y:AV} {b:Bool} (e:ku qs x y=some b) {v u:Value} (hv:RA ν g v x) (hu:RA ν g u y) (w:World):(Op.equal t v u).run P w = .ok b w:=by
 unfold ku at e;split at e
 ·split at e
  ·cases e
  rename_i cs ds h1;rcases gg h with⟨n,el,gH,rfl,_,he,hq⟩|⟨q,rfl,_⟩
  ·obtain⟨xs,rfl⟩:=hv.dN;obtain⟨ys,rfl⟩:=hu.dN;obtain⟨hc,i,hi,_⟩:=iK he
   show(Op.equalIn (9999+1) t (.agg xs) (.agg ys)).run P w=_
   rw[run_equalIn_array w 9999 xs ys gH hi,hc,List.range_eq_range'];exact qt he 9998 w qs 0 cs ds b hq e (λj c hc=>by simpa using hv.dO j c hc) (λj c hc=>by simpa using hu.dO j c hc)
  ·simp at h1
 ·split at e
  case isFalse=>cases e
  rename_i x y h1;rcases gg h with⟨n,el,gH,rfl,bG,_⟩|⟨q,rfl,hq⟩
  ·exact absurd h1 bG
  ·simp only[eqs,Option.bind_eq_some_iff]at e;obtain⟨b1,e1,b2,e2,e3⟩:=e;cases e2;cases e3;have:=lq (P:=P) e1 hq hv hu 9999 w;simpa[Op.equal,Op.maxDepth]using this
 ·cases e
def iu (es:List MapEntry) (i:Nat):Option (Nat×AV)->Option (Nat×Value)->Prop
 |none,r=>r=none
 |some p,r=>∃e,i<=p.1/\es[p.1 - i]?=some e/\r=some (p.1,e.val)
theorem iu.up {es:List MapEntry} {e:MapEntry} {i:Nat} {a:Option (Nat×AV)} {r:Option (Nat×Value)} (h:iu es (i+1) a r):iu (e::es) i a r:=by
 cases a with
 |none=>exact h
 |some p=>
  obtain⟨e',h1,h2,h3⟩:=h;refine⟨e',by omega,?_,h3⟩;rw[show p.1 - i=(p.1 - (i+1))+1 by omega];simpa using h2
theorem iY {qs:List Nat} {kk:AV}:∀{aU:List (AV×AV)} {i:Nat} {p:Nat×AV},cM qs kk aU i=some (some p)->∃y,i<=p.1/\aU[p.1 - i]?=some (y,p.2)/\ku qs kk y=some true
 |[],i,p,h=>by simp[cM]at h
 |kv::aU,i,p,h=>by
  unfold cM at h;split at h
  ·rename_i hk;cases h;exact⟨kv.1,Nat.le_refl _,by simp,hk⟩
  ·obtain⟨y,h1,h2,h3⟩:=iY h;refine⟨y,by omega,?_,h3⟩;rw[show p.1 - i=(p.1 - (i+1))+1 by omega];simpa using h2
  ·cases h
def gh (ν:Nat->Nat) (g:Gh) (es:List MapEntry) (aU:List (AV×AV)):Prop:=es.length=aU.length/\∀(j:Nat) (e:MapEntry) (p:AV×AV),es[j]?=some e->aU[j]?=some p->RA ν g e.key p.1
theorem gh.cons {e:MapEntry} {es:List MapEntry} {p:AV×AV} {aU:List (AV×AV)} (h:gh ν g (e::es) (p::aU)):RA ν g e.key p.1/\gh ν g es aU:=
 ⟨h.2 0 e p rfl rfl,by have:=h.1;simpa using this,λj e p h1 h2=>h.2 (j+1) e p (by simpa using h1) (by simpa using h2)⟩
theorem kQ {t:TypeId} {qs:List Nat} (h:jy P t qs=true) {x:AV} {v:Value} (hv:RA ν g v x) (w:World):∀(es:List MapEntry) (aU:List (AV×AV)) (i:Nat) (a:Option (Nat×AV)),gh ν g es aU->cM qs x aU i=some a->
  ∃r,(Instr.findAsking t v es i).run P w = .ok r w/\iu es i a r:=by
 intro es
 induction es with
 |nil=>
  intro aU i a hR hf;obtain rfl:aU=[]:=List.eq_nil_of_length_eq_zero hR.1.symm;simp[cM]at hf;subst hf;exact⟨none,by simp[Instr.findAsking],rfl⟩
 |cons e es ih=>
  intro aU i a hR hf;cases aU with
  |nil=>have:=hR.1;simp at this
  |cons p aU=>
   obtain⟨h0,kC⟩:=hR.cons;unfold cM at hf;split at hf
   ·rename_i hk;cases hf;have:=oG h hk hv h0 w;exact⟨some (i,e.val),by simp[Instr.findAsking,this],e,Nat.le_refl _,by simp,rfl⟩
   ·rename_i hk;have:=oG h hk hv h0 w;obtain⟨r,h1,h2⟩:=ih aU (i+1) a kC hf;exact⟨r,by simp[Instr.findAsking,this,h1],h2.up⟩
   ·cases hf
theorem uk {q:Nat} {d:TypeDesc} (hq:dy q (some d)=true) {x y:AV} {b:Bool} (e:jt q x y=some b) {v u:Value} (hv:RA ν g v x) (hu:RA ν g u y):Instr.sameNow d v u=some b:=by
 unfold jt at e;split at e
 ·obtain rfl:=hv.int;obtain rfl:=hu.int;obtain⟨kk,h1⟩:=nH hq;cases h1;simp only[Option.ite_none_right_eq_some,Option.some.injEq]at e;obtain⟨hk,rfl⟩:=e;simp[Instr.sameNow,hk]
 ·cases e;obtain rfl:=hv.bool;obtain rfl:=hu.bool;have:=mg hq;cases this;rfl
 ·cases e;obtain rfl:=hv.str;obtain rfl:=hu.str;have:=nJ hq;cases this;rfl
 ·cases e
theorem nK {q:Nat} {d:TypeDesc} (hq:dy q (some d)=true) {x:AV} {v:Value} (hv:RA ν g v x):∀(es:List MapEntry) (aU:List (AV×AV)) (i:Nat) (a:Option (Nat×AV)),gh ν g es aU->cM [q] x aU i=some a->
  ∃r,Instr.findNow d v es i=some r/\iu es i a r:=by
 intro es
 induction es with
 |nil=>
  intro aU i a hR hf;obtain rfl:aU=[]:=List.eq_nil_of_length_eq_zero hR.1.symm;simp[cM]at hf;subst hf;exact⟨none,by simp[Instr.findNow],rfl⟩
 |cons e es ih=>
  intro aU i a hR hf;cases aU with
  |nil=>have:=hR.1;simp at this
  |cons p aU=>
   obtain⟨h0,kC⟩:=hR.cons;have key:∀{b:Bool},ku [q] x p.1=some b->Instr.sameNow d v e.key=some b:=by
    intro b hk;unfold ku at hk;split at hk
    ·simp at hk
    ·simp only[List.length_singleton,if_true,eqs,Option.bind_eq_some_iff]at hk;obtain⟨b1,e1,b2,e2,e3⟩:=hk;rename_i hp;cases e2;cases e3;rw[<-hp]at e1;simpa using uk hq e1 hv h0
    ·cases hk
   unfold cM at hf;split at hf
   ·rename_i hk;cases hf;exact⟨some (i,e.val),by simp[Instr.findNow,key hk],e,Nat.le_refl _,by simp,rfl⟩
   ·rename_i hk;obtain⟨r,h1,h2⟩:=ih aU (i+1) a kC hf;exact⟨r,by simp[Instr.findNow,key hk,h1],h2.up⟩
   ·cases hf
theorem j6 {t:TypeId} {qs:List Nat} (h:jy P t qs=true) {x:AV} {v:Value} (hv:RA ν g v x) (w:World) {es:List MapEntry} {aU:List (AV×AV)} {a:Option (Nat×AV)} (hR:gh ν g es aU) (hf:cM qs x aU 0=some a) :
  ∃r,(Instr.findKey t v es).run P w = .ok r w/\iu es 0 a r:=by
 rcases gg h with⟨n,el,gH,_⟩|⟨q,rfl,hq⟩
 ·rw[run_findKey_eq w (by rw[gH])];exact kQ h hv w es aU 0 a hR hf
 ·cases hd:P.underlying t with
  |none=>rw[hd]at hq;simp[dy]at hq
  |some d=>
   rw[hd]at hq;obtain⟨r,h1,h2⟩:=nK hq hv es aU 0 a hR hf;exact⟨r,Go.MapKept.run_findKey hd h1,h2⟩
theorem iL {q:Nat} {e:TypeId} (hq:dy q (P.underlying e)=true) (em:Bool) (n:Nat) (v:Value) (w:World):(Instr.checkKey em (n+1) e v).run P w = .ok () w:=by
 cases hd:P.underlying e with
 |none=>rw[hd]at hq;simp[dy]at hq
 |some d=>
  rw[hd]at hq;unfold Instr.checkKey;simp only[Sem.run_bind,run_underlying hd,Result.andThen_ok];cases d<;>first | (simp[dy]at hq;done) | (cases v<;>rfl)
theorem iZ {t:TypeId} {qs:List Nat} (h:jy P t qs=true) {x:AV} (hx:fX qs x=true) {v:Value} (hv:RA ν g v x) (em:Bool) (w:World):(Instr.checkKey em 10000 t v).run P w = .ok () w:=by
 rcases gg h with⟨n,el,gH,hn,bG,he,hq⟩|⟨q,rfl,hq⟩
 ·cases x with
  |agg cs=>
   simp only[fX,Bool.and_eq_true,beq_iff_eq]at hx;obtain⟨xs,rfl⟩:=hv.dN;obtain⟨hc,i,hi,CD⟩:=iK he
   show(Instr.checkKey em (9999+1) t (.agg xs)).run P w=_
   rw[Instr.checkKey];simp only[Sem.run_bind,run_underlying gH,Result.andThen_ok];simp only[Std.Legacy.Range.forIn_eq_forIn_range',Std.Legacy.Range.size,Nat.sub_zero,Nat.add_one_sub_one,Nat.div_one];have all:∀j ∈ List.range' 0 n,∃c,xs[j]?=some c:=by
    intro j hj;simp only[List.mem_range'_1]at hj;obtain⟨v,df,_⟩:=hv.dO j cs[j] (List.getElem?_eq_getElem (by omega));exact⟨v,df⟩
   cases qs with
   |nil=>simp only[List.length_nil]at hn;subst hn;simp
   |cons q qs=>
   have CE:∀v,(Instr.checkKey em 9999 el v).run P w = .ok () w:=λv=>iL (hq q (by simp)) em 9998 v w
   clear hn hx hv;generalize List.range' 0 n=is at all
   induction is with
   |nil=>simp
   |cons j is ih=>
    obtain⟨c,CF⟩:=all j (by simp);obtain⟨dd,ii,h3,h4,h5,h6,_⟩:=cZ he;have hp:(part el xs (j*1)).run P w = .ok c w:=by simp[part,cH h3,h5,CF]
    simp only[List.forIn_cons,Sem.run_bind,run_sizeOf hi,CD,Result.andThen_ok,hp,CE,Sem.run_pure];exact ih λy hy=>all y (by simp[hy])
  |iv y=>simp only[fX,beq_iff_eq]at hx;exact absurd hx bG
  |_=>simp[fX]at hx
 ·exact iL hq em 9999 v w
end
def iG (P:Program) (t:TypeId) (qs:List Nat):Bool:=match P.underlying t with | some (.map kt _)=>jy P kt qs | _=>false
theorem jh {P:Program} {t:TypeId} {qs:List Nat} (h:iG P t qs=true):∃kt et,P.underlying t=some (.map kt et)/\jy P kt qs=true:=by
 unfold iG at h;split at h
 ·exact⟨_,_,by assumption,h⟩
 ·cases h
def isMap (P:Program) (t:TypeId):Bool:=match P.underlying t with | some (.map _ _)=>true | _=>false
theorem rq {P:Program} {t:TypeId} (h:isMap P t=true):∃kt et,P.underlying t=some (.map kt et):=by
 unfold isMap at h;split at h
 ·exact⟨_,_,by assumption⟩
 ·cases h
def CG (P:Program) (t:TypeId) (agg:Bool) (z:List IV):Bool:=match P.underlying t with
 |some (.map _ et)=>(match P.info? et with
  |some i=>(match i.zero with
   |some (.agg cs)=>agg&&im cs.toList z
   |some (.tuple _)=>false
   |some v=>!agg&&im [v] z
   |none=>false)
  |none=>false)
 |_=>false
section
variable {ν:Nat->Nat} {P:Program} {k:Cx} {g:Gh}
theorem eH {x:AV} {q:Nat×List (AV×AV)} {h':Hp} (r:Rel ν k g) (e:(du x).run g.h=some (q,h')) {v:Value} (hv:RA ν g v x) :
  h'=g.h/\∃b es clock,x = .ref q.1 0 0 0/\get g.h q.1=some (.map q.2)/\g.φ q.1=some b/\v = .map (some b)/\¬g.I b/\b<g.w.heap.size/\g.w.heap[b]?=some (.map es clock)/\es.size=q.2.length/\
   ∀(j:Nat) (e:MapEntry) (p:AV×AV),es[j]?=some e->q.2[j]?=some p->RA ν g e.key p.1/\RA ν g e.val p.2:=by
 unfold du at e;split at e
 case h_2=>exact(ae e).elim
 rename_i id;obtain⟨ob,hg,e2⟩:=M.aM e;cases ob with
 |cells _=>exact(ae e2).elim
 |buf _ _ _=>exact(ae e2).elim
 |bb _ _ _=>exact(ae e2).elim
 |map aU=>
  obtain⟨rfl,rfl⟩:=af e2;refine⟨rfl,?_⟩;cases hv with
  |ref h1 h=>
   unfold aI at h;simp only[hg]at h;obtain⟨-, -, -,b,ah,rfl⟩:=h;obtain⟨b',es,clock,e1,e2,e3,e4,e5,e6⟩:=r.ob id _ hg;rw[ah]at e1;cases e1;exact⟨b,es,clock,rfl,hg,ah,rfl,e2,e3,e4,e5,e6⟩
theorem um (r:Rel ν k g) {slot:Nat} {t:TypeId} {y:AV} {h':Hp} (e:((M.fresh slot).bind λ_=>(M.write slot (.map [])).bind λ_=>M.ret (.ref slot 0 0 0)).run g.h=some (y,h')):bf ν k g h' y ((Instr.makeMap t none).run P g.w):=by
 obtain⟨_,h1,e1,e2⟩:=ag e;obtain⟨hf,rfl⟩:=M.cq e1;obtain⟨_,h2,e3,e4⟩:=ag e2;obtain rfl:=aL e3;obtain⟨rfl,rfl⟩:=af e4;have nL:(g.w.heap.push (.map #[] 0))[g.w.heap.size]?=some (.map #[] 0):=by simp
 have hold:∀b,b<g.w.heap.size->(g.w.heap.push (.map #[] 0))[b]?=g.w.heap[b]?:=λb h=>by simp[Array.getElem?_push,Nat.ne_of_lt h]
 have hn:=r.new (s:=slot) (ob:=.map []) (p:=some g.w.heap.size) (w':={ g.w with heap:=g.w.heap.push (.map #[] 0) }) hf (by simp) rfl rfl rfl hold (λb h=>by cases h;exact Nat.le_refl _)
  λ_=>⟨g.w.heap.size,#[],0,aw _ _ _,λhi=>absurd (r.small _ hi) (Nat.lt_irrefl _),by simp,nL,rfl,λj e p h=>by simp at h⟩
 refine⟨_,.map (some g.w.heap.size),rfl,rfl,hn.1,hn.2,.ref rfl ?_⟩;unfold aI;simp only[aq,aw];exact⟨trivial,trivial,trivial,_,rfl,rfl⟩
theorem nM {es:Array MapEntry} {aU:List (AV×AV)} (h:es.size=aU.length) (hr:∀(j:Nat) (e:MapEntry) (p:AV×AV),es[j]?=some e->aU[j]?=some p->RA ν g e.key p.1/\RA ν g e.val p.2):gh ν g es.toList aU:=
 ⟨by simpa using h,λj e p h1 h2=>(hr j e p (by simpa using h1) h2).1⟩
theorem sC (r:Rel ν k g) {t:TypeId} {ok agg:Bool} {qs:List Nat} {z:List IV} (hq:iG P t qs=true) (hz:CG P t agg z=true) {m kk y:AV} {vm vk:Value} {h':Hp} (hm:RA ν g vm m) (hk:RA ν g vk kk)
  (e:(gB ok agg qs z m kk).run g.h=some (y,h')):bf ν k g h' y ((Instr.lookup t vm vk ok).run P g.w):=by
 obtain⟨bt,e2⟩:=M.aj e;obtain⟨⟨id,aU⟩,h2,e3,e4⟩:=ag e2;obtain⟨rfl,b,es,clock, -,hg,ah,rfl,bZ,aV,hb,bC,hr⟩:=eH r e3 hm;obtain⟨a,hf,e6⟩:=M.lift_bind e4;obtain⟨kt,et,hu,kD⟩:=jh hq;obtain⟨rr,dV,kE⟩:=j6 kD hk g.w (nM bC hr) hf;have fw:=iZ kD bt hk es.isEmpty g.w;have cf:=MapKept.run_getObj_map (P:=P) hb;cases a with
 |some p=>
  obtain⟨e0, -,dK,rfl⟩:=kE;obtain⟨yk, -,hp, -⟩:=iY hf;simp only[Nat.sub_zero]at dK hp;have gE:=(hr p.1 e0 _ (by simpa using dK) hp).2;cases ok with
  |true=>
   simp only[if_true]at e6;obtain⟨rfl,rfl⟩:=af e6;refine .same r (v:=.tuple #[e0.val,.bool true]) (by simp[Instr.lookup,run_underlying hu,cf,fw,dV]) ?_;refine .aR rfl λj v c h1 h2=>?_
   match j with
   |0=>simp at h1 h2;subst h1 h2;exact gE
   |1=>simp at h1 h2;subst h1 h2;exact bO
   |j+2=>simp at h1
  |false=>
   simp only[Bool.false_eq_true,if_false]at e6;obtain⟨rfl,rfl⟩:=af e6;exact .same r (v:=e0.val) (by simp[Instr.lookup,run_underlying hu,cf,fw,dV]) gE
 |none=>
  have fF:rr=none:=kE;subst fF;obtain⟨zv,h4,e7,e8⟩:=ag e6;have key:∃v0,(zeroValue et).run P g.w = .ok v0 g.w/\h4=g.h/\RA ν g v0 zv:=by
   unfold CG at hz;rw[hu]at hz;simp only at hz;cases hi:P.info? et with
   |none=>rw[hi]at hz;cases hz
   |some i=>
    rw[hi]at hz;simp only at hz;cases mo:i.zero with
    |none=>rw[mo]at hz;cases hz
    |some v0=>
     rw[mo]at hz;have bd:(zeroValue et).run P g.w = .ok v0 g.w:=by simp[zeroValue,typeInfo,hi,mo]
     have one:∀{v:Value},im [v] z=true->agg=false->(mk agg (z.map .iv)).run g.h=some (zv,h4)->h4=g.h/\RA ν g v zv:=by
      intro v hc ha em;subst ha;unfold mk at em;simp only[Bool.false_eq_true,if_false]at em;cases z with
      |nil=>exact(ae em).elim
      |cons z0 zr=>
       cases zr with
       |cons _ _=>exact(ae em).elim
       |nil=>
        obtain⟨rfl,rfl⟩:=af em;simp only[im,Bool.and_true]at hc;exact⟨rfl,.iv (j0 hc _ _)⟩
     cases v0 with
     |agg cs=>
      simp only[Bool.and_eq_true]at hz;obtain⟨ha,hc⟩:=hz;subst ha;unfold mk at e7;simp only[if_true]at e7;obtain⟨rfl,rfl⟩:=af e7;exact⟨_,bd,rfl,(qn hc).agg⟩
     |tuple vs=>cases hz
     |_=>
      simp only[Bool.and_eq_true,Bool.not_eq_true']at hz;exact⟨_,bd,one hz.2 hz.1 e7⟩
  obtain⟨v0,bd,rfl,ru⟩:=key;cases ok with
  |true=>
   simp only[if_true]at e8;obtain⟨rfl,rfl⟩:=af e8;refine .same r (v:=.tuple #[v0,.bool false]) (by simp[Instr.lookup,run_underlying hu,cf,fw,dV,bd]) ?_;refine .aR rfl λj v c h1 h2=>?_
   match j with
   |0=>simp at h1 h2;subst h1 h2;exact ru
   |1=>simp at h1 h2;subst h1 h2;exact bO
   |j+2=>simp at h1
  |false=>
   simp only[Bool.false_eq_true,if_false]at e8;obtain⟨rfl,rfl⟩:=af e8;exact .same r (v:=v0) (by simp[Instr.lookup,run_underlying hu,cf,fw,dV,bd]) ru
theorem sD (r:Rel ν k g) {t ty:TypeId} (ht:isMap P t=true) {m y:AV} {vm:Value} {h':Hp} (hm:RA ν g vm m) (e:((du m).bind λx=>M.ret (.iv (.int .i64 x.2.length))).run g.h=some (y,h')) :
  bf ν k g h' y ((Builtin.len_ #[t] ty #[vm]).run P g.w):=by
 obtain⟨⟨id,aU⟩,h2,e3,e4⟩:=ag e;obtain⟨rfl,b,es,clock, -,hg,ah,rfl,bZ,aV,hb,bC,hr⟩:=eH r e3 hm;obtain⟨rfl,rfl⟩:=af e4;obtain⟨kt,et,hu⟩:=rq ht;exact .same r (v:=.int .i64 aU.length) (by simp[Builtin.len_,run_underlying hu,MapKept.run_getObj_map (P:=P) hb,goInt,bC]) mkInt
theorem gi (r:Rel ν k g) {id b:Nat} {aU gU:List (AV×AV)} {es':Array MapEntry} {clock':Nat} (hg:get g.h id=some (.map aU)) (ah:g.φ id=some b) (bZ:¬g.I b) (aV:b<g.w.heap.size) (bC:es'.size=gU.length)
  (hr:∀(g':Gh),aX ν g g'->∀(j:Nat) (e:MapEntry) (p:AV×AV),es'[j]?=some e->gU[j]?=some p->RA ν g' e.key p.1/\RA ν g' e.val p.2) :
  ∃g',g'.w={ g.w with heap:=g.w.heap.setIfInBounds b (.map es' clock') }/\g'.h=set g.h id (.map gU)/\Rel ν k g'/\aX ν g g':=by
 have ht:=r.gO (s:=id) (ob:=.map gU) (p:=g.φ id) (w':={ g.w with heap:=g.w.heap.setIfInBounds b (.map es' clock') }) (I':=g.I) hg (λb' h=>by rw[ah]at h;cases h;exact bZ) (by simp) rfl rfl rfl
  (λb' _ bG=>by
   have:b≠b':=λe=>bG (by rw[ah,e])
   simp[this])
  (λ_ h=>h) (λ_ h=>.inl h) (.inl rfl)
  (λv o n ai ho=>by unfold aH at ho;rw[hg]at ho;exact ho.elim)
  (λv ai i j h=>by
   unfold aI at h ⊢;rw[hg]at h;simp only[aq,aw];exact h)
  (λ_ hm=>⟨b,es',clock',(aw _ _ _).trans ah,bZ,by simpa using aV,by simp[aV],bC,hr _ hm⟩)
 exact⟨_,rfl,rfl,ht.1,ht.2⟩
theorem ly {q:Nat} {x y:AV} (e:jt q x y=some true) {v u:Value} (hv:RA ν g v x) (hu:RA ν g u y) (n:Nat):Instr.sameBits n u v=true:=by
 unfold jt at e;split at e
 ·obtain rfl:=hv.int;obtain rfl:=hu.int;simp only[Option.ite_none_right_eq_some,Option.some.injEq,beq_iff_eq]at e;obtain⟨rfl,rfl⟩:=e;simp[Instr.sameBits]
 ·obtain rfl:=hv.bool;obtain rfl:=hu.bool;simp only[Option.some.injEq,beq_iff_eq]at e;subst e;simp[Instr.sameBits]
 ·obtain rfl:=hv.str;obtain rfl:=hu.str;simp only[Option.some.injEq]at e;simp only[Instr.sameBits];rw[beq_toListBytes]at e ⊢;exact BEq.symm e
 ·cases e
theorem jz:∀(qs:List Nat) (cs ds:List AV) (xs ys:List Value),eqs qs cs ds=some true->xs.length=cs.length->ys.length=ds.length->(∀(j:Nat) (v:Value) (c:AV),xs[j]?=some v->cs[j]?=some c->RA ν g v c)->
  (∀(j:Nat) (v:Value) (c:AV),ys[j]?=some v->ds[j]?=some c->RA ν g v c)->((ys.zip xs).all fun(x,y)=>Instr.sameBits 9999 x y)=true/\ys.length=xs.length
 |[],[],[],xs,ys,_,hx,hy,_,_=>by
  obtain rfl:=List.eq_nil_of_length_eq_zero hx;obtain rfl:=List.eq_nil_of_length_eq_zero hy;exact⟨rfl,rfl⟩
 |q::qs,c::cs,d::ds,xs,ys,e,hx,hy,h1,h2=>by
  cases xs with
  |nil=>simp at hx
  |cons v xs=>
   cases ys with
   |nil=>simp at hy
   |cons u ys=>
    simp only[eqs,Option.bind_eq_some_iff]at e;obtain⟨b1,e1,b2,e2,e3⟩:=e;simp only[Option.some.injEq,Bool.and_eq_true]at e3;obtain⟨rfl,rfl⟩:=e3;obtain⟨i1,i2⟩:=jz qs cs ds xs ys e2 (by simpa using hx) (by simpa using hy) (λj v c a b=>h1 (j+1) v c (by simpa using a) (by simpa using b)) λj v c a b=>h2 (j+1) v c (by simpa using a) (by simpa using b)
    have hv:=h1 0 v c rfl rfl;have hu:=h2 0 u d rfl rfl;refine⟨?_,by simp[i2]⟩;simp only[List.zip_cons_cons,List.all_cons,Bool.and_eq_true];refine⟨?_,i1⟩;exact ly e1 hv hu 9999
 |[],_::_,_,_,_,e,_,_,_,_=>by simp[eqs]at e
 |[],[],_::_,_,_,e,_,_,_,_=>by simp[eqs]at e
 |_::_,[],_,_,_,e,_,_,_,_=>by simp[eqs]at e
 |_::_,_::_,[],_,_,e,_,_,_,_=>by simp[eqs]at e
theorem qu {qs:List Nat} {x y:AV} (e:ku qs x y=some true) {v u:Value} (hv:RA ν g v x) (hu:RA ν g u y) (w:World):(Instr.keyThatStays u v).run P w = .ok v w:=by
 have hs:Instr.sameBits 10000 u v=true:=by
  unfold ku at e;split at e
  ·split at e
   ·cases e
   rename_i cs ds _;obtain⟨xs,rfl⟩:=hv.dN;obtain⟨ys,rfl⟩:=hu.dN;have n1:xs.size=cs.length:=by cases hv;assumption
   have n2:ys.size=ds.length:=by cases hu;assumption
   have r1:∀(j:Nat) (v:Value) (c:AV),xs[j]?=some v->cs[j]?=some c->RA ν g v c:=by cases hv;assumption
   have r2:∀(j:Nat) (v:Value) (c:AV),ys[j]?=some v->ds[j]?=some c->RA ν g v c:=by cases hu;assumption
   obtain⟨i1,i2⟩:=jz qs cs ds xs.toList ys.toList e (by simpa using n1) (by simpa using n2) (λj v c a b=>r1 j v c (by simpa using a) b) λj v c a b=>r2 j v c (by simpa using a) b
   show Instr.sameBits (9999+1) (.agg ys) (.agg xs)=true
   simp only[Instr.sameBits,Bool.and_eq_true,beq_iff_eq];exact⟨by simpa using i2,i1⟩
  ·split at e
   case isFalse=>cases e
   rename_i h1;obtain⟨q,rfl⟩:=List.length_eq_one_iff.1 h1;simp only[eqs,Option.bind_eq_some_iff]at e;obtain⟨b1,e1,b2,e2,e3⟩:=e;cases e2;simp only[Bool.and_true,Option.some.injEq]at e3;subst e3;exact ly e1 hv hu 10000
  ·cases e
 simp[Instr.keyThatStays,hs]
theorem sE (r:Rel ν k g) {t:TypeId} {qs:List Nat} (hq:iG P t qs=true) {m kk x y:AV} {vm vk vx:Value} {h':Hp} (hm:RA ν g vm m) (hk:RA ν g vk kk) (hx:RA ν g vx x) (e:(gC qs m kk x).run g.h=some (y,h')) :
  ∃g',(Instr.mapUpdate t vm vk vx).run P g.w = .ok () g'.w/\y = .aR []/\g'.h=h'/\Rel ν k g'/\aX ν g g':=by
 obtain⟨bt,e2⟩:=M.aj e;obtain⟨⟨id,aU⟩,h2,e3,e4⟩:=ag e2;obtain⟨rfl,b,es,clock, -,hg,ah,rfl,bZ,aV,hb,bC,hr⟩:=eH r e3 hm;obtain⟨a,hf,e6⟩:=M.lift_bind e4;obtain⟨kt,et,hu,kD⟩:=jh hq;obtain⟨rr,dV,kE⟩:=j6 kD hk g.w (nM bC hr) hf;have fw:=iZ kD bt hk false g.w;have cf:=MapKept.run_getObj_map (P:=P) hb;simp only at bC hr hg;cases a with
 |some p=>
  obtain⟨e0, -,dK,rfl⟩:=kE;obtain⟨yk, -,hp,CH⟩:=iY hf;simp only[Nat.sub_zero]at dK hp;simp only[Array.getElem?_toList]at dK;have fU:=qu (P:=P) CH hk (hr p.1 e0 _ dK hp).1 g.w;obtain⟨_,h4,e7,e8⟩:=ag e6;obtain rfl:=aL e7;obtain⟨rfl,rfl⟩:=af e8;obtain⟨g',q1,q2,q3,q4⟩:=gi (es':=es.modify p.1 λe=>{ e with key:=vk,val:=vx }) (clock':=clock) (gU:=aU.set p.1 (kk,x)) r hg ah bZ aV (by simpa using bC) λg' ei j e q h1 h2=>by
   by_cases hj:p.1=j
   ·subst hj;rw[Array.getElem?_modify,if_pos rfl,dK]at h1;have hl:p.1<aU.length:=aA hp;simp[hl]at h2;cases h1;rw[<-h2];exact⟨ei _ _ hk,ei _ _ hx⟩
   ·rw[Array.getElem?_modify,if_neg hj]at h1;rw[List.getElem?_set_ne hj]at h2;obtain⟨c1,c2⟩:=hr j e q h1 h2;exact⟨ei _ _ c1,ei _ _ c2⟩
  exact⟨g',by simp[Instr.mapUpdate,run_underlying hu,cf,fw,dV,dK,fU,MapKept.run_setObj_map (P:=P) _ hb,q1],rfl,q2,q3,q4⟩
 |none=>
  have fF:rr=none:=kE;subst fF;obtain⟨_,h4,e7,e8⟩:=ag e6;obtain rfl:=aL e7;obtain⟨rfl,rfl⟩:=af e8;obtain⟨g',q1,q2,q3,q4⟩:=gi (es':=es.push { key:=vk,val:=vx,born:=clock }) (clock':=clock+1) (gU:=aU++[(kk,x)]) r hg ah bZ aV (by simpa using bC) λg' ei j e q h1 h2=>by
   rw[Array.getElem?_push]at h1;split at h1
   ·rename_i hj;cases h1;rw[hj,bC]at h2;simp at h2;rw[<-h2];exact⟨ei _ _ hk,ei _ _ hx⟩
   ·have hl:j<es.size:=(Array.getElem?_eq_some_iff.1 h1).1;rw[List.getElem?_append_left (by omega)]at h2;obtain⟨c1,c2⟩:=hr j e q h1 h2;exact⟨ei _ _ c1,ei _ _ c2⟩
  exact⟨g',by simp[Instr.mapUpdate,run_underlying hu,cf,fw,dV,MapKept.run_setObj_map (P:=P) _ hb,q1],rfl,q2,q3,q4⟩
theorem sF (r:Rel ν k g) {t u ty:TypeId} {qs:List Nat} (hq:iG P t qs=true) {m kk y:AV} {vm vk:Value} {h':Hp} (hm:RA ν g vm m) (hk:RA ν g vk kk) (e:(gD qs m kk).run g.h=some (y,h')) :
  bf ν k g h' y ((Builtin.delete_ #[t,u] ty #[vm,vk]).run P g.w):=by
 obtain⟨bt,e2⟩:=M.aj e;obtain⟨⟨id,aU⟩,h2,e3,e4⟩:=ag e2;obtain⟨rfl,b,es,clock, -,hg,ah,rfl,bZ,aV,hb,bC,hr⟩:=eH r e3 hm;obtain⟨a,hf,e6⟩:=M.lift_bind e4;obtain⟨kt,et,hu,kD⟩:=jh hq;obtain⟨rr,dV,kE⟩:=j6 kD hk g.w (nM bC hr) hf;have fw:=iZ kD bt hk es.isEmpty g.w;have cf:=MapKept.run_getObj_map (P:=P) hb;simp only at bC hr hg;cases a with
 |some p=>
  obtain⟨e0, -,dK,rfl⟩:=kE;simp only[Nat.sub_zero]at dK;simp only[Array.getElem?_toList]at dK;have iE:p.1<es.size:=(Array.getElem?_eq_some_iff.1 dK).1;obtain⟨_,h4,e7,e8⟩:=ag e6;obtain rfl:=aL e7;obtain⟨rfl,rfl⟩:=af e8;have cB:es.eraseIdxIfInBounds p.1=es.eraseIdx p.1 iE:=by simp[Array.eraseIdxIfInBounds,iE]
  obtain⟨g',q1,q2,q3,q4⟩:=gi (es':=es.eraseIdxIfInBounds p.1) (clock':=clock) (gU:=aU.eraseIdx p.1) r hg ah bZ aV (by rw[cB,Array.size_eraseIdx,List.length_eraseIdx,if_pos (by omega)];omega) λg' ei j e q h1 h2=>by
   rw[cB,Array.getElem?_eraseIdx]at h1;rw[List.getElem?_eraseIdx]at h2;split at h1
   ·rename_i hj;rw[if_pos hj]at h2;obtain⟨c1,c2⟩:=hr j e q h1 h2;exact⟨ei _ _ c1,ei _ _ c2⟩
   ·rename_i hj;rw[if_neg hj]at h2;obtain⟨c1,c2⟩:=hr (j+1) e q h1 h2;exact⟨ei _ _ c1,ei _ _ c2⟩
  refine⟨g',.tuple #[],?_,q2,q3,q4,.aR rfl λj v c h=>by simp at h⟩;simp[Builtin.delete_,run_underlying hu,cf,fw,dV,MapKept.run_setObj_map (P:=P) _ hb,q1]
 |none=>
  have fF:rr=none:=kE;subst fF;obtain⟨_,h4,e7,e8⟩:=ag e6;obtain rfl:=aL e7;obtain⟨rfl,rfl⟩:=af e8;obtain⟨g',q1,q2,q3,q4⟩:=gi (es':=es) (clock':=clock) (gU:=aU) r hg ah bZ aV bC λg' ei j e q h1 h2=>by
   obtain⟨c1,c2⟩:=hr j e q h1 h2;exact⟨ei _ _ c1,ei _ _ c2⟩
  refine⟨g',.tuple #[],?_,q2,q3,q4,.aR rfl λj v c h=>by simp at h⟩;simp[Builtin.delete_,run_underlying hu,cf,fw,dV,MapKept.run_setObj_map (P:=P) _ hb,q1]
end
def aG (ν:Nat->Nat):Operand->aK->Bool
 |.tmp t,.t n=>t==n
 |.const v,.c x=>sB v x
 |.func f,.c (.fn h [])=>f==ν h
 |_,_=>false
def dE (ν:Nat->Nat):List Operand->List aK->Bool
 |[],[]=>true
 |x::xs,y::ys=>aG ν x y&&dE ν xs ys
 |_,_=>false
def ja (ν:Nat->Nat):Option Operand->Option aK->Bool
 |none,none=>true
 |some x,some y=>aG ν x y
 |_,_=>false
def fO (ν:Nat->Nat):List (Nat×Operand)->List (Nat×aK)->Bool
 |[],[]=>true
 |x::xs,y::ys=>x.1==y.1&&aG ν x.2 y.2&&fO ν xs ys
 |_,_=>false
def placesOf (P:Program) (t:TypeId):Option (Nat->Option (Nat×Nat)):=
 match P.underlying t with
 |some (.array _ e)=>(P.info? e).map λie=>λi=>some (i*ie.size,ie.size)
 |some (.struct fields)=>(fields.toList.mapM (λf=>(P.info? f.type).map λi=>(f.offset,i.size))).map λplaces=>(places.toArray[·]?)
 |_=>none
def dP (ν:Nat->Nat) (pl:Nat->Option (Nat×Nat)):List (Nat×Operand)->List (Nat×Nat×aK)->Bool
 |[],[]=>true
 |x::xs,y::ys=>pl x.1==some (y.1,y.2.1)&&aG ν x.2 y.2.2&&dP ν pl xs ys
 |_,_=>false
def isStr (P:Program) (t:TypeId):Bool:=match P.underlying t with | some .string=>true | _=>false
theorem dW {P:Program} {t:TypeId} (h:isStr P t=true):P.underlying t=some .string:=by
 unfold isStr at h;split at h<;>first | assumption | cases h
def mY (P:Program) (t:TypeId):Bool:=match P.underlying t with | some (.slice e)=>(match P.underlying e with | some (.int .u8)=>true | _=>false) | _=>false
def pW:Operand->Bool
 |.const (.int _ n)=>n==0
 |_=>false
def ry (P:Program) (ν:Nat->Nat) (op:Op) (io:js):Bool:=
 match io with
 |.l9 y=>(match op with | .move x | .assign x=>aG ν x y | _=>false)
 |.wD _=>(match op with | .move (.const (.slice none 0 0)) | .assign (.const (.slice none 0 0))=>true | _=>false)
 |.pick c' a' b'=>(match op with | .pick c a b=>aG ν c c'&&aG ν a a'&&aG ν b b' | _=>false)
 |.alloc z=>(match op with | .alloc t=>mh P t z | _=>false)
 |.box y=>(match op with | .box _ x=>aG ν x y | _=>false)
 |.build z qs=>(match op with | .build t ps=>mh P t z&&(match placesOf P t with | some pl=>dP ν pl ps.toList qs | none=>false) | _=>false)
 |.nZ e z n' qs=>(match op with | .buildSlice t n ps=>n==n'&&xf P t n e z&&fO ν ps.toList qs | _=>false)
 |.load agg sz a'=>(match op with | .load t a=>fE P t sz agg&&aG ν a a' | _=>false)
 |.store sz a' x'=>(match op with | .store t a x=>iS P t sz&&aG ν a a'&&aG ν x x' | _=>false)
 |.cU off x'=>(match op with | .fieldAddr s x f=>pD P s f off&&aG ν x x' | _=>false)
 |.fC agg off sz x'=>(match op with | .field s x f=>sq P s f agg off sz&&aG ν x x' | _=>false)
 |.eD len e x' i'=>(match op with | .indexAddr t x i=>pE P t len e&&aG ν x x'&&aG ν i i' | _=>false)
 |.gL e x' i'=>(match op with | .indexAddr t x i=>sliceB P t e&&aG ν x x'&&aG ν i i' | _=>false)
 |.eP agg len e x' i'=>(match op with | .index t x i=>pF P t agg len e&&aG ν x x'&&aG ν i i' | _=>false)
 |.fK x' i'=>(match op with | .index t x i=>isStr P t&&aG ν x x'&&aG ν i i' | _=>false)
 |.bin bo q x' y'=>(match op with | .binOp b t x y _=>b==bo&&Bh P b t q&&aG ν x x'&&aG ν y y' | _=>false)
 |.pU neg qs x' y'=>(match op with | .binOp b t x y _=>b==(if neg then .neq else .eql)&&zS P t qs&&aG ν x x'&&aG ν y y' | _=>false)
 |.un uo x'=>(match op with | .unOp u _ x=>u==uo&&aG ν x x' | _=>false)
 |.qT kk x'=>(match op with | .convert s d x=>sv P s d kk&&aG ν x x' | _=>false)
 |.tJ x'=>(match op with | .convert s d x=>isStr P s&&isStr P d&&aG ν x x' | _=>false)
 |.gM e x' oH bX=>(match op with | .slice t x lo hi none=>sliceB P t e&&aG ν x x'&&ja ν lo oH&&ja ν hi bX | _=>false)
 |.fL x' oH bX=>(match op with | .slice t x lo hi none=>isStr P t&&aG ν x x'&&ja ν lo oH&&ja ν hi bX | _=>false)
 |.lh e x'=>(match op with | .slice t x lo (some hi) (some mx)=>sliceB P t e&&aG ν x x'&&(match lo with | none=>true | some l=>pW l)&&pW hi&&pW mx | _=>false)
 |.ko e z x'=>(match op with | .call { callee:=.builtin .clear,args,argTypes }=>(match args.toList,argTypes.toList with | [x],[t]=>zX P t e z&&aG ν x x' | _,_=>false) | _=>false)
 |.len str x'=>(match op with | .call { callee:=.builtin .len,args,argTypes }=>(match args.toList,argTypes.toList with | [x],[t]=>sA P t str&&aG ν x x' | _,_=>false) | _=>false)
 |.app e x' y'=>(match op with | .call { callee:=.builtin .append,args,argTypes }=>(match args.toList,argTypes.toList with | [x,y],[t,u]=>oE P t u e&&aG ν x x'&&aG ν y y' | _,_=>false) | _=>false)
 |.mn x' ys=>(match op with | .call { callee:=.builtin .min,args,.. }=>dE ν args.toList (x'::ys) | _=>false)
 |.mx x' ys=>(match op with | .call { callee:=.builtin .max,args,.. }=>dE ν args.toList (x'::ys) | _=>false)
 |.ext x' i'=>(match op with | .extract x i=>i==i'&&aG ν x x' | _=>false)
 |.nE x'=>(match op with | .nilCheck x=>aG ν x x' | _=>false)
 |.oj f' rz=>(match op with | .makeFunc (.func f) first ay=>f==ν f'&&first.isEmpty&&dE ν ay.toList rz | _=>false)
 |.call _ f' kl=>(match op with | .call { callee:=.value f,args,.. }=>aG ν f f'&&dE ν args.toList kl | _=>false)
 |.sZ x'=>(match op with | .convert s d x=>mY P s&&isStr P d&&aG ν x x' | _=>false)
 |.s7=>(match op with | .makeMap _ none=>true | _=>false)
 |.gB ok agg qs z m' k'=>(match op with | .lookup t m k o=>o==ok&&iG P t qs&&CG P t agg z&&aG ν m m'&&aG ν k k' | _=>false)
 |.gC qs m' k' x'=>(match op with | .mapUpdate t m k x | .insert t m k x=>iG P t qs&&aG ν m m'&&aG ν k k'&&aG ν x x' | _=>false)
 |.gD qs m' k'=>(match op with | .call { callee:=.builtin .delete,args,argTypes }=>(match args.toList,argTypes.toList with | [m,k],[t,_]=>iG P t qs&&aG ν m m'&&aG ν k k' | _,_=>false) | _=>false)
 |.om m'=>(match op with | .call { callee:=.builtin .len,args,argTypes }=>(match args.toList,argTypes.toList with | [m],[t]=>isMap P t&&aG ν m m' | _,_=>false) | _=>false)
def eU (ν:Nat->Nat) (g:Gh) (tmps:Array Value) (fr:Fr):Prop:=∀(t:Nat) (x:AV),get fr t=some x->∃v,tmps[t]?=some v/\RA ν g v x
theorem eU.mono {ν:Nat->Nat} {g g':Gh} {tmps:Array Value} {fr:Fr} (h:eU ν g tmps fr) (hm:aX ν g g'):eU ν g' tmps fr:=
 λt x ht=>let⟨v,h1,h2⟩:=h t x ht;⟨v,h1,hm _ _ h2⟩
section
variable {ν:Nat->Nat} {P:Program} {k:Cx} {g:Gh}
theorem ak {a:Act} {fr:Fr} (hf:eU ν g a.tmps fr) {x:Operand} {y:aK} (h:aG ν x y=true):RA ν g (a.eval x) (ev fr y):=by
 unfold aG at h;split at h
 ·rename_i t n;have:=beq_iff_eq.1 h;subst this;simp only[ev];cases hg:get fr t with
  |none=>exact .undef _
  |some z=>
   obtain⟨v,hv,hR⟩:=hf t z hg;have:a.eval (.tmp t)=v:=by simp[Act.eval,Array.getD,(Array.getElem?_eq_some_iff.1 hv).1,(Array.getElem?_eq_some_iff.1 hv).2]
   rw[this];exact hR
 ·rename_i v x;exact .iv (j0 h _ _)
 ·rename_i f h';have:=beq_iff_eq.1 h;subst this;exact .iv (.fn h' #[] [] rfl λj v x h=>by simp at h)
 ·cases h
theorem lz {a:Act} {fr:Fr} (hf:eU ν g a.tmps fr):∀{xs:List Operand} {ys:List aK},dE ν xs ys=true->
  (xs.map a.eval).length=(ys.map (ev fr)).length/\∀(j:Nat) (v:Value) (x:AV),(xs.map a.eval)[j]?=some v->(ys.map (ev fr))[j]?=some x->RA ν g v x
 |[],[],_=>⟨rfl,λj v x h=>by simp at h⟩
 |x::xs,y::ys,h=>by
  simp only[dE,Bool.and_eq_true]at h;obtain⟨h1,h2⟩:=lz hf h.2;refine⟨by simpa using h1,λj v z hv hz=>?_⟩;cases j with
  |zero=>simp at hv hz;subst hv hz;exact ak hf h.1
  |succ j=>exact h2 j v z (by simpa using hv) (by simpa using hz)
 |[],_::_,h=>by simp[dE]at h
 |_::_,[],h=>by simp[dE]at h
theorem eV {a:Act} {fr:Fr} (hf:eU ν g a.tmps fr) {x:Option Operand} {y:Option aK} (h:ja ν x y=true):RO ν g (x.map a.eval) (y.map (ev fr)):=by
 cases x<;>cases y<;>simp[ja]at h
 ·trivial
 ·exact ak hf h
theorem mI {a:Act} {fr:Fr} (hf:eU ν g a.tmps fr) {pl:Nat->Option (Nat×Nat)}:∀(ps:List (Nat×Operand)) (qs:List (Nat×Nat×aK)) (cells:Array Value) (cs:List AV) (n:Nat) (l:List (Nat×List AV)) (h h':Hp),
  dP ν pl ps qs=true->RC ν g cells cs->cs.length=n->
  (M.aN (λp:Nat×Nat×aK=>(bW (ev fr p.2.2)).bind λl=>(M.ok (l.length==p.2.1&&Nat.ble (p.1+p.2.1) n)).bind λ_=>M.ret (p.1,l)) qs).run h=some (l,h')->
  h'=h/\∃eQ,Instr.fill pl cells (ps.map λp=>(p.1,a.eval p.2))=some eQ/\RC ν g eQ (gn cs l):=by
 intro ps
 induction ps with
 |nil=>
  intro qs cells cs n l h h' hc hr _ e;cases qs with
  |cons=>simp[dP]at hc
  |nil=>
   obtain⟨rfl,rfl⟩:=b9 e;exact⟨rfl,cells,rfl,hr⟩
 |cons p ps ih=>
  intro qs cells cs n l h h' hc hr hn e;cases qs with
  |nil=>simp[dP]at hc
  |cons q qs=>
   simp only[dP,Bool.and_eq_true,beq_iff_eq]at hc;obtain⟨⟨iE,hq⟩,cO⟩:=hc;obtain⟨y,h1,zs,e1,e2,rfl⟩:=bU e;obtain⟨xs,h2,e3,e4⟩:=ag e1;obtain⟨rfl,hs,oA⟩:=fh e3 (ak hf hq);obtain⟨bt,e6⟩:=M.aj e4;obtain⟨rfl,rfl⟩:=af e6;simp only[Bool.and_eq_true,beq_iff_eq,Nat.ble_eq]at bt;have cK:q.1+xs.length<=cs.length:=by omega
   have yx:=hr.cn (us:=(a.eval p.2).cells) (l:=xs) (o:=q.1) ⟨hs,oA⟩ cK;obtain⟨rfl,c',fj,hR⟩:=ih qs _ _ n zs h1 h' cO yx (by rw[dj _ _ _ cK];exact hn) e2;refine⟨rfl,c',?_,hR⟩;rw[<-fj];simp only[List.map_cons,Instr.fill,iE];have rh:¬(((a.eval p.2).cells.size≠q.2.1||q.1+(a.eval p.2).cells.size > cells.size)=true):=by
    have:=hr.1;simp;omega
   rw[if_neg rh,<-Array.foldl_toList,Array.toList_zipIdx]
theorem uq {t:TypeId} {pl:Nat->Option (Nat×Nat)} (hp:placesOf P t=some pl) {parts:List (Nat×Value)} {zs:Array Value} {i:TypeInfo} {v:Value}
  (hi:P.info? t=some i) (hv:i.zero=some v) (kB:zs=v.cells):P.built t parts=Instr.fill pl zs parts:=by
 subst kB;unfold placesOf at hp;unfold Program.built;split at hp
 ·rename_i n e hu;simp only[Option.map_eq_some_iff]at hp;obtain⟨ie,rk,rfl⟩:=hp;simp[hi,hu,hv,rk]
 ·rename_i fields hu;simp only[Option.map_eq_some_iff]at hp;obtain⟨places,iE,rfl⟩:=hp;simp[hi,hu,hv,iE]
 ·cases hp
theorem qv (r:Rel ν k g) {a:Act} {fr:Fr} (hf:eU ν g a.tmps fr) {t:TypeId} {z:List IV} {ps:Array (Nat×Operand)} {qs:List (Nat×Nat×aK)} {pl:Nat->Option (Nat×Nat)}
  (hz:mh P t z=true) (hp:placesOf P t=some pl) (hc:dP ν pl ps.toList qs=true) {y:AV} {h':Hp}
  (e:((M.aN (λp:Nat×Nat×aK=>(bW (ev fr p.2.2)).bind λl=>(M.ok (l.length==p.2.1&&Nat.ble (p.1+p.2.1) z.length)).bind λ_=>M.ret (p.1,l)) qs).bind λl=>M.ret (.agg (gn (z.map .iv) l))).run g.h=some (y,h')) :
  bf ν k g h' y ((Instr.build t (ps.map fun(i,x)=>(i,a.eval x))).run P g.w):=by
 obtain⟨l,h1,e1,e2⟩:=ag e;obtain⟨rfl,rfl⟩:=af e2;obtain⟨i,v,hi,oC,fV⟩:=kX hz;have CI:=qn (ν:=ν) (g:=g) fV;obtain⟨rfl,eQ,fj,hR⟩:=mI hf ps.toList qs v.cells (z.map .iv) z.length l _ _ hc CI (by simp) e1;refine .same r (run_build g.w t _ eQ ?_) hR.agg;rw[uq hp hi oC rfl];simpa using fj
theorem iw:∀{ys:List (List IV)} {b:List Int},bytesOf ys=some b->b.length=ys.length/\∀i,i<ys.length->ys[i]?=some [.int .u8 (b.getD i 0)]
 |[],b,h=>by simp[bytesOf]at h;subst h;exact⟨rfl,λi hi=>absurd hi (Nat.not_lt_zero _)⟩
 |y::ys,b,h=>by
  unfold bytesOf at h;split at h
  ·rename_i heq;cases heq
  ·rename_i n r heq;cases heq;simp only[Option.map_eq_some_iff]at h;obtain⟨b',hb,rfl⟩:=h;obtain⟨h1,h2⟩:=iw hb;refine⟨by simp[h1],λi hi=>?_⟩;cases i with
   |zero=>rfl
   |succ i=>simpa using h2 i (by simpa using hi)
  ·cases h
theorem pX {P:Program} {t:TypeId} (h:mY P t=true):∃e,P.underlying t=some (.slice e)/\P.underlying e=some (.int .u8):=by
 unfold mY at h;split at h
 ·split at h
  ·exact⟨_,by assumption,by assumption⟩
  ·cases h
 ·cases h
theorem ur (r:Rel ν k g) {s d:TypeId} (hs:mY P s=true) (hd:isStr P d=true) {v:Value} {x y:AV} {h':Hp} (hv:RA ν g v x)
  (e:((elems 1 x).bind λys=>(M.lift (bytesOf ys)).bind λb=>M.ret (.iv (.str (ql b)))).run g.h=some (y,h')):bf ν k g h' y ((convert s d v).run P g.w):=by
 obtain⟨ys,h1,e1,e2⟩:=ag e;obtain⟨rfl,news,⟨a,c,ct,zZ⟩,hlen,E9, -,gV⟩:=j5 r e1 hv;obtain⟨b,hb,e4⟩:=M.lift_bind e2;obtain⟨rfl,rfl⟩:=af e4;obtain⟨vZ,uu⟩:=iw hb;obtain⟨el,oe,mZ⟩:=pX hs;have pY:=dW hd;subst ct;refine .same r (v:=.string (ql b)) ?_ mkStr;rcases zZ with h0 | ⟨yy,off,rfl,dI⟩
 ·have:b=[]:=List.eq_nil_of_length_eq_zero (by omega);subst this;rw[h0];cases a with
  |none=>rw[run_convert_bytes_nil g.w s el oe mZ 0 c d pY];rfl
  |some a=>
   rw[run_convert_bytes_string g.w s d el _ 0 c oe mZ pY,run_bytesToString g.w a 0 c [] (by simp[loadCells,loadCellsFrom])];rfl
 ·refine run_convert_bytes_arg g.w s el oe mZ yy off ys.length c b vZ (λi hi=>?_) d pY;obtain⟨u,hu,hR⟩:=gV i 0 _ _ (uu i hi) rfl;have:=dI (i*1+0) u hu;rw[Nat.mul_one,Nat.add_zero]at this;rw[this];cases hR;rfl
end
end al
