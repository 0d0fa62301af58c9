/-
  A part of the proof: two abstract machines for the code, and what the program does on them. No condition.
-/
import Derived.Below
import Derived.Eval
import Derived.Orders
import Derived.Sort.Defs
import Derived.Lib.BitFns
import Derived.Laws.Rows
import Derived.Laws.Tables
import Derived.Laws.Cells
import Derived.Laws.IdiomCopy
import Derived.Laws.Small
import Derived.Laws.StructEq
import Derived.Laws.Slices
import Derived.Laws.Append
import Derived.WideKeyRuns
import Derived.Laws.BytesArg
import Derived.WalkLawsBesides
import Derived.WalkSpells
import Derived.Laws.LoneSync
import Derived.Lib.Builder
import Derived.Lib.UnsafeStr
import Derived.Scope
import Derived.WalkKit
import Derived.ProofKit
import Derived.OpenShut
import Derived.Maps.RangeRun
import Derived.IntWalk
import Derived.Sort.AssemblyPlain
import Derived.Shelf.SlSortCmp.WholeK
import Derived.Shelf.Sort.Plain
import Derived.Shelf.SlicesG.Cmp
import Derived.Test.YtolpagjajaknbaaGreatProg
import Derived.Test.YtolpagjajaknbaaGreatChecked
import Derived.KernelRfl
import Derived.Sort.Walk0
import Derived.Test.YtolpagjajaknbaaGreatRows
import Derived.ShutString
import Derived.ChangeOld
import Derived.Carry
set_option linter.all false
namespace ao
open Go
inductive IV where
 |bool (b:Bool)
 |int (k:IntKind) (n:Int)
 |str (s:ByteArray)
 |aV (e:Nat)
 |sl (e:Nat) (es:List (List IV))
 |dM
 |ptr (cs:List IV)
 |fn (f:Nat) (caps:List IV)
 |junk
 deriving Inhabited
inductive AV where
 |undef
 |iv (x:IV)
 |agg (cs:List AV)
 |bD (vs:List AV)
 |own (id o n v:Nat)
 |ref (id v i j:Nat)
 |dg (f:Nat) (caps:List AV)
 deriving Inhabited
abbrev AV.nI (n:Int):AV:=.iv (.int .i64 n)
abbrev AV.bI (b:Bool):AV:=.iv (.bool b)
inductive Ob where
 |cells (cs:List AV)
 |buf (v e:Nat) (es:List (List IV))
 |cm (v e:Nat) (es:List (List IV))
 |map (dh:List (AV×AV))
 deriving Inhabited
def get {α:Type}:List (Nat×α)->Nat->Option α
 |[],_=>none
 |x::r,n=>if x.1=n then some x.2 else get r n
def set {α:Type}:List (Nat×α)->Nat->α->List (Nat×α)
 |[],n,v=>[(n,v)]
 |x::r,n,v=>if x.1=n then(n,v)::r else x::set r n v
abbrev Hp:=List (Nat×Ob)
abbrev Fr:=List (Nat×AV)
inductive M (α:Type) where
 |ret (a:α)
 |fail
 |get (id:Nat) (k:Option Ob->M α)
 |put (id:Nat) (o:Ob) (k:M α)
namespace M
def bind {α β:Type}:M α->(α->M β)->M β
 |.ret a,f=>f a
 |.fail,_=>.fail
 |.get id k,f=>.get id λo=>(k o).bind f
 |.put id o k,f=>.put id o (k.bind f)
instance:Monad M where
 pure:=M.ret
 bind:=M.bind
def run {α:Type}:M α->Hp->Option (α×Hp)
 |.ret a,h=>some (a,h)
 |.fail,_=>none
 |.get id k,h=>(k (ao.get h id)).run h
 |.put id o k,h=>k.run (ao.set h id o)
def bN {α:Type}:M α->Hp->List Nat×List Nat
 |.ret _,_=>([],[])
 |.fail,_=>([],[])
 |.get id k,h=>let r:=(k (ao.get h id)).bN h;(id::r.1,r.2)
 |.put id o k,h=>let r:=k.bN (ao.set h id o);(r.1,r.2++[id])
def ok (b:Bool):M Unit:=if b then .ret () else .fail
def lift {α:Type}:Option α->M α
 |some a=>.ret a
 |none=>.fail
def look (id:Nat):M Ob:=.get id fun | some o=>.ret o | none=>.fail
def fresh (id:Nat):M Unit:=.get id fun | some _=>.fail | none=>.ret ()
def write (id:Nat) (o:Ob):M Unit:=.put id o (.ret ())
def aG {α β:Type} (f:α->M β):List α->M (List β)
 |[]=>.ret []
 |x::r=>(f x).bind λy=>(aG f r).bind λys=>.ret (y::ys)
end M
def bh:AV->M (List AV)
 |.agg cs=>.ret cs
 |.undef=>.fail
 |.bD _=>.fail
 |x=>.ret [x]
def mk (agg:Bool) (l:List AV):M AV:=
 if agg then .ret (.agg l) else match l with
  |[x]=>.ret x
  |_=>.fail
def fz (w:Bool):Nat->AV->M IV
 |0,_=>.fail
 |n+1,a=>match a with
  |.iv (.aV e)=>.ret (.sl e [])
  |.iv x=>.ret x
  |.own id o m aC=>(M.look id).bind fun
   |.buf v e es=>(M.ok (v==aC)).bind λ_=>if w then(M.write id (.cm v e es)).bind λ_=>.ret (.sl e ((es.drop o).take m)) else .ret (.sl e ((es.drop o).take m))
   |.cm v e es=>(M.ok (v==aC)).bind λ_=>.ret (.sl e ((es.drop o).take m))
   |.cells _=>.fail
   |.map _=>.fail
  |.ref id aC i j=>(M.look id).bind fun
   |.buf v e es=>(M.ok (v==aC)).bind λ_=>(M.lift es[i]?).bind λc=>if w then(M.write id (.cm v e es)).bind λ_=>.ret (.ptr (c.drop j)) else .ret (.ptr (c.drop j))
   |.cm v _ es=>(M.ok (v==aC)).bind λ_=>(M.lift es[i]?).bind λc=>.ret (.ptr (c.drop j))
   |.cells cs=>(M.ok (aC==0&&i==0)).bind λ_=>(M.aG (fz w n) cs).bind λxs=>if w then(M.look id).bind fun
    |.cells _=>(M.write id (.cm 0 xs.length [xs])).bind λ_=>.ret (.ptr (xs.drop j))
    |_=>.fail
    else .ret (.ptr (xs.drop j))
   |.map _=>.fail
  |.dg f caps=>(M.aG (fz w n) caps).bind λxs=>.ret (.fn f xs)
  |_=>.fail
def cE (w:Bool) (a:AV):M AV:=(fz w 8 a).bind λx=>.ret (.iv x)
def bZ (w:Bool) (a:AV):M AV:=match a with
 |.agg cs=>(M.aG (cE w) cs).bind λl=>.ret (.agg l)
 |a=>cE w a
def im (w:Bool) (a:AV):M AV:=match a with
 |.bD vs=>(M.aG (bZ w) vs).bind λl=>.ret (.bD l)
 |a=>bZ w a
def eZ:IV->Bool
 |.bool _ | .int _ _ | .str _ | .dM=>true
 |_=>false
def eI:AV->Bool
 |.iv x=>eZ x
 |_=>false
def ew:AV->Bool
 |.agg cs=>cs.all eI
 |x=>eI x
def flat:AV->Bool
 |.bD vs=>vs.all ew
 |x=>ew x
inductive bf where
 |t (n:Nat)
 |c (v:IV)
 deriving Inhabited
inductive jt where
 |eM (x:bf)
 |Iv (e:Nat)
 |pick (c a b:bf)
 |alloc (z:List IV)
 |box (x:bf)
 |build (z:List IV) (ps:List (Nat×Nat×bf))
 |qF (e:Nat) (z:List IV) (len:Nat) (ps:List (Nat×bf))
 |load (agg:Bool) (sz:Nat) (a:bf)
 |store (sz:Nat) (a x:bf)
 |di (off:Nat) (x:bf)
 |ep (agg:Bool) (off sz:Nat) (x:bf)
 |dn (len e:Nat) (x i:bf)
 |dQ (e:Nat) (x i:bf)
 |dB (agg:Bool) (len e:Nat) (x i:bf)
 |jN (x i:bf)
 |bin (op:BinOp) (q:Nat) (x y:bf)
 |sj (neg:Bool) (qs:List Nat) (x y:bf)
 |un (op:UnOp) (x:bf)
 |tt (k:IntKind) (x:bf)
 |Cf (x:bf)
 |eu (e:Nat) (x:bf) (lo hi:Option bf)
 |nj (x:bf) (lo hi:Option bf)
 |tu (e:Nat) (x:bf)
 |qG (e:Nat) (z:List IV) (x:bf)
 |len (str:Bool) (x:bf)
 |app (e:Nat) (x y:bf)
 |mn (x:bf) (ys:List bf)
 |mx (x:bf) (ys:List bf)
 |ext (x:bf) (i:Nat)
 |oY (x:bf)
 |sk (f:Nat) (caps:List bf)
 |call (mode:Nat) (f:bf) (args:List bf)
 |Cg (x:bf)
 |Ch
 |jb (ok agg:Bool) (qs:List Nat) (z:List IV) (m k:bf)
 |kh (qs:List Nat) (m k v:bf)
 |nk (qs:List Nat) (m k:bf)
 |yN (m:bf)
 deriving Inhabited
structure aJ where
 dst:Option Nat
 op:jt
 gd:Option (Nat×Bool):=none
 lO:List Nat:=[]
 deriving Inhabited
inductive IC where
 |skip
 |ff (draw:Bool) (ops:List aJ) (aX:List Nat)
 |seq (a b:IC)
 |cond (c:bf) (a b:IC)
 |block (id:Nat) (b:IC)
 |loop (aX:List Nat) (b:IC)
 |exit (id:Nat)
 |ret
 deriving Inhabited
inductive iO where
 |t (n:Nat)
 |cell (n:Nat) (agg:Bool) (sz:Nat)
 |aX (n:Nat)
 |Iw (n:Nat) (agg:Bool) (sz:Nat)
 deriving Inhabited
structure aA where
 np:Nat
 res:List iO
 body:IC
 cl:Option (Nat×List IV)
 deriving Inhabited
structure St where
 fr:Fr
 hp:Hp
 nx:Nat
def ev (fr:Fr):bf->AV
 |.t n=>(get fr n).getD .undef
 |.c v=>.iv v
def fV:Nat->List AV->M (List AV)
 |_,[]=>.ret []
 |s,.iv (.aV e)::r=>(M.fresh s).bind λ_=>(M.write s (.buf 0 e [])).bind λ_=>(fV (s+1) r).bind λrs=>.ret (.own s 0 0 0::rs)
 |s,x::r=>(fV (s+1) r).bind λrs=>.ret (x::rs)
def bl {α:Type} (cs:List α) (j:Nat) (l:List α):List α:=cs.take j++l++cs.drop (j+l.length)
def bB (o:Ob) (aC i j sz:Nat):Option (List AV):=
 match o with
 |.cells cs=>if aC=0/\i=0 then some ((cs.drop j).take sz) else none
 |.buf v _ es | .cm v _ es=>if v=aC then(es[i]?).map λc=>((c.drop j).take sz).map .iv else none
 |.map _=>none
def load (agg:Bool) (sz:Nat):AV->M AV
 |.ref id aC i j=>(M.look id).bind λo=>(M.lift (bB o aC i j sz)).bind λl=>(M.ok (l.length==sz)).bind λ_=>mk agg l
 |.iv (.ptr cs)=>(M.ok ((cs.take sz).length==sz)).bind λ_=>mk agg ((cs.take sz).map .iv)
 |_=>.fail
def store (slot sz:Nat) (a x:AV):M AV:=
 (bh x).bind λxs=>(M.ok (xs.length==sz)).bind λ_=>
 match a with
 |.ref id aC i j=>(M.look id).bind fun
  |.cells cs=>(M.ok (Nat.ble (j+sz) cs.length)).bind λ_=>(fV slot xs).bind λl=>(M.write id (.cells (bl cs j l))).bind λ_=>.ret (.bD [])
  |.buf _ _ _=>(M.aG (fz true 8) xs).bind λl=>(M.look id).bind fun
   |.buf v e es=>(M.ok (v==aC&&Nat.ble (j+sz) e)).bind λ_=>(M.lift es[i]?).bind λc=>(M.write id (.buf v e (es.set i (bl c j l)))).bind λ_=>.ret (.bD [])
   |_=>.fail
  |_=>.fail
 |_=>.fail
def valid (o:Ob) (aC i:Nat):Bool:=
 match o with
 |.cells _=>aC==0&&i==0
 |.buf v _ _ | .cm v _ _=>v==aC
 |.map _=>false
def di (off:Nat):AV->M AV
 |.ref id aC i j=>(M.look id).bind λo=>(M.ok (valid o aC i)).bind λ_=>.ret (.ref id aC i (j+off))
 |.iv (.ptr cs)=>(M.ok (Nat.ble off cs.length)).bind λ_=>.ret (.iv (.ptr (cs.drop off)))
 |_=>.fail
def ep (agg:Bool) (off sz:Nat):AV->M AV
 |.agg cs=>(M.ok (((cs.drop off).take sz).length==sz)).bind λ_=>mk agg ((cs.drop off).take sz)
 |_=>.fail
def idx:AV->M Int
 |.iv (.int _ n)=>.ret n
 |_=>.fail
def dn (len e:Nat) (x i:AV):M AV:=
 (idx i).bind λn=>(M.ok (decide (0<=n/\n<len))).bind λ_=>
 match x with
 |.ref id aC i j=>(M.look id).bind λo=>(M.ok (valid o aC i)).bind λ_=>.ret (.ref id aC i (j+n.toNat*e))
 |.iv (.ptr cs)=>(M.ok (Nat.ble (n.toNat*e) cs.length)).bind λ_=>.ret (.iv (.ptr (cs.drop (n.toNat*e))))
 |_=>.fail
def dQ (e:Nat) (x i:AV):M AV:=
 (idx i).bind λn=>(M.ok (decide (0<=n))).bind λ_=>
 match x with
 |.own id o m aC=>(M.ok (decide (n<m))).bind λ_=>(M.look id).bind fun
  |.buf v e' _ | .cm v e' _=>(M.ok (v==aC&&e'==e)).bind λ_=>.ret (.ref id aC (o+n.toNat) 0)
  |_=>.fail
 |.iv (.sl e' es)=>(M.ok (e'==e)).bind λ_=>(M.lift es[n.toNat]?).bind λc=>.ret (.iv (.ptr c))
 |_=>.fail
def dB (agg:Bool) (len e:Nat) (x i:AV):M AV:=
 (idx i).bind λn=>(M.ok (decide (0<=n/\n<len))).bind λ_=>ep agg (n.toNat*e) e x
def jN:AV->AV->M AV
 |.iv (.str s),.iv (.int _ n)=>(M.ok (decide (0<=n))).bind λ_=>match s[n.toNat]? with
  |some b=>.ret (.iv (.int .u8 b.toNat))
  |none=>.fail
 |_,_=>.fail
def cU (op:BinOp) (k k':IntKind) (a b:Int):Option IV:=
 match op with
 |.shl=>if b<0 then none else some (.int k (k.wrap (a*2 ^ min b.toNat k.bits)))
 |.shr=>if b<0 then none else some (.int k (a.fdiv (2 ^ min b.toNat k.bits)))
 |op=>if k=k' then match op with
   |.add=>some (.int k (k.wrap (a+b)))
   |.sub=>some (.int k (k.wrap (a - b)))
   |.mul=>some (.int k (k.wrap (a*b)))
   |.quo=>if b=0 then none else some (.int k (k.wrap (a.tdiv b)))
   |.rem=>if b=0 then none else some (.int k (a.tmod b))
   |.eql=>some (.bool (a==b))
   |.neq=>some (.bool (a != b))
   |.lss=>some (.bool (decide (a<b)))
   |.leq=>some (.bool (decide (a<=b)))
   |.gtr=>some (.bool (decide (a > b)))
   |.geq=>some (.bool (decide (a ≥ b)))
   |op=>some (.int k (bits op k a b))
  else none
def fL (a b:ByteArray):Bool:=Op.bytesLess a.toList b.toList
def db (op:BinOp) (a b:ByteArray):Option IV:=
 match op with
 |.add=>if a.size+b.size<=4611686018427387904 then some (.str (a++b)) else none
 |.eql=>some (.bool (a==b))
 |.neq=>some (.bool (!(a==b)))
 |.lss=>some (.bool (fL a b))
 |.leq=>some (.bool (fL a b||a==b))
 |.gtr=>some (.bool (!(fL a b||a==b)))
 |.geq=>some (.bool (!fL a b))
 |_=>none
def bin (op:BinOp) (q:Nat) (x y:AV):Option IV:=
 match q,x,y with
 |0,.iv (.int k a),.iv (.int k' b)=>cU op k k' a b
 |0,.iv (.str a),.iv (.str b)=>db op a b
 |1,.iv (.bool a),.iv (.bool b)=>match op with
  |.eql=>some (.bool (a==b))
  |.neq=>some (.bool (!(a==b)))
  |_=>none
 |2,.iv .dM,.iv .dM=>match op with
  |.eql=>some (.bool true)
  |.neq=>some (.bool false)
  |_=>none
 |2,.iv (.ptr _),.iv .dM | 2,.iv .dM,.iv (.ptr _)=>match op with
  |.eql=>some (.bool false)
  |.neq=>some (.bool true)
  |_=>none
 |_,_,_=>none
def ly (q:Nat) (x y:AV):Option Bool:=
 match q,x,y with
 |0,.iv (.int k a),.iv (.int k' b)=>if k=k' then some (a==b) else none
 |1,.iv (.bool a),.iv (.bool b)=>some (a==b)
 |2,.iv (.str a),.iv (.str b)=>some (a==b)
 |_,_,_=>none
def eqs:List Nat->List AV->List AV->Option Bool
 |[],[],[]=>some true
 |q::qs,x::xs,y::ys=>(ly q x y).bind λb=>(eqs qs xs ys).bind λc=>some (b&&c)
 |_,_,_=>none
def un (op:UnOp):AV->Option IV
 |.iv (.int k a)=>match op with
  |.neg=>some (.int k (k.wrap (0 - a)))
  |.xor=>some (.int k (bits .xor k (if k.signed then -1 else k.max) a))
  |_=>none
 |.iv (.bool b)=>match op with
  |.not=>some (.bool !b)
  |_=>none
 |_=>none
def bound (y:Nat):Option AV->M (Option Nat)
 |none=>.ret none
 |some (.iv (.int _ n))=>(M.ok (decide (0<=n/\n<=y))).bind λ_=>.ret (some n.toNat)
 |some _=>.fail
def eu (e:Nat) (x:AV) (lo hi:Option AV):M AV:=
 match x with
 |.own id o m aC=>(bound m hi).bind λh=>(bound (h.getD m) lo).bind λl=>(M.look id).bind fun
  |.buf v e' _ | .cm v e' _=>(M.ok (v==aC&&e'==e)).bind λ_=>.ret (.own id (o+l.getD 0) (h.getD m - l.getD 0) aC)
  |_=>.fail
 |.iv (.sl e' es)=>(M.ok (e'==e)).bind λ_=>(bound es.length hi).bind λh=>(bound (h.getD es.length) lo).bind λl=>.ret (.iv (.sl e ((es.take (h.getD es.length)).drop (l.getD 0))))
 |_=>.fail
def nj (x:AV) (lo hi:Option AV):M AV:=
 match x with
 |.iv (.str s)=>(bound s.size hi).bind λh=>(bound (h.getD s.size) lo).bind λl=>.ret (.iv (.str (s.extract (l.getD 0) (h.getD s.size))))
 |_=>.fail
def tu (e:Nat):AV->M AV
 |.own id _ _ aC=>(M.look id).bind λo=>(M.ok (valid o aC 0)).bind λ_=>(match o with | .cells _=>.fail | .map _=>.fail | _=>.ret (.iv (.aV e)))
 |.iv (.sl _ _)=>.ret (.iv (.aV e))
 |.iv (.aV _)=>.ret (.iv (.aV e))
 |_=>.fail
def qG (e:Nat) (z:List IV):AV->M AV
 |.own id o n aC=>(M.look id).bind fun
  |.buf v e' es=>(M.ok (v==aC&&e'==e&&z.length==e)).bind λ_=>(M.write id (.buf v e (es.take o++List.replicate n z++es.drop (o+n)))).bind λ_=>.ret (.bD [])
  |_=>.fail
 |_=>.fail
def len (str:Bool) (x:AV):M AV:=
 match str,x with
 |false,.own id _ n aC=>(M.look id).bind fun
  |.buf v _ _ | .cm v _ _=>(M.ok (v==aC)).bind λ_=>.ret (.iv (.int .i64 n))
  |_=>.fail
 |false,.iv (.sl _ es)=>.ret (.iv (.int .i64 es.length))
 |false,.iv (.aV _)=>.ret (.iv (.int .i64 0))
 |true,.iv (.str s)=>.ret (.iv (.int .i64 s.size))
 |_,_=>.fail
def elems (e:Nat):AV->M (List (List IV))
 |.own id o n aC=>(M.look id).bind fun
  |.buf v e' es | .cm v e' es=>(M.ok (v==aC&&e'==e)).bind λ_=>.ret ((es.drop o).take n)
  |_=>.fail
 |.iv (.sl e' es)=>(M.ok (e'==e)).bind λ_=>.ret es
 |.iv (.aV _)=>.ret []
 |_=>.fail
def roomy (n:Nat):Bool:=Nat.ble n 1073741824
def app (e slot:Nat) (x y:AV):M AV:=
 (elems e y).bind λys=>
 match x with
 |.iv (.aV _)=>(M.ok (roomy ys.length)).bind λ_=>(M.fresh slot).bind λ_=>(M.write slot (.buf 0 e ys)).bind λ_=>.ret (.own slot 0 ys.length 0)
 |.own id o n aC=>(M.look id).bind fun
  |.buf v e' es=>(M.ok (v==aC&&e'==e&&o==0&&roomy (n+ys.length))).bind λ_=>(M.write id (.buf (v+1) e (es.take n++ys))).bind λ_=>.ret (.own id 0 (n+ys.length) (v+1))
  |_=>.fail
 |_=>.fail
def sm:Int->List AV->IntKind->Option Int
 |a,[],_=>some a
 |a,.iv (.int k b)::r,k'=>if k=k' then sm (if b<a then b else a) r k' else none
 |_,_,_=>none
def qH:Int->List AV->IntKind->Option Int
 |a,[],_=>some a
 |a,.iv (.int k b)::r,k'=>if k=k' then qH (if b > a then b else a) r k' else none
 |_,_,_=>none
def cz {α:Type}:List α->List (Nat×List α)->List α
 |z,[]=>z
 |z,(o,l)::r=>cz (bl z o l) r
def bO {α:Type}:List α->List (Nat×α)->List α
 |z,[]=>z
 |z,(o,l)::r=>bO (z.set o l) r
def qQ:AV->List Nat
 |.own id _ _ _ | .ref id _ _ _=>[id]
 |_=>[]
def place:List Nat->Nat->Option Nat
 |[],_=>none
 |x::r,n=>if x=n then some 0 else(place r n).map (·+ 1)
def dedup:List Nat->List Nat->List Nat
 |[],acc=>acc.reverse
 |x::r,acc=>if acc.contains x then dedup r acc else dedup r (x::acc)
def qR (ids:List Nat):AV->M AV
 |.own id o n v=>(M.lift (place ids id)).bind λi=>.ret (.own i o n v)
 |.ref id v i j=>(M.lift (place ids id)).bind λp=>.ret (.ref p v i j)
 |a=>bZ true a
def lz:Ob->Bool
 |.buf _ _ _=>true
 |_=>false
def callee:AV->Option (Nat×List AV)
 |.iv (.fn f caps)=>some (f,caps.map .iv)
 |.dg f caps=>some (f,caps)
 |_=>none
def shut (p:AV×Hp):Option AV:=((im true p.1).run p.2).map (·.1)
def dF (call:Nat->List AV->Hp->Option (AV×Hp)) (f:AV) (args:List AV):M AV:=
 (M.lift (callee f)).bind λq=>
 (M.aG (bZ false) (args++q.2)).bind λU=>(M.lift ((call q.1 U []).bind shut)).bind λr=>
 (M.ok (flat r)).bind λ_=>.ret r
def dR (call:Nat->List AV->Hp->Option (AV×Hp)) (f:AV) (args:List AV):M AV:=
 (M.lift (callee f)).bind λq=>
 (M.aG (bZ true) (args++q.2)).bind λU=>M.lift ((call q.1 U []).bind shut)
def lE:List Nat->Nat->Hp->M Unit
 |[],_,_=>.ret ()
 |id::r,i,h=>(M.lift (get h i)).bind λo=>(M.ok (match o with | .cells _=>false | .map _=>false | _=>true)).bind λ_=>(M.write id o).bind λ_=>lE r (i+1) h
def qS (ids:List Nat) (p:AV×Hp):Option AV:=
 match p.1 with
 |.own i o n v=>(ids[i]?).map λid=>.own id o n v
 |r=>if flat r then some r else none
def kJ:List Nat->Bool
 |[]=>true
 |x::r=>!r.contains x&&kJ r
def fA {α:Type}:List α->Nat->List (Nat×α)
 |[],_=>[]
 |x::r,i=>(i,x)::fA r (i+1)
def nW (call:Nat->List AV->Hp->Option (AV×Hp)) (f:AV) (args:List AV):M AV:=
 (M.lift (callee f)).bind λq=>
 let ids:=dedup ((args++q.2).flatMap qQ) []
 (M.ok (kJ ids&&Nat.ble ids.length 1000)).bind λ_=>
 (M.aG (qR ids) (args++q.2)).bind λU=>
 (M.aG (λid=>(M.look id).bind λo=>(M.ok (lz o)).bind λ_=>.ret o) ids).bind λos=>
 (M.lift (call q.1 U (fA os 0))).bind λp=>
 (M.lift (qS ids p)).bind λr=>(lE ids 0 p.2).bind λ_=>.ret r
def xN (slot:Nat) (p:AV×Hp):M AV:=
 match p.1 with
 |.own i o n v=>(M.lift (get p.2 i)).bind fun
  |.buf v' e es=>(M.ok (v'==v&&o==0)).bind λ_=>(M.fresh slot).bind λ_=>(M.write slot (.buf 0 e es)).bind λ_=>.ret (.own slot 0 n 0)
  |_=>.fail
 |_=>.fail
def tv (call:Nat->List AV->Hp->Option (AV×Hp)) (slot:Nat) (f:AV) (args:List AV):M AV:=
 (M.lift (callee f)).bind λq=>
 (M.aG (bZ true) (args++q.2)).bind λU=>(M.lift (call q.1 U [])).bind λp=>xN slot p
def k6 (qs:List Nat):AV->Bool
 |.agg xs=>xs.length==qs.length&&qs.length != 1
 |.iv _=>qs.length==1
 |_=>false
def vQ (qs:List Nat):AV->AV->Option Bool
 |.agg xs,.agg ys=>if qs.length=1 then none else eqs qs xs ys
 |.iv x,.iv y=>if qs.length=1 then eqs qs [.iv x] [.iv y] else none
 |_,_=>none
def iK (qs:List Nat) (k:AV):List (AV×AV)->Nat->Option (Option (Nat×AV))
 |[],_=>some none
 |p::r,i=>match vQ qs k p.1 with
  |some true=>some (some (i,p.2))
  |some false=>iK qs k r (i+1)
  |none=>none
def gg:AV->M (Nat×List (AV×AV))
 |.ref id 0 0 0=>(M.look id).bind fun
  |.map dh=>.ret (id,dh)
  |_=>.fail
 |_=>.fail
def jb (ok agg:Bool) (qs:List Nat) (z:List IV) (m k:AV):M AV:=
 (M.ok (k6 qs k)).bind λ_=>(gg m).bind λx=>(M.lift (iK qs k x.2 0)).bind fun
  |some p=>.ret (if ok then .bD [p.2,.iv (.bool true)] else p.2)
  |none=>(mk agg (z.map .iv)).bind λv=>.ret (if ok then .bD [v,.iv (.bool false)] else v)
def kh (qs:List Nat) (m k v:AV):M AV:=
 (M.ok (k6 qs k)).bind λ_=>(gg m).bind λx=>(M.lift (iK qs k x.2 0)).bind fun
  |some p=>(M.write x.1 (.map (x.2.set p.1 (k,v)))).bind λ_=>.ret (.bD [])
  |none=>(M.write x.1 (.map (x.2++[(k,v)]))).bind λ_=>.ret (.bD [])
def nk (qs:List Nat) (m k:AV):M AV:=
 (M.ok (k6 qs k)).bind λ_=>(gg m).bind λx=>(M.lift (iK qs k x.2 0)).bind fun
  |some p=>(M.write x.1 (.map (x.2.eraseIdx p.1))).bind λ_=>.ret (.bD [])
  |none=>(M.write x.1 (.map x.2)).bind λ_=>.ret (.bD [])
def bytesOf:List (List IV)->Option (List Int)
 |[]=>some []
 |[.int .u8 n]::r=>(bytesOf r).map (n::·)
 |_=>none
def iP (xs:List Int):ByteArray:=⟨(xs.map λn=>UInt8.ofNat n.toNat).toArray⟩
def bp (call:Nat->List AV->Hp->Option (AV×Hp)) (slot:Nat) (ρ:bf->AV):jt->M AV
 |.eM x=>.ret (ρ x)
 |.Iv e=>(M.fresh slot).bind λ_=>(M.write slot (.buf 0 e [])).bind λ_=>.ret (.own slot 0 0 0)
 |.pick c a b=>match ρ c with
  |.iv (.bool t)=>.ret (if t then ρ a else ρ b)
  |_=>.fail
 |.alloc z=>(M.fresh slot).bind λ_=>(fV (slot+1) (z.map .iv)).bind λl=>(M.write slot (.cells l)).bind λ_=>.ret (.ref slot 0 0 0)
 |.box x=>(bh (ρ x)).bind λxs=>(M.fresh slot).bind λ_=>(fV (slot+1) xs).bind λl=>(M.write slot (.cells l)).bind λ_=>.ret (.ref slot 0 0 0)
 |.build z ps=>(M.aG (λp=>(bh (ρ p.2.2)).bind λl=>(M.ok (l.length==p.2.1&&Nat.ble (p.1+p.2.1) z.length)).bind λ_=>.ret (p.1,l)) ps).bind λl=>.ret (.agg (cz (z.map .iv) l))
 |.qF e z n ps=>(M.ok (z.length==e)).bind λ_=>
   (M.aG (λp=>(bh (ρ p.2)).bind λxs=>(M.ok (xs.length==e&&Nat.blt p.1 n)).bind λ_=>(M.aG (fz true 8) xs).bind λl=>.ret (p.1,l)) ps).bind λl=>
   (M.fresh slot).bind λ_=>(M.write slot (.buf 0 e (bO (List.replicate n z) l))).bind λ_=>.ret (.own slot 0 n 0)
 |.load agg sz a=>load agg sz (ρ a)
 |.store sz a x=>store slot sz (ρ a) (ρ x)
 |.di off x=>di off (ρ x)
 |.ep agg off sz x=>ep agg off sz (ρ x)
 |.dn len e x i=>dn len e (ρ x) (ρ i)
 |.dQ e x i=>dQ e (ρ x) (ρ i)
 |.dB agg len e x i=>dB agg len e (ρ x) (ρ i)
 |.jN x i=>jN (ρ x) (ρ i)
 |.bin op q x y=>(M.lift (bin op q (ρ x) (ρ y))).bind λv=>.ret (.iv v)
 |.sj neg qs x y=>match ρ x,ρ y with
  |.agg xs,.agg ys=>(M.lift (eqs qs xs ys)).bind λb=>.ret (.iv (.bool (if neg then !b else b)))
  |_,_=>.fail
 |.un op x=>(M.lift (un op (ρ x))).bind λv=>.ret (.iv v)
 |.tt k x=>(idx (ρ x)).bind λn=>.ret (.iv (.int k (k.wrap n)))
 |.Cf x=>match ρ x with
  |.iv (.str s)=>.ret (.iv (.str s))
  |_=>.fail
 |.eu e x lo hi=>eu e (ρ x) (lo.map ρ) (hi.map ρ)
 |.nj x lo hi=>nj (ρ x) (lo.map ρ) (hi.map ρ)
 |.tu e x=>tu e (ρ x)
 |.qG e z x=>qG e z (ρ x)
 |.len str x=>len str (ρ x)
 |.app e x y=>app e slot (ρ x) (ρ y)
 |.mn x ys=>match ρ x with
  |.iv (.int k a)=>(M.lift (sm a (ys.map ρ) k)).bind λn=>.ret (.iv (.int k n))
  |_=>.fail
 |.mx x ys=>match ρ x with
  |.iv (.int k a)=>(M.lift (qH a (ys.map ρ) k)).bind λn=>.ret (.iv (.int k n))
  |_=>.fail
 |.ext x i=>match ρ x with
  |.bD vs=>M.lift vs[i]?
  |_=>.fail
 |.oY x=>match ρ x with
  |.ref id aC i j=>(M.look id).bind λo=>(M.ok (valid o aC i)).bind λ_=>.ret (.ref id aC i j)
  |.iv (.ptr cs)=>.ret (.iv (.ptr cs))
  |.iv (.fn f cs)=>.ret (.iv (.fn f cs))
  |.dg f cs=>.ret (.dg f cs)
  |_=>.fail
 |.sk f caps=>.ret (.dg f (caps.map ρ))
 |.call mode f args=>match mode with
  |0=>dF call (ρ f) (args.map ρ)
  |1=>nW call (ρ f) (args.map ρ)
  |2=>tv call slot (ρ f) (args.map ρ)
  |4=>.fail
  |_=>dR call (ρ f) (args.map ρ)
 |.Cg x=>(elems 1 (ρ x)).bind λys=>(M.lift (bytesOf ys)).bind λb=>.ret (.iv (.str (iP b)))
 |.Ch=>(M.fresh slot).bind λ_=>(M.write slot (.map [])).bind λ_=>.ret (.ref slot 0 0 0)
 |.jb ok agg qs z m k=>jb ok agg qs z (ρ m) (ρ k)
 |.kh qs m k v=>kh qs (ρ m) (ρ k) (ρ v)
 |.nk qs m k=>nk qs (ρ m) (ρ k)
 |.yN m=>(gg (ρ m)).bind λx=>.ret (.iv (.int .i64 x.2.length))
def cw (fr:Fr):Option (Nat×Bool)->Option Bool
 |none=>some true
 |some (t,b)=>match get fr t with
  |some (.iv (.bool c))=>some (c==b)
  |some (.bD [])=>some false
  |_=>none
def bT (fr:Fr) (d:Option Nat) (v:AV):Fr:=match d with
 |some d=>set fr d v
 |none=>fr
def step (call:Nat->List AV->Hp->Option (AV×Hp)) (slot:Nat) (o:aJ) (s:St):Option St:=
 match cw s.fr o.gd with
 |some true=>match(bp call slot (ev s.fr) o.op).run s.hp with
  |some (v,h)=>some { s with fr:=bT s.fr o.dst v,hp:=h }
  |none=>none
 |some false=>some { s with fr:=bT s.fr o.dst (.bD []) }
 |none=>none
def bH (call:Nat->List AV->Hp->Option (AV×Hp)) (slot:Nat) (o:aJ) (s:St):List Nat×List Nat:=
 match cw s.fr o.gd with
 |some true=>(bp call slot (ev s.fr) o.op).bN s.hp
 |_=>([],[])
def a7 (call:Nat->List AV->Hp->Option (AV×Hp)):List aJ->Nat->St->Option St
 |[],_,s=>some s
 |o::r,slot,s=>match step call slot o s with
  |some s'=>a7 call r (slot+64) s'
  |none=>none
def bn (call:Nat->List AV->Hp->Option (AV×Hp)):List aJ->Nat->St->List (List Nat×List Nat)
 |[],_,_=>[]
 |o::r,slot,s=>bH call slot o s::match step call slot o s with
  |some s'=>bn call r (slot+64) s'
  |none=>[]
def meets (a b:List Nat):Bool:=a.any b.contains
def c9 (x y:List Nat×List Nat):Bool:=meets x.2 (y.1++y.2)||meets y.2 (x.1++x.2)
def dC (x:List Nat×List Nat) (i:Nat):List (List Nat×List Nat)->List (List Nat)->Bool
 |y::ys,c::cs=>(!c9 x y||c.contains i)&&dC x i ys cs
 |_,_=>true
def cL:List (List Nat×List Nat)->Nat->List (List Nat)->Bool
 |x::xs,i,_::cs=>dC x i xs cs&&cL xs (i+1) cs
 |_,_,_=>true
def dw (ops:List aJ) (DD:List (List Nat×List Nat)):Bool:=DD.all (·.2.isEmpty)||cL DD 0 (ops.map (·.lO))
def an:List Nat->Fr->Fr
 |[],_=>[]
 |t::r,fr=>match get fr t with
  |some x=>(t,x)::an r fr
  |none=>an r fr
def aS (call:Nat->List AV->Hp->Option (AV×Hp)) (draw:Bool) (ops:List aJ) (aX:List Nat) (s:St):Option St:=
 match a7 call ops s.nx s with
 |some s'=>if !draw||dw ops (bn call ops s.nx s) then some { fr:=an aX s'.fr,hp:=s'.hp,nx:=s.nx+64*ops.length } else none
 |none=>none
inductive Ex where
 |norm
 |exit (id:Nat)
 |ret
def nrm (n0:Nat) (h:Hp):Nat->AV->AV
 |0,_=>.undef
 |d+1,a=>match a with
  |.iv x=>.iv x
  |.undef=>.undef
  |.agg cs=>.agg (cs.map (nrm n0 h d))
  |.bD vs=>.bD (vs.map (nrm n0 h d))
  |.own id o n aC=>if id<1000 then .own id o n aC else if id<n0 then(match get h id with
   |some (.buf v _ _) | some (.cm v _ _)=>if v=aC then .own id o n 0 else .undef
   |_=>.undef) else .undef
  |.ref id aC i j=>if id<1000 then .ref id aC i j else if id<n0 then(match get h id with
   |some (.buf v _ _) | some (.cm v _ _)=>if v=aC then .ref id 0 i j else .undef
   |some (.cells _) | some (.map _)=>.ref id aC i j
   |none=>.undef) else .undef
  |.dg f caps=>.dg f (caps.map (nrm n0 h d))
def bG (n0:Nat) (h:Hp) (id:Nat):Ob->Ob
 |.cells cs=>.cells (cs.map (nrm n0 h 8))
 |.buf v e es=>.buf (if id<1000 then v else 0) e es
 |.cm v e es=>.cm (if id<1000 then v else 0) e es
 |.map dh=>.map (dh.map λp=>(nrm n0 h 8 p.1,nrm n0 h 8 p.2))
def again (aX:List Nat) (n0:Nat) (s:St):St:=
 { fr:=(an aX s.fr).map λp=>(p.1,nrm n0 s.hp 8 p.2),hp:=(s.hp.filter λp=>decide (p.1<1000)||decide (p.1<n0)).map λp=>(p.1,bG n0 s.hp p.1 p.2),nx:=n0 }
def iter (f:St->Option (Ex×St)) (aX:List Nat) (n0:Nat):Nat->St->Option (Ex×St)
 |0,_=>none
 |m+1,s=>match f s with
  |some (.norm,s')=>iter f aX n0 m (again aX n0 s')
  |r=>r
def bd (call:Nat->List AV->Hp->Option (AV×Hp)) (n:Nat):IC->St->Option (Ex×St)
 |.skip,s=>some (.norm,s)
 |.ff draw ops aX,s=>(aS call draw ops aX s).map λs'=>(.norm,s')
 |.seq a b,s=>match bd call n a s with
  |some (.norm,s')=>bd call n b s'
  |r=>r
 |.cond c a b,s=>match ev s.fr c with
  |.iv (.bool t)=>if t then bd call n a s else bd call n b s
  |_=>none
 |.block id b,s=>match bd call n b s with
  |some (.exit i,s')=>if i=id then some (.norm,s') else some (.exit i,s')
  |r=>r
 |.loop aX b,s=>iter (bd call n b) aX s.nx n { s with fr:=an aX s.fr }
 |.exit id,s=>some (.exit id,s)
 |.ret,s=>some (.ret,s)
def eE:AV->M AV
 |.own id o n v=>(M.look id).bind fun
  |.buf v' _ _=>(M.ok (v'==v)).bind λ_=>.ret (.own id o n v)
  |.cm v' e es=>(M.ok (v'==v)).bind λ_=>.ret (.iv (.sl e ((es.drop o).take n)))
  |.cells _=>.fail
  |.map _=>.fail
 |a=>bZ true a
def dJ (fr:Fr):iO->M AV
 |.t n=>eE (ev fr (.t n))
 |.cell n agg sz=>(load agg sz (ev fr (.t n))).bind eE
 |.aX n=>.ret (ev fr (.t n))
 |.Iw n agg sz=>load agg sz (ev fr (.t n))
def ck (fr:Fr):List iO->M AV
 |[r]=>dJ fr r
 |rs=>(M.aG (dJ fr) rs).bind λl=>.ret (.bD l)
def params:List AV->Nat->Fr
 |[],_=>[]
 |a::r,i=>(i,a)::params r (i+1)
def nX (e:Nat):List AV->M AV
 |[.iv (.sl e' es)]=>(M.ok (e'==e&&roomy es.length)).bind λ_=>(M.fresh 1000).bind λ_=>(M.write 1000 (.buf 0 e [])).bind λ_=>(M.write 1000 (.buf 1 e es)).bind λ_=>.ret (.own 1000 0 es.length 1)
 |_=>.fail
def DE:List IV->Option (Int×Int)
 |[.int .i64 a,.int .i64 b]=>some (a,b)
 |_=>none
def DF:List IV->Option ByteArray
 |[.str s]=>some s
 |_=>none
def lF {α β:Type} (f:α->Option β):List α->Option (List β)
 |[]=>some []
 |x::l=>match f x,lF f l with
  |some y,some r=>some (y::r)
  |_,_=>none
def zS (p:Int×Int):List IV:=[.int .i64 p.1,.int .i64 p.2]
def zT (s:ByteArray):List IV:=[.str s]
def nm (x y:Int×Int):Bool:=decide (x.1<y.1)
def pD (l:List (Int×Int)):List (Int×Int):=(Sort.pdq nm l.toArray 0 l.length (Lib.bitLen l.length) true true).toList
def nY (l:List ByteArray):List ByteArray:=((l.map (·.data.toList)).mergeSort λx y=>decide (x<=y)).map λb=>⟨b.toArray⟩
def many (n m:Nat):Bool:=n==m&&Nat.blt 12 n&&roomy n
def k7 (q:Nat) (args:List AV) (hp:Hp):Option (AV×Hp):=
 match args with
 |[.own id 0 n aC]=>match get hp id with
  |some (.buf v e es)=>if q==1000000&&v==aC&&e==1&&many n es.length then match lF DF es with
   |some l=>some (.bD [],set hp id (.buf v 1 ((nY l).map zT)))
   |none=>none
   else none
  |_=>none
 |[.own id 0 n aC,.iv (.fn c [])]=>match get hp id with
  |some (.buf v e es)=>if q==2000000+c&&v==aC&&e==2&&many n es.length then match lF DE es with
   |some l=>some (.bD [],set hp id (.buf v 2 ((pD l).map zS)))
   |none=>none
   else none
  |_=>none
 |_=>none
def aZ (prog:Nat->Option aA):Nat->Nat->List AV->Hp->Option (AV×Hp)
 |0,_,_,_=>none
 |k+1,g,args,hp=>match prog g with
  |none=>none
  |some fn=>match fn.cl with
   |some p=>if Nat.blt p.1 1000000 then(nX p.1 args).run hp else match k7 p.1 args hp with
    |some r=>some r
    |none=>if args.length=fn.np then
     match bd (aZ prog k) k fn.body ⟨params args 0,hp,1000⟩with
     |some (.norm,s) | some (.ret,s)=>(ck s.fr fn.res).run s.hp
     |_=>none
    else none
   |none=>if args.length=fn.np then
    match bd (aZ prog k) k fn.body ⟨params args 0,hp,1000⟩with
    |some (.norm,s) | some (.ret,s)=>(ck s.fr fn.res).run s.hp
    |_=>none
   else none
end ao
namespace ao
open Go
def V7:List (Nat×Nat):=[(694,0),(330,1)]
def V8:List (Nat×Nat):=[(564,0),(181,1),(71,4),(64,3),(56,2),(48,16),(16,5),(9,17),(8,7),(7,15)]
def V9:List (Nat×Nat):=[(128,1),(125,0),(100,2),(90,3),(80,5),(76,32),(60,7),(59,6),(51,4),(40,9),(38,8),(33,10),(31,11),(21,12),(13,16),(12,14),(11,13),(7,20),(6,15),(6,18),(5,22),(5,29),(4,25),(3,17),(3,19),(3,23),(3,26),(3,27),(2,21),(2,24),(2,31),(1,28),(1,30)]
def Wa:List (Nat×Nat):=[(803,1),(221,0)]
def Wb:List (Nat×Nat):=[(967,0),(57,1)]
def Wc:List (Nat×Nat):=[(852,1),(172,0)]
def Wd:List (Nat×Nat):=[(1023,0),(1,1)]
def Dp:List (Nat×Nat):=[(1024,1)]
def uv:List (Nat×Nat):=[(421,1),(370,2),(114,3),(50,4),(47,0),(20,5),(2,6)]
def We:List (Nat×Nat):=[(986,0),(38,1)]
def RN:List (Nat×Nat):=[(512,1),(460,0),(52,5)]
def RP:List (Nat×Nat):=[(155,4),(132,6),(112,5),(92,2),(72,8),(65,3),(62,30),(57,7),(44,10),(42,9),(40,11),(25,12),(17,1),(17,13),(13,0),(12,14),(12,16),(10,15),(10,18),(5,17),(5,20),(3,19),(3,21),(3,23),(3,25),(3,26),(3,27),(3,29),(2,22),(2,24)]
def RQ:List (Nat×Nat):=[(1002,0),(17,1),(5,2)]
def RR:List (Nat×Nat):=[(538,0),(264,8),(89,2),(72,1),(21,3),(15,5),(14,4),(7,6),(4,7)]
def bJ:List (Nat×Nat):=[(540,1),(144,0),(142,7),(89,2),(43,3),(25,4),(22,5),(19,6)]
def RS:List (Nat×Nat):=[(253,0),(231,1),(208,2),(120,3),(34,4),(23,5),(18,6),(13,7),(12,8),(10,9),(9,10),(9,11),(9,12),(9,13),(7,14),(6,15),(6,16),(6,17),(4,18),(4,19),(3,20),(3,21),(3,22),(3,23),(3,24),(3,25),(1,26),(1,27),(1,28),(1,29),(1,30),(1,31),(1,32),(1,33),(1,34),(1,35),(1,36),(1,37),(1,38),(1,39),(1,40)]
def RT:List (Nat×Nat):=[(258,0),(226,1),(216,2),(194,3),(75,4),(22,5),(22,6),(11,7)]
def KD:List (Nat×Nat):=[(517,1),(160,2),(119,3),(61,4),(55,7),(46,5),(38,0),(28,6)]
def KE:List (Nat×Nat):=[(264,0),(243,1),(174,2),(86,3),(83,4),(55,5),(52,6),(52,7),(8,8),(5,9),(2,10)]
def KG:List (Nat×Nat):=[(1011,0),(13,1)]
def RU:List (Nat×Nat):=[(546,0),(273,1),(137,2),(68,3)]
def tw:List (Nat×Nat):=[(485,1),(382,0),(61,2),(29,4),(25,3),(11,12),(11,14),(4,5),(4,6),(4,7),(4,8),(4,15)]
def KH:List (Nat×Nat):=[(512,0),(512,1)]
def KI:List (Nat×Nat):=[(997,0),(27,1)]
def KJ:List (Nat×Nat):=[(611,7),(225,0),(99,1),(26,5),(22,2),(20,6),(11,4),(10,3)]
def KK:List (Nat×Nat):=[(894,1),(56,0),(34,2),(23,3),(9,7),(6,4),(2,5)]
def KM:List (Nat×Nat):=[(716,1),(121,4),(59,16),(35,2),(28,3),(28,7),(24,12),(7,5),(3,15),(3,17)]
def KN:List (Nat×Nat):=[(317,1),(257,0),(172,2),(112,3),(58,6),(52,4),(22,5),(17,12),(15,14),(2,15)]
def KO:List (Nat×Nat):=[(680,2),(99,4),(78,5),(63,11),(53,3),(15,21),(9,6),(5,17),(4,14),(4,16),(3,7),(3,26),(2,15),(2,29),(2,31),(1,12),(1,24)]
def KQ:List (Nat×Nat):=[(263,2),(212,0),(124,4),(87,1),(76,6),(56,10),(51,5),(42,8),(29,7),(19,3),(16,14),(9,13),(8,20),(7,15),(4,17),(4,22),(3,9),(3,18),(3,23),(1,12),(1,16),(1,24),(1,25),(1,26),(1,28),(1,33),(1,36)]
def KR:List (Nat×Nat):=[(902,0),(83,2),(28,19),(11,12)]
def KT:List (Nat×Nat):=[(959,5),(57,3),(8,12)]
def KU:List (Nat×Nat):=[(967,3),(37,12),(11,5),(9,20)]
def KV:List (Nat×Nat):=[(297,2),(168,4),(144,7),(119,8),(74,5),(31,3),(25,14),(25,15),(25,16),(20,17),(13,6),(11,0),(11,13),(10,10),(10,12),(7,1),(7,9),(4,24),(4,27),(4,28),(4,30),(3,18),(3,20),(3,22),(1,25),(1,32)]
def KW:List (Nat×Nat):=[(329,2),(195,0),(72,1),(72,9),(70,4),(65,3),(43,5),(24,12),(24,13),(18,18),(15,15),(14,7),(13,16),(12,6),(11,11),(10,17),(9,19),(6,14),(3,10),(2,8),(2,20),(2,22),(2,25),(1,21),(1,23),(1,24),(1,27),(1,28),(1,29),(1,30),(1,32),(1,34),(1,35),(1,37)]
def KX:List (Nat×Nat):=[(793,0),(231,2)]
def KY:List (Nat×Nat):=[(1003,0),(20,2),(1,1)]
def KZ:List (Nat×Nat):=[(973,1),(12,3),(12,4),(6,2),(6,5),(6,6),(6,7),(3,0)]
def zU:List (Nat×Nat):=[(489,0),(278,1),(135,2),(74,3),(28,4),(17,5),(3,6)]
def K6:List (Nat×Nat):=[(369,0),(296,1),(81,2),(74,3),(69,4),(58,5),(30,6),(27,7),(19,8),(1,9)]
def zV:List (Nat×Nat):=[(422,4),(331,2),(117,6),(45,3),(32,0),(26,5),(19,8),(13,7),(13,9),(6,1)]
def K7:List (Nat×Nat):=[(927,0),(97,1)]
def K8:List (Nat×Nat):=[(455,2),(343,1),(130,3),(45,4),(32,0),(13,5),(6,6)]
def K9:List (Nat×Nat):=[(908,1),(58,2),(52,0),(6,3)]
def RV:List (Nat×Nat):=[(322,0),(223,1),(220,2),(59,3),(26,4),(26,5),(20,6),(20,7),(18,8),(15,9),(13,10),(10,11),(8,12),(5,13),(5,14),(5,15),(5,16),(3,17),(3,18),(3,19),(3,20),(3,21),(3,22),(3,23),(3,24)]
def RW:List (Nat×Nat):=[(257,0),(117,1),(104,2),(104,3),(78,4),(65,5),(65,6),(52,7),(39,8),(26,9),(26,10),(13,11),(13,12),(13,13),(13,14),(13,15),(13,16),(13,17)]
def Ix (n:Nat):List Char->Nat
 |[]=>n
 |c::l=>Ix (n*64+(if c.toNat<92 then c.toNat - 58 else c.toNat - 59)) l
def Dq (_:Prop):Prop:=True
structure Dr where
 s:Nat
 m:List Nat
 l:List Nat
 d:List Nat
 c:List (Nat×Nat)
def cF (α:Type):=Nat->Dr->α×Nat×Dr
section
variable {α β γ δ ε ζ:Type}
def fW (x:α):cF α:=λn s=>(x,n,s)
def cO (x:cF α) (f:α->cF β):cF β:=λn s=>match x n s with
 |(a,n,s)=>f a n s
def dU (f:α->β) (x:cF α):cF β:=λn s=>match x n s with
 |(a,n,s)=>(f a,n,s)
def dY (f:α->β->γ) (x:cF α) (y:cF β):cF γ:=cO x λa=>dU (f a) y
def kC (f:α->β->γ->δ) (x:cF α) (y:cF β) (z:cF γ):cF δ:=cO x λa=>dY (f a) y z
def lP (f:α->β->γ->δ->ε) (x:cF α) (y:cF β) (z:cF γ) (w:cF δ):cF ε:=cO x λa=>kC (f a) y z w
def nZ (x:cF α):Nat->cF (List α)
 |0=>fW []
 |k+1=>dY .cons x (nZ x k)
end
def Pk:List (Nat×Nat)->Nat->Nat->Dr->Nat×Nat×Dr
 |(f,y)::t,r,n,s=>if r<f then(y,f*n+r,s) else Pk t (r - f) n s
 |[],r,n,s=>(0,n+r,s)
def fi (t:List (Nat×Nat)):cF Nat:=λn s=>Pk t (n % 1024) (n / 1024) s
def zW (k:Nat):cF Nat:=λn s=>(n % k,n / k,s)
def ey (e:Nat) (t:List (Nat×Nat)):cF Nat:=cO (fi t) λx=>if x=e then dU (λy=>x+y) (zW 1024) else fW x
def Pl (v:Nat):cF Nat:=λn s=>(v,n,{ s with m:=v::s.m })
def Iy (x:Nat):cF Nat:=λn s=>(s.s - x,n,s)
def mE:cF Bool:=dU (λx=>x==1) (fi V7)
def gu:cF Nat:=(ey 17 V8)
def M7:cF Nat:=(ey 32 V9)
def Pm (x:Nat):List Nat->List Nat
 |[]=>[x]
 |y::l=>if x<y then x::y::l else if x=y then y::l else y::Pm x l
def Iz (l d:List Nat):List Nat->cF (List Nat)
 |[]=>fW []
 |x::c=>cO (fi (if l.contains x then Wa else if d.head?==some x then Wc else Wb)) λk=>if k=1 then dU (λr=>x::r) (Iz l d c) else Iz l d c
def xO:cF (List Nat):=cO (fi Wd) λe=>cO (if e=0 then λn s=>Iz s.l s.d (s.d.foldl (λl x=>Pm x l) s.l) n s else cO (ey 1 Dp) (nZ (ey 1 Dp))) λr n s=>(r,n,{ s with l:=r })
def IA:cF (List Nat):=cO (ey 6 uv) (nZ (ey 1 We))
def Pn:cF (Option (Nat×Bool)):=cO (fi RN) λx=>if x=0 then fW none else dY (λv b=>some (v,b)) (if x<5 then Iy x else M7) mE
def Po (x:Nat):cF (Option Nat):=if x=0 then λn s=>(some s.s,n,s) else if x=1 then fW none else dU some (ey 30 RP)
def Pp (c:List (Nat×Nat)):List Nat->Nat
 |[]=>0
 |v::m=>((c.lookup v).getD 0) ||| Pp c m
def Pq:Nat->List Nat->List Nat
 |0,l=>l
 |n+1,l=>Pq n (n::l)
def ID:Nat->Nat->Nat->List Nat->List Nat
 |0,_,_,l=>l
 |i+1,w,a,l=>if a+1=w then Pq (i+1) l else if w / 2<=a then ID i (w / 2) (a - w / 2) (i::l) else ID i (w / 2) a l
def Wf (w:Nat):cF Nat:=cO (fi RQ) λk=>if k=0 then λn s=>(Pp s.c s.m,n,s) else if k=1 then fW (w - 1) else zW w
def Pr (dr:Bool) (i w:Nat) (d:Option Nat) (x:Nat):cF (List Nat):=cO (if dr then Wf w else fW 0) λa n s=>(if a=0 then[] else ID i w a [],n,match d with
  |some v=>⟨if x=0 then s.s+1 else s.s,[],s.l,if s.d.contains v then s.d else v::s.d,if dr then(v,a+w)::s.c else[]⟩
  |none=>s)
def Ds:cF Unit:=cO (fi RR) λx=>cO (if x<8 then fW 0 else zW 1024) λr n s=>((),n,⟨if x<8 then s.s+x else r,[],s.l,[],[]⟩)
def Ps (k d:Nat):Nat:=if k=2 then(if d=0 then 1 else 2) else if k=10 then 3 else if k=5 then 4 else if k=3 then 5 else 6
def IE:Nat->IV
 |0=>.bool false
 |1=>.int .i64 1
 |2=>.int .i64 0
 |3=>.bool true
 |4=>.int .i64 4
 |5=>.int .i64 8
 |6=>.int .i64 2
 |7=>.int .i64 9223372036854775807
 |8=>.int .i64 100
 |9=>.int .u64 0
 |10=>.int .i64 (-1)
 |11=>.int .i64 (-9223372036854775808)
 |12=>.int .u64 18446744073709551615
 |13=>.str ⟨#[]⟩
 |14=>.int .i64 20
 |15=>.int .i64 16
 |16=>.int .i64 3
 |17=>.int .i64 6
 |18=>.int .i64 40
 |19=>.int .u64 10
 |20=>.int .i64 1000000
 |21=>.int .i64 12
 |22=>.int .u64 16
 |23=>.int .u64 48
 |24=>.int .u64 8
 |25=>.str ⟨#[0,1,2,2,3,3,3,3,4,4,4,4,4,4,4,4,5,5,5,5,5,5,5,5,5,5,5,5,5,5,5,5,6,6,6,6,6,6,6,6,6,6,6,6,6,6,6,6,6,6,6,6,6,6,6,6,6,6,6,6,6,6,6,6,7,7,7,7,7,7,7,7,7,7,7,7,7,7,7,7,7,7,7,7,7,7,7,7,7,7,7,7,7,7,7,7,7,7,7,7,7,7,7,7,7,7,7,7,7,7,7,7,7,7,7,7,7,7,7,7,7,7,7,7,7,7,7,7,8,8,8,8,8,8,8,8,8,8,8,8,8,8,8,8,8,8,8,8,8,8,8,8,8,8,8,8,8,8,8,8,8,8,8,8,8,8,8,8,8,8,8,8,8,8,8,8,8,8,8,8,8,8,8,8,8,8,8,8,8,8,8,8,8,8,8,8,8,8,8,8,8,8,8,8,8,8,8,8,8,8,8,8,8,8,8,8,8,8,8,8,8,8,8,8,8,8,8,8,8,8,8,8,8,8,8,8,8,8,8,8,8,8,8,8,8,8,8,8,8,8,8,8,8,8,8,8]⟩
 |26=>.fn 51 []
 |27=>.int .i64 100000
 |28=>.int .i64 120
 |29=>.int .i64 300
 |30=>.int .i64 32
 |31=>.int .i64 7
 |32=>.int .u32 256
 |33=>.int .u32 65536
 |34=>.int .u64 1
 |35=>.int .u64 256
 |36=>.int .u64 32
 |37=>.int .u64 4294967296
 |38=>.int .u64 65536
 |39=>.str ⟨#[126]⟩
 |_=>.str ⟨#[45]⟩
def cN (t:List (Nat×Nat)):cF bf:=cO (fi t) λx=>if x=0 then dU (λk=>.c (IE k)) (fi RS) else dU .t (cO (if x<7 then Iy x else M7) Pl)
def IF:Nat->List IV
 |0=>[.bool false,.aV 2,.bool false,.aV 1]
 |1=>[.int .i64 0,.int .i64 0]
 |2=>[.bool false,.aV 2,.bool false,.aV 1,.bool false,.aV 2,.bool false,.aV 1,.bool false,.aV 2,.bool false,.aV 1,.bool false,.aV 2,.bool false,.aV 1]
 |3=>[.int .i64 0,.int .i64 0,.str ⟨#[]⟩]
 |4=>[.str ⟨#[]⟩]
 |5=>[.int .i64 0]
 |6=>[.int .u8 0]
 |_=>[.int .i64 0,.int .i64 0,.int .i64 0,.int .i64 0,.int .i64 0,.int .i64 0,.int .i64 0,.bool false,.aV 2,.bool false,.aV 1,.aV 7,.int .i64 0,.int .i64 0,.str ⟨#[]⟩,.int .i64 0,.int .i64 0,.str ⟨#[]⟩,.int .i64 0,.int .i64 0,.str ⟨#[]⟩,.int .i64 0,.int .i64 0,.str ⟨#[]⟩]
def s8:cF (List IV):=dU IF (fi RT)
def rG:cF (List bf):=cO (ey 6 uv) (nZ (cN KD))
def IG:Nat->BinOp
 |0=>.add
 |1=>.lss
 |2=>.eql
 |3=>.gtr
 |4=>.sub
 |5=>.geq
 |6=>.leq
 |7=>.neq
 |8=>.shr
 |9=>.quo
 |_=>.rem
def M8:cF BinOp:=dU IG (fi KE)
def IH:Nat->UnOp
 |0=>.not
 |_=>.neg
def M9:cF UnOp:=dU IH (fi KG)
def Wg:Nat->IntKind
 |0=>.u64
 |1=>.u8
 |2=>.i64
 |_=>.u32
def Ze:cF IntKind:=dU Wg (fi RU)
def II:cF (List (Nat×bf)):=cO (ey 6 uv) (nZ (dY .mk (ey 15 tw) (cN bJ)))
def IJ:cF (List (Nat×Nat×bf)):=cO (ey 6 uv) (nZ (dY .mk (ey 15 tw) (dY .mk (ey 15 tw) (cN bJ))))
def DG:cF (Option bf):=cO (fi KH) λx=>if x=0 then fW none else dU some (cN bJ)
def IK:cF bf:=cO (fi KI) λx=>if x=0 then dU (λf=>.c (.fn f [])) (zW 512) else cN bJ
def IL (d:Nat):Nat->cF jt
 |2=>dU .eM (cN (if d=0 then KJ else KK))
 |3=>kC .load mE (ey 17 KM) (cN bJ)
 |4=>lP .bin M8 gu (cN bJ) (cN bJ)
 |5=>dY .di (ey 15 KN) (cN bJ)
 |6=>kC .dQ gu (cN bJ) (cN bJ)
 |7=>kC .call gu IK rG
 |8=>dY .len mE (cN bJ)
 |9=>kC .pick (cN bJ) (cN bJ) (cN bJ)
 |10=>dU .oY (cN bJ)
 |11=>dU .box (cN bJ)
 |12=>kC .store gu (cN bJ) (cN bJ)
 |13=>dY .un M9 (cN bJ)
 |15=>lP .qF gu s8 gu II
 |16=>dU .alloc s8
 |17=>dY .build s8 IJ
 |18=>kC .app gu (cN bJ) (cN bJ)
 |19=>dY .ext (cN bJ) gu
 |20=>lP .dn gu gu (cN bJ) (cN bJ)
 |21=>dU .Iv gu
 |22=>dY .tt Ze (cN bJ)
 |23=>lP .eu gu (cN bJ) DG DG
 |24=>dY .sk gu rG
 |25=>dY .mn (cN bJ) rG
 |26=>cO mE λa=>lP (.dB a) gu gu (cN bJ) (cN bJ)
 |27=>lP .sj mE IA (cN bJ) (cN bJ)
 |28=>dY .mx (cN bJ) rG
 |34=>dU .Cg (cN bJ)
 |35=>dY .jN (cN bJ) (cN bJ)
 |37=>kC .qG gu s8 (cN bJ)
 |_=>fW default
def IM (p:Nat):List (Nat×Nat):=match p with
 |0=>KO
 |1=>KQ
 |2=>KR
 |3=>KT
 |4=>KU
 |5=>KV
 |_=>KW
def qT (dr:Bool):Nat->Nat->Nat->Nat->Option (Nat×Bool)->cF (List aJ)
 |0,_,_,_,_=>fW []
 |f+1,i,w,p,g=>cO (fi (IM p)) λk=>if k=0 then fW [] else if k=1 then cO Pn (qT dr f i w p) else
  cO (fi (if k=12\/k=37 then Dp else if k=2 then KX else KY)) λd=>cO (Po d) λe=>
  cO (λn s=>IL d k n { s with m:=match g with
   |some q=>[q.1]
   |none=>[] }) λo=>cO (Pr dr i w e d) λa=>dU (λr=>⟨e,o,g,a⟩::r) (qT dr f (i+1) (w+w) (Ps k d) g)
def kD:Nat->cF IC
 |0=>fW .skip
 |f+1=>cO (fi K6) λx=>match x with
  |0=>dY .seq (kD f) (kD f)
  |1=>cO Ds λ_=>dY (.ff false) (qT false 9999 0 1 0 none) xO
  |2=>cO (cN KZ) λc n s=>(λl=>cO (kD f) (λa n s=>dU (.cond c a) (kD f) n { s with l:=l }) n { s with l:=l }) (match c with
   |.t v=>s.l.filter (·!= v)
   |_=>s.l)
  |3=>fW .skip
  |4=>fW .ret
  |5=>dY .block (ey 6 zU) (kD f)
  |6=>dU .exit (ey 6 zU)
  |7=>dY .loop (λn s=>xO n { s with d:=[] }) (kD f)
  |8=>cO Ds λ_=>dY (.ff true) (qT true 9999 0 1 0 none) xO
  |9=>fW .skip
  |_=>fW .skip
def IN:cF iO:=cO (fi K7) λx=>match x with
 |0=>dU .t (ey 9 zV)
 |_=>kC .cell (ey 9 zV) mE gu
def IP:cF aA:=cO (ey 6 K8) λn=>cO (cO (ey 3 K9) (nZ IN)) λr=>dU (λb=>⟨n,r,b,none⟩) λm s=>kD 9999 m ⟨n,[],List.range n,[],[]⟩
def aM {x:aA} (s:String) (_:Dq ((IP (Ix 0 s.toList) ⟨0,[],[],[],[]⟩).1=x):=by
 refine(?f:?P->Dq ?P) ?p
 case p=>set_option maxRecDepth 1000000 in conv=>lhs;cbv
 exact λ_=>trivial):aA:=x
attribute [simp] aM
def F8:aA:=aM "XGKMBl=XHfU[eXQ>JZG@oGzt:Sha;HGvTot:^Ky:;TldysVE^eoknH"
def La:aA:=aM ";?HbuISRq@lOIGb[gBQAVuMY?:K<I;MrpDUGq[sJDfeCNuwVw=RAxyywVNw"
def Lb:aA:=aM "Vht>rzK_mdABEyBygCFVRyyO<Xlf:IYzOVA;Qcyi^GR:EK:Aoqx:"
def Pt:aA:=aM "njkP:<nfBktFAV?@Y:]LzHXgzoEA]dG@ET^Mya_YSRuBN=[TODHLhpraYCmSmxOQhwgoVX``gk?Y"
def RX:aA:=aM "CKqnuT=QUFwQtO_^Nu]vf:SMwPC;DPbL@xd@oh::RwfflMjQaJmbISh[RU@rSTAktrnM_jdlptUQ>Mf`Un;u==X^ymfMkbsmkNSwu?NTd[m=K:NsgUDivBqaNAlwGX;>HklZov?vlnJr:ciDLj]ukP_aP`Jck:rRek:YnC@_r:M>ceofXCA]YTw_=E"
def GX:aA:=aM "xDbn?cjBBcVackzXE@JLXZdeQs?"
def Pu:aA:=aM ">w`bnJUyw?BuHa>c_Q>cdmK<ANO`"
def GY:aA:=aM ";StraJd=FLP[ZpmFeP=wHH=m`HPZHZ;kXmaI?Bkt>_kyCSl`a;^ERkOh_qsg[_ixvtavDX^oRBeGtDR=rpno?vXGYF@HmLd^<ABaXh]E<;L]O<FL`eC;lueb"
def RY:aA:=aM "_ZJWFd<YRBI;FkLOmRmc>CUFKPqqD;^tRqG@P><I:CtDrxQEAdeq<I<?wZrfimkF;rfWRZwf;aomllSAzLb[JrCN<EvYFI"
def DH:aA:=aM "=:LJNcq^pjAtmdtCBf:e]kd>vKczaqjP@Kzf<?`s?<WUaq`PZNMj`@X?MvOn^Bp;XcznIeHV]zooW"
def DI:aA:=aM "=j`ZaRw<CKD<>Ss<`_^gPjK?utxo:MombN[[^acEt@M@Fl?@thBIedxbQTm_MaEtIfmGTRJUNo"
def Lc:aA:=aM ";st?AYs[Qq<U^V^wRzzy<dhgHZsvVUf:[:r=Uf@lcahAvOJA^"
def RZ:aA:=aM "alxx=?wr?JKoziaNAl=NK:lodwSEttm`LJG_PnncFM>HCNPWJZALWhteuOmEvk?j?^f:?JrvgdCUCXW@r"
def F36:aA:=aM "<_`^ZBkqF:WrrMwKFKhL__rwAtur=P"
def GZ:aA:=aM "anF^Nzy;I[EGZEloFHtqM>chces:=ZTuyNhl@bnV=ENsP[dP`ZQHFdcHYXwiHpcnUC_OxVzVDHYxO]TcP;mW>eRjPsyKKXsr<wD`zMrS[VO=;VRnn<kVEysb;fEVBhCqTFsyt[^:y[cjGrLXXtrfyhTdkMX[@iMCyl@^jLpiiJcR"
def DJ:aA:=⟨1,[.t 2],
  .skip,some (2,[.int .i64 0,.int .i64 0])⟩
def Pv:aA:=aM "eCP_nwA:wq@jEZpigHhByutsmxPmtfBDcY^`]AyPG<XJvrG`XNrDnJHZWxsGo"
def G5:aA:=aM ";CAFtHd:@uP>V@CumQ`jeU<J`uwK^^"
def Ld:aA:=aM "?g=DT[@;u^[Ho]@yf?XmjXC>_Ka_JT:m_HIzcilvZCbwcDNoL`<]nN_vtyqQMUwHUgPAUosEMFYw=z;dXYsPIpd>uj^N<MvbZdbm:YcQ=ts:?cnHpwlUu^Gh<dRSRlBYdbiE>:D`ah:Y_ioE^Ae^pvWEHGZeIBQRrO;M`Trd_::aS^TqYMU"
def F42:aA:=aM ">xtxTMQiSBeGsooW]fAqU<kbpR<b[`Nmarp>scC:aMdhS:_czQ"
def Pw:aA:=aM "<jX>rpHxKor>q:TwxQX<IDWgshpqXZEhk`xpRqFgnmHclcjUCeKelmPCEERW]UW_xfLaFlkMtmrkFW[R<QyRvfVUVU"
def Px:aA:=aM "^:<On`OvL[GwhX<ZtubX<yi;PhM`wdOiBdfyHtD]@_qwa^t]MPQ?=EZpobL"
def Py:aA:=aM "^:<On`OvL[GwhX<ZtubX<yh`gTeTZxqfZO]ap[SBp:=Ih:WJNNVdmLYKITt"
def R0:aA:=aM "A=J<NCZlVA[d`YhggnZWy<bGjhpGu=rqwVAiUy]dK:dYqLGaj?Jwj]><R^@EJRKlKB=TX=XXcyPaX@QVsP:RsoPOxi[;;_EyYssAdkZnBPWuXBGzIh]XwybAtuRRnsHCDYKWoLAQnGpEe"
def R1:aA:=aM ";Bkcw^loucS<cNqk>[aJ=SW^ClENXSDopMpm`ni]RzuDQx<cxE^vpLXdpwSzha=q"
def DK:aA:=aM "=Gu@bBRQvj`ngggNHyi]ibZOsgU=Pv?ZSpBec=V^h>BACnn"
def F50:aA:=aM "N>ipBz_e:[QWh@EFd@=X`@W?k@"
def Pz:aA:=aM "Jj_M^^jgGFSL:TYg`K<f"
def Le:aA:=aM "FGH_=qc[sCN]HuDQR:aG^rH`mN:Rp?V`pc`AyFmZBosxAKneOdfGul^wAuPZVz`rtushG@Xlm[tP?Pt"
def G7:aA:=aM "Sy?cQcOEyicM<G;]"
def DL:aA:=⟨1,[.t 2],
  .skip,some (1,[.str ⟨#[]⟩])⟩
def F55:aA:=aM "w?z>UxMB<a_``;HCnl:R[UAe"
def zX:aA:=aM "a]kywjkP];wWCKBeeDl@iyYjZB@FxltZ_ayEyboVErEnG`@M@BGm:A?dpYslVtpxl?<vHVsRS?T?IHrKC_oGXHU`=uYCzMIfS_;Rxf]jIZYI[qn]i^;;RF_ecM:REb;yJeuZUUXXyrGf<>ZJ`MMLL=bgJT:rI"
def F57:aA:=aM "@_XxfaQhhSIRbJ[wEue^^sBANIT"
def Lf:aA:=aM ";qBRTH>^=dXIkYfEQhWCeCJTSfcUcftzGDZf=mN?Fyf?PkHYb_s`=sU=NVWZdqX=@eGLscd?KD[RfG[XUbGmFJjofK]FDcHkvALXNKqXpPZRijhg^?eGI[[`xlyrMnDTjsPvqxOBFHATITCSfotmIcpV_T]bq@v>b<UkM`CaiIUzElWbRmUwmx<zdUNKeoFh[FyXZYzvs;f>gTYMZVKhsgmEBR"
def R2:aA:=aM "OmfIYEV=BO>taYl^MKeJjvSzMy]u:Hu_JYscIlDUlwSkJp>j>HDMSOEfEE"
def XW:aA:=aM "BpX?;Eu:Oa@mieTu<p>p=P^GmmP=iZeb>^fPQqnw]F[nSwe"
def XX:aA:=aM "IzG<zsVXqsi:>D=rNglzd[N:_lTKd]UImsT@lus<OshHEOz:>CxV;>@lyUhVNEUSDWWUdrqNBmdJDdrQzRro?bXmt?MPYQw:g>tgDoW_i:CBO_ldBIkbmntAv`V?slVAXBahY>U;^hEO:hupLE[[]d]Mcakz@VBsr_fPb[rbNgJ>mRc<TnhitNMdemvy:av?slvZq:UuGEKUM>f^Frf]ArYiLpuz@[^bvpE_Qvtw_NQQGPmiOcCmDlsw=aADpYXQFDz[@EbT`=<jOfT`]xfW[?JacuV:tYgFmcHEBzAfsWZSddX<FL_EHR__]hHkK]Ah:?l>jb?^`NaZ_C@iduJl;zGcDr`VosHAX]o<xekQFgcJLG:zSxpjq"
def R3:aA:=aM "=OFWibWCwqYWXEwL_lRcuQ?e:"
def G8:aA:=aM "=uUYFv=drd<AL"
def DM:aA:=aM "QyCjU;r;`am;o_o:EmUjKZ[dBcYhZVmUxF:R=j?J@JVde]v^kmn"
def XY:aA:=aM "wrsDMID>ipUJbvI?ao;cAJHB@UBF;]`:qo[^g`nuC;fLpr;DslkmiEkn_HJ<yvRlnVnSxvEbrT]IwbE<pjl>dSAGs_jS=kMbld@Nr?EhGEgc`u=RAAI^PoqQFK[Kz;DpyCeksVMu@rK`IHiVN[YRez^CsfnR[XcEOew@uJ:P@i>_eKRPG[:EvQhx[maf@pJTuBGnjcKRCmW@gYhj=g^>kE@xJaYn@[qRsh?u>XU][@qUeSBSf?`e]YtTjeG>eN_RA;Y_BQv:[CP;ZiVBGY@=xF>se?Za?saOXji]N]Ionl_<^j?P;dS;bCa<;LNjFYEYiMF<a`>aRyHHv"
def PA:aA:=aM "FKSrDxNnFQl@Bz<dF@XHxmqnXi?XS`;hb^@[u]mbBQ["
def XZ:aA:=aM "REUSf`@piiQzJlUo?]JtCJtekel_hcVD?`tH[qy_gMtVwbgBO;wEMe_IAu;=CbwRGMWlKgROmYjRr<"
def R4:aA:=aM "<[_SnCOJu^lBaWN>UhfKGiHZf_^ie[B?:?LyFmpvaCtFCc]h:RKj]DKEqiz@Bof=OY>xJNL;K[`^]i;CjIZ_IgqHrB;<[CxbFGNRR=j`hePhi;@cAe_hIc=JmcLHZI`XHpjC"
def F69:aA:=aM "@r==[Z=OKO>HFJRa];jviV`_aYLXzmiF^a^TvhghTE?wa<e;FA_SX=cYvDbj"
def Lh:aA:=aM ";vAWH>tY:dcLUzX<j^A=EoFAG<kuCQ>kcUycOcsvid^oU:KMlnPhA>j]lmY@JQxh=L`I_[C==GF=F=HvL"
def R5:aA:=aM "@QeCW^Wt<zK;T`cZj_US@HMD`FiyOOeyJjOL`_BChv@=CHSYvmZKe`l:]PnPsvO<[xcxBKo`^R:r]IUquLxCZSbyg``Snuq^`fDV@;TDxslwm`Rbw;f@Ghv"
def PB:aA:=aM "SwwQ@[Z<AwR`<XfCfAD@UByH?gFQllf"
def X0:aA:=aM "BHdRs^RA]DqW@dL^tri;HlURxaH"
def Li:aA:=aM "=uUYFv=drd<AL"
def X1:aA:=aM "=mgzr:lfCl^XsUo?eoS]DUL`:Dffn_dEO[h`SpdeIxq;apcjsAmRHmHgtX^wTfdBtehqmqjgbGiOWGc;hCkta"
def R6:aA:=aM "=vBFPmIme`wtCzhZ<`Fo?ctlOlWD^AwC`QjtiLsf`qYjuB[=SybDfC::;yPaxobJlqHCKrf>h<ktbtkpDNtqE@DCCHD:pUM`jt:urjyjnsWs:ENpDz=@gBzRgvS]P_QlLSfulCl<QtQbkTeXuq?Ow<i;vLwSG>VYh_nbFTbVaPoKHpUR"
def Na:aA:=aM "SGsPXt>SypEKBPO`F^QOP@AHjU<BvXA@TUjssCqwqV;eGqF:"
def Nb:aA:=aM "SGsPXt>SypEKBPO`F^QOP@AHjU<BvXA@TUjssCqwqV;eGqF;"
def Nc:aA:=aM "LFI^q>D>IeInU_sn[NNm`JfArWoz[OcCzWik?O@chqVD_CF"
def R7:aA:=aM ";>`Upb@FBVoMfX=O^Rvmb`dFmAkFeFWqfdAYmrW:MGe:Ui;STcnfUy?VLgjXqVP?Cl_gVngo_>i"
def Bx:aA:=aM "Ovd:UG<P[cQ[Ol@vS_HSUd_@[YQMGrAJmPPvg]yatqraTFZ^?;kxq>Op`Xt`F]A:BnDtgbTydl;dGNsDzSifJtVutfOuAvyf]Cus^De@^=?ScSiV=RFdBhtSMkoNnHfMZSZLLCvY^t>_yVJK>XTWDz;u`pdQzu]t^B_hEwmwO<^;<GNjBz]Yrp^wGJhDo_puAevPguQTYjxM@DJnfCt"
def By:aA:=aM "xDbn?cjBBcVackzXE@JLXZdeQs?"
def IQ:aA:=aM "FKSrDxNnFQl@Bz<dF@XHxmqnXi?XS`;hb^@[u]mbBQ["
def R8:aA:=aM "=PnQZ>:wS_iU`?k`d<khia[pljQ^mhDhSdtTcAutcnz=vbjcxbaoIDkruyIzlZJCjZ;Ti^@oO^vJ=LovHUnVEkfX^wdGzNqqD"
def IS:aA:=aM ";Y:agO=ace?Kc:hcDt=zwKlLrNdgKPPPiXq`tYwbq@NIFwSJf@[mhqULuxrBf<wk@<rkl^KqSYF[robXTbmeb@cjlz:><VUZrn_ipmys<tFOvGIYCu>mc=USq`ydMmrf>j;RdeqX@dyHxdtceXJpMnzsLWc`@PGLOgGZOHMpQAbuLmiNKrLZm;wr>wNlSwL`w[xqqAYtVCSbYFPkGyc]TPITuV`bUduBMDq:w[?UIONgSxLcVpoT]mu[DQkEfX>DxqiEOdLVYLaNrr"
def IT:aA:=aM ";wO;_UiU:fD_b<v^_inOcp;xKlGcUY?ir]VeD_>]sJeRMyRzPQbz:snfAvLn`tpTseuRQHwuOI@RJUy^hl^:EOosFt>rDDDpc=O]pDhQ?y"
def DN:aA:=aM "?XgnI<yMOS^JOU]zJsXl?kLPK`f]_OITA_SUpJeY<iVB"
def Bz:aA:=aM ";a:<zJCVz=NRLCUDXSTSAH<gZaY:X<UB?a?AWub^NbUgGB@z;zlDINpDR"
def DO:aA:=aM "quuLa<Qcayc@TeFDC:O;M;u`<wcIZEe^V]Fn]cnYivPCEqW^jpea:yIdqKt>MIbAsBd^Pb"
def R9:aA:=aM "EsdlNwsB_agkxnKaFXmppSzF?CwssVGk[gRPqwegbP=d<y;S;qMArUQ=F@Jl?YGvzHSLvPyLDjaxXxp_lNBhkEbhCuR:v"
def Sa:aA:=aM "bGxKE:iFR`:Jzk?vcn=J"
def Sb:aA:=aM "BQrFyslGU^lMsHPsA`P"
def IU:aA:=aM "HN@nBMX:RypFzDQnvDKSzdqka`zLNvTFlOs]lDQlf^XIeUp;Tdz^XvMGHA]L?DsULnRCEXo`CX<AewbsR_eBEcISXbqc;HuES<HZjHWGTi<b:jdmt?EMO^NO="
def Zf:aA:=aM "Du`ABWwIl?GX^VJh`HdBrYMIjI^aPiRNtVdoVuqh_@ZqhwuPUpmvdnC=gpx>DwsADVE>wRv<u"
def Zg:aA:=aM "CTrs@xBBHtYYaQMH;qkZ:dxBxhfYf<[Iw;Au_awDFvpNKk>xtIohYcMYPklWgFz>Y"
def Zh:aA:=aM "Dc?>GnNZsZku>xx?aWHy<TomgTWQ;vr>ntS^^qRPuU>TfWnn^Fn?jqTIjVgbhgaJiBzqaaN^=w;llzBePKMXKBRwfedO`JT<^S[[j?dF^DJhiyOlI[dfbE:w`;"
def Zi:aA:=aM "D:I<MuQ[lCP^J[[^WZiTDL[[DWdR_nXYa[CTZv=gfhcM?[JT:IiFJomnIQ:_B"
def Nd:aA:=aM "Aek=Je=rd?LHChm@BfYd_N@sbpFA;<nugaDqk"
def Nf:aA:=aM "?eRpZTpi>OTqOOrCA=MM@HpdNm?iyHO;bbtlpDsjMDv<PTRn`t=rQSnq]n<@PMzGNxJGrFX_DJ@R[nrZus:`"
def BA:aA:=aM "Z`y_XGhXCtsPltJkadhY:utiy^]^y"
def Ng:aA:=aM "Rs=DarHrqC:niMbgpT>dvAusMjgUHK^BOhVd=X?T`Ej`iwA"
def BB:aA:=aM ">yDh:]`KsrEIbuXJLsR[NjsHYnPXFyLyxQRsDH]V^]yGPE]cU^;Hs?[]o?[kJRGp:Q`]T>iE?DvqItCr^yjPkIFpP`yelSsdcaeI]C==ud"
def Nh:aA:=aM "NWnHd`gOxyhQ[uHHUleY@SwJPpGvf@GmstefVimUPJZendPtlSVt;Uf@eGwuiH?eBOWcltD[wqDPb@<tNop]ZtVL^e;xmk_mEGqLRnGqbwVorjxLsPQlchg;]X>mxUmq[srXpM=kDtME^`BSqi`iychktroDHU_`KAzZr:yS[VBTj==nRhhpKtZsVsC=qs;"
def Sc:aA:=aM ";FXc^grechvrLYjINh=fpw;fm^YUbr>Bb=<[b@?VAr;`Lxm;sEIA]El:hJ>k]OX<gNAuVfh[AFCR[=hRkKNscUceHl=ZnKHCQIMrad^SLy?="
def Sd:aA:=aM "Hc]b;UR[sjERpTPp=Noh`=N?di<dtY"
def Se:aA:=aM "vi>FSpKG<;t]eIW_v:anS@@a>V"
def Ni:aA:=aM "CZ`CQV[HbXCMzgvz^YcZWP_PqCtvzGepKsHaDRygD]rsIy<HBij_neWo^vBk"
def DP:aA:=aM "=qMP]U^M?NveJI^O@<[bwMt=tkn>?==SyyafzVX`mDzEIXhUQ>lsSHrL;UX>]QcAflnkHBWneopVfIgUtpEs"
def IW:aA:=aM "Sy?cQcOImCg?LP[J"
def Sf:aA:=aM "Sy?cQcOImDQWezK_"
def Sg:aA:=aM "Sy?cQcOImDQWezK`"
def DQ:aA:=aM "I]oIhHxYwTePZtqwQi@sJYKnViZCSRXh@IGX>oBmigqRVIVeNwnl;"
def Si:aA:=aM "DkZE`zg:a;@DsS`Aml?XykShtDat`fZsfdjo]APec[yiCWuWmJz?;"
def Sj:aA:=aM "QyCjU;r;`am;o_o:EmUjKZ[dBcYhZVmUxF:R=j?J@JVde]v^kmn"
def vU:aA:=aM "TCQH:gr^JOkUKd:^GAsgvSTa>ltyrKb[<fYAIfiRlEbDestK^;qBDCPGTC?mGW[jGQVR[v`CskhKffg:O<coAfq=l"
def vV:aA:=aM "MltwbeYhY;WS>K:<?YLQybjrAfMTd>yKkPU:`KzyNTgTd;`O]A;LRhAw?Px>OpLsj_@YNGQImj<L;goKluSY@PmvbJ]p"
def IY:aA:=aM "A_bWyjaTSg<NWht;RAO`AHLr>B=;g>l<_zWwswMFyPeWT=IuL"
def IZ:aA:=aM "KNFZSOaYMy<X_JzO]yLoLJTZvUX;`bxfuW"
def Nj:aA:=aM "EcVndoDrHl>=yU<eV]zFGuVd`"
def DS:aA:=aM ";NNi<n`QV[a=CdL^kK?NtqyXKetBR;wHaDDZleJBuEdRpw;M`rfRhf[<qxsl=ebFOhXtXEagxzmzUuJuCvi[@rKy?ObZi;gYdWhD=_YM[lx_BGFfPfFm:WLtuNdNoJGiTorEWnSWlWvRcBcAAp_ZPmHFIIMWRmcbrhjTUNm=JcW??m?n_dAzPuNefNulwZFT;buMcsTx[c^jjeVZvcpGlH^KBZdzzDSp"
def DT:aA:=aM "[>K^YS[`VL[?RmxBEqAQYTdIK`aUffekI_f<^eURGAqqE^HBUCPFCe[CEfyKgMR>fiZO`:GBZ"
def I0:aA:=aM "?=jAeVkhXKZsdOnKejpqJ[WVJ:MPtGwRF_aHt=XJ?wSjomvjxZa[]xEOlqPoZSqlNY^YX]M"
def vW:aA:=aM ";cDj?RMD=;hRdpTSlFLxd=qqcdeFqCNpKzHiySnOh:QWBxFflrfh>BtSYyaTD^gNPqaHur_Wd_CNFacJOdD"
def Zj:aA:=aM ">CA`a:lAZWBm=UiDQx_FWGdHbnO;mNj>f=:xaDGmEWh=xeZFLww;W]njO"
def DU:aA:=aM "C_=EK:JFtCZNQhk@njUetCOI:`pt_m@Sn>UQXI[aRlsvIlJadifgx=qZb;[`Ug^dh>d=KJ:qO_WtlgInoQwsUye[maY@D:QedkZ]KUBI;G@dHDN[cKN]hhZ>FdxlCZwfnd?[IqJk[YGtlT_@ILr`D_RzK]erUwToa=MxhvKnDvpwHUuUNUhE>uMMXzjFY`[U_UFzV[eDVZHp^JEq]xn>a@@Naw<mKsFWpHXqmEqNMir>qjZMYz^=>jJNT_hx]nKcWSGLISwWJCVp=YQFd?erOZ<fi@CJBDE[`:;mLl;dATopyC`TfAq]"
def iC:aA:=aM ";WoP=tYfDrIPeXvn;<sSwq<O<RNWcb;xpI`ITx:nWgHZInFnwcRlTnbvvO<m^@lWvR]etMrGDVI]_wQERqZY__zgOFKFmpwDWAqfjZ`nY<lnE@W?Ad;q?z@@gUHNTz?OI>ZOrb:HaU:SwRShluTCxMqnTnSU<cr?oAuh@ty>sNh=GuIPC[FMJcMAenLfJx;`?YpTT[VXCDwz;=bpzNOXuLQUu`WAbQSV^?IvTlwB?u]AQVHXyGKgo>TNBj>l^uVppGnmLeW;kEu^bMwkySizLMUMJ=rCddSNKRt`tSz:DX>CD;=`?rGUaXtMS]MjzKuvgEqSN`OtVZfLatNwFOcALplQHRMDCV?UX>]qz`Ij=PiaHJv_XP[];dhS`Ss=slsbVwxQikAwzovyRGX[HiPkThGjulkGAyONhTA:p_"
def BC:aA:=aM "DqdbpJ`JoVfM:LRu>OFzyDG^I[i^c]rcHQS:NkQ:TzYzlIVpvtcKY;Tvv;YQXo`BtYb^bhbIpgtQ:m>u^P?Z<Zjzunv_iSIfbu:neAHYZCn?h?[yodUY];w@pgX]h]DFGa_TWEVC:Vn=cFW_TsKcbBldp;:XquwzC?IzZB:;j"
def DV:aA:=aM "=]aQ;uShrbvYAJ_RNSsvwmipUYxuGEZ[k_j:EkcwxeFZD=ZNwdfEMmrstIMYKHji:dSh[UMCIUbunD>v`tw^;Ax^=hee`@kgWCKRsD>TOd?TtTBoVJOOhMRB>SCX:bWyxGlMZXGwtnVuD[`FFLjvETBRGr]AIVkEgyUsyQ`oxr<uRA:_yKuCf@"
def I3:aA:=aM "FaLVOXuNVEJw:_>VYNgS^eYNeQccJo;ZxGfAZ]BmwAe`:_y=MBl<edCYI[eODDu@ivjnA"
def Nk:aA:=aM ";AAdrOaQTzwG;ZMtfMWHcVqPThj?uOyfBlThsBIMqlvDYfchHg@quaWdFOtLxrzrOeex;_WA;rgCg`PrSTBY^vk>hSOE;ccwkKpwW@pJmD<GIElwLUUsexwJKw?[tMj@o:q]>?oHJ<FSWmh<[ThIvtqklG?Xc>zIfn;vxkqAS]ucGktuz]dCgncT[_QEc]T<"
def I4:aA:=aM "@eYidx:ZwB[V@>>DG<ZnP<LoZEQ"
def Nl:aA:=aM ">yQZtUSUY:mg<]:>uOURz^FP?n[<w;JS:;L[c<qzimNbpsYpN<kFHTRGBLsNKjUf<YQC^NeR:bof@DwEr[MnMQZDYyr_R?bbVW>Fd=@MOuoz=UwIOKUE_NKBo=EKfwXhyxuvvYLLYyt`_=Br:vmsNjiN]?SxOa`aFMOeTtdN:t"
end ao
namespace ao
open Go Go.RowKit
theorem bU {α:Type} (h:List (Nat×α)) (n m:Nat) (x:α):get (set h n x) m=if n=m then some x else get h m:=by
 induction h with
 |nil=>simp[set,get]
 |cons y r ih=>
  simp only[set];by_cases hy:y.1=n
  ·rw[if_pos hy];simp only[get];by_cases hm:n=m
   ·simp[hm]
   ·rw[if_neg hm,if_neg hm,if_neg (by omega)]
  ·rw[if_neg hy];simp only[get,ih];by_cases hm:y.1=m
   ·rw[if_pos hm,if_pos hm,if_neg (by omega)]
   ·rw[if_neg hm,if_neg hm]
theorem ar {α:Type} (h:List (Nat×α)) (n:Nat) (x:α):get (set h n x) n=some x:=by simp[bU]
theorem aF {α:Type} (h:List (Nat×α)) {n m:Nat} (x:α) (cA:n≠m):get (set h n x) m=get h m:=by simp[bU,cA]
inductive RI (ν:Nat->Nat) (I:Nat->Prop) (w:World):Value->IV->Prop
 |bool (b:Bool):RI ν I w (.bool b) (.bool b)
 |int (k:IntKind) (n:Int):RI ν I w (.int k n) (.int k n)
 |str (s:ByteArray):RI ν I w (.string s) (.str s)
 |aV (a:Option Addr) (e:Nat):RI ν I w (.slice a 0 0) (.aV e)
 |jg (a:Option Addr) (cap e:Nat):RI ν I w (.slice a 0 cap) (.sl e [])
 |sl (b off n cap e:Nat) (es:List (List IV)) (f:Nat->Nat->Value) (hI:I b) (hn:n=es.length) (jx:n<=cap) (hl:∀c ∈ es,c.length=e)
   (hc:∀(i j:Nat) (c:List IV) (x:IV),es[i]?=some c->c[j]?=some x->w.cell? ⟨b,off+i*e+j,none⟩=some (f i j))
   (hr:∀(i j:Nat) (c:List IV) (x:IV),es[i]?=some c->c[j]?=some x->RI ν I w (f i j) x):RI ν I w (.slice (some ⟨b,off,none⟩) n cap) (.sl e es)
 |dM:RI ν I w (.pointer none) .dM
 |ptr (b off:Nat) (cs:List IV) (f:Nat->Value) (hI:I b) (hc:∀(j:Nat) (x:IV),cs[j]?=some x->w.cell? ⟨b,off+j,none⟩=some (f j))
   (hr:∀(j:Nat) (x:IV),cs[j]?=some x->RI ν I w (f j) x):RI ν I w (.pointer (some ⟨b,off,none⟩)) (.ptr cs)
 |fn (f:Nat) (caps:Array Value) (cs:List IV) (hn:caps.size=cs.length) (hr:∀(j:Nat) (v:Value) (x:IV),caps[j]?=some v->cs[j]?=some x->RI ν I w v x) :
   RI ν I w (.func (.func (ν f)) #[] caps) (.fn f cs)
 |junk (v:Value) (h:v.oneCell'=true):RI ν I w v .junk
theorem RI.mono {ν:Nat->Nat} {I I':Nat->Prop} {w w':World} (hI:∀b,I b->I' b) (hw:∀b off v,I b->w.cell? ⟨b,off,none⟩=some v->w'.cell? ⟨b,off,none⟩=some v)
  {v:Value} {x:IV} (h:RI ν I w v x):RI ν I' w' v x:=by
 induction h with
 |bool b=>exact .bool b
 |int k n=>exact .int k n
 |str s=>exact .str s
 |aV a e=>exact .aV a e
 |jg a cap e=>exact .jg a cap e
 |sl b off n cap e es f hb hn jx hl hc hr ih=>exact .sl b off n cap e es f (hI b hb) hn jx hl (λi j c x h1 h2=>hw _ _ _ hb (hc i j c x h1 h2)) ih
 |dM=>exact .dM
 |ptr b off cs f hb hc hr ih=>exact .ptr b off cs f (hI b hb) (λj x h1=>hw _ _ _ hb (hc j x h1)) ih
 |fn f caps cs hn hr ih=>exact .fn f caps cs hn ih
 |junk v h=>exact .junk v h
theorem RI.one {ν:Nat->Nat} {I:Nat->Prop} {w:World} {v:Value} {x:IV} (h:RI ν I w v x):v.oneCell'=true:=by cases h<;>first | rfl | assumption
structure Gh where
 I:Nat->Prop
 φ:Nat->Option Nat
 w:World
 h:Hp
def fq (w:World) (p:Option Nat) (e:Nat) (es:List (List IV)) (o n:Nat) (v:Value):Prop:=
 match p with
 |none=>(∃a,v = .slice a 0 0)/\n=0
 |some b=>∃x cap,v = .slice (some ⟨b,x,none⟩) n cap/\o+n<=es.length/\n<=cap/\(x=o*e\/n=0/\o≠0)/\(x=o*e->∀c,c<(o+cap)*e->(w.cell? ⟨b,c,none⟩).isSome=true)
def br (g:Gh) (v:Value) (id o n aC:Nat):Prop:=
 match get g.h id with
 |some (.buf v' e es) | some (.cm v' e es)=>aC<=v'/\(v'=aC->fq g.w (g.φ id) e es o n v)
 |_=>False
def bA (g:Gh) (v:Value) (id aC i j:Nat):Prop:=
 match get g.h id with
 |some (.cells _)=>aC=0/\i=0/\∃b,g.φ id=some b/\v = .pointer (some ⟨b,j,none⟩)
 |some (.buf v' e _) | some (.cm v' e _)=>aC<=v'/\(v'=aC->∃b,g.φ id=some b/\v = .pointer (some ⟨b,i*e+j,none⟩))
 |some (.map _)=>aC=0/\i=0/\j=0/\∃b,g.φ id=some b/\v = .map (some b)
 |none=>False
inductive RA (ν:Nat->Nat) (g:Gh):Value->AV->Prop
 |undef (v:Value):RA ν g v .undef
 |iv {v:Value} {x:IV} (h:RI ν g.I g.w v x):RA ν g v (.iv x)
 |agg {vs:Array Value} {cs:List AV} (hn:vs.size=cs.length) (h1:∀(j:Nat) (v:Value),vs[j]?=some v->v.oneCell'=true)
   (hr:∀(j:Nat) (v:Value) (c:AV),vs[j]?=some v->cs[j]?=some c->RA ν g v c):RA ν g (.agg vs) (.agg cs)
 |bD {vs:Array Value} {cs:List AV} (hn:vs.size=cs.length) (hr:∀(j:Nat) (v:Value) (c:AV),vs[j]?=some v->cs[j]?=some c->RA ν g v c):RA ν g (.tuple vs) (.bD cs)
 |own {v:Value} {id o n aC:Nat} (h1:v.oneCell'=true) (h:br g v id o n aC):RA ν g v (.own id o n aC)
 |ref {v:Value} {id aC i j:Nat} (h1:v.oneCell'=true) (h:bA g v id aC i j):RA ν g v (.ref id aC i j)
 |dg {f:Nat} {caps:Array Value} {cs:List AV} (hn:caps.size=cs.length) (hr:∀(j:Nat) (v:Value) (c:AV),caps[j]?=some v->cs[j]?=some c->RA ν g v c) :
   RA ν g (.func (.func (ν f)) #[] caps) (.dg f cs)
theorem RA.mono {ν:Nat->Nat} {g g':Gh} (hI:∀v x,RI ν g.I g.w v x->RI ν g'.I g'.w v x) (ho:∀v id o n aC,br g v id o n aC->br g' v id o n aC)
  (hr:∀v id aC i j,bA g v id aC i j->bA g' v id aC i j) {v:Value} {x:AV} (h:RA ν g v x):RA ν g' v x:=by
 induction h with
 |undef v=>exact .undef v
 |iv h=>exact .iv (hI _ _ h)
 |agg hn h1 _ ih=>exact .agg hn h1 ih
 |bD hn _ ih=>exact .bD hn ih
 |own h1 h=>exact .own h1 (ho _ _ _ _ _ h)
 |ref h1 h=>exact .ref h1 (hr _ _ _ _ _ h)
 |dg hn _ ih=>exact .dg hn ih
def Row (ν:Nat->Nat) (I:Nat->Prop) (w:World) (b e:Nat) (es:List (List IV)):Prop:=
 (∀c ∈ es,c.length=e)/\∀(i j:Nat) (c:List IV) (x:IV),es[i]?=some c->c[j]?=some x->∃v,w.cell? ⟨b,i*e+j,none⟩=some v/\RI ν I w v x
def yO (w:World) (b:Nat):Prop:=b<w.heap.size/\∀o,w.frozen? ⟨b,o,none⟩=false
def k8 (ν:Nat->Nat) (g:Gh) (id:Nat):Ob->Prop
 |.cells cs=>∃b,g.φ id=some b/\¬g.I b/\yO g.w b/\∀(j:Nat) (c:AV),cs[j]?=some c->∃v,g.w.cell? ⟨b,j,none⟩=some v/\v.oneCell'=true/\RA ν g v c
 |.buf _ e es=>(g.φ id=none/\es=[])\/∃b,g.φ id=some b/\¬g.I b/\yO g.w b/\Row ν g.I g.w b e es
 |.cm _ e es=>(g.φ id=none/\es=[])\/∃b,g.φ id=some b/\g.I b/\Row ν g.I g.w b e es
 |.map dh=>∃b es clock,g.φ id=some b/\¬g.I b/\b<g.w.heap.size/\g.w.heap[b]?=some (.map es clock)/\es.size=dh.length/\
   ∀(j:Nat) (e:MapEntry) (p:AV×AV),es[j]?=some e->dh[j]?=some p->RA ν g e.key p.1/\RA ν g e.val p.2
structure Cx where
 w:World
 I:Nat->Prop
 L:Nat->Prop
structure Rel (ν:Nat->Nat) (k:Cx) (g:Gh):Prop where
 ob:∀id o,get g.h id=some o->k8 ν g id o
 inj:∀id ed o o' b,get g.h id=some o->get g.h ed=some o'->g.φ id=some b->g.φ ed=some b->id=ed
 small:∀b,g.I b->b<g.w.heap.size
 i0:∀b,k.I b->g.I b
 i1:∀b,g.I b->k.I b\/k.L b\/k.w.heap.size<=b
 own:∀id o b,get g.h id=some o->g.φ id=some b->k.L b\/k.w.heap.size<=b
 size:k.w.heap.size<=g.w.heap.size
 os:g.w.os=k.w.os
 tape:g.w.tape=k.w.tape
 output:g.w.output=k.w.output
 bu:∀b,b<k.w.heap.size->(¬k.L b\/k.I b)->g.w.heap[b]?=k.w.heap[b]?
def bY (ν:Nat->Nat) (g g':Gh):Prop:=∀v x,RA ν g v x->RA ν g' v x
theorem bY.refl (ν:Nat->Nat) (g:Gh):bY ν g g:=λ_ _ h=>h
theorem bY.trans {ν:Nat->Nat} {a b c:Gh} (h:bY ν a b) (k:bY ν b c):bY ν a c:=λv x hx=>k v x (h v x hx)
theorem k8.block {ν:Nat->Nat} {g:Gh} {id:Nat} {o:Ob} (h:k8 ν g id o) {b:Nat} (hb:g.φ id=some b) (hs:∀b,g.I b->b<g.w.heap.size):b<g.w.heap.size:=by
 cases o with
 |cells cs=>obtain⟨b',h1,_,h3,_⟩:=h;rw[hb]at h1;cases h1;exact h3.1
 |buf v e es=>
  rcases h with⟨h1,_⟩|⟨b',h1,_,h3,_⟩
  ·rw[hb]at h1;cases h1
  ·rw[hb]at h1;cases h1;exact h3.1
 |cm v e es=>
  rcases h with⟨h1,_⟩|⟨b',h1,h2,_⟩
  ·rw[hb]at h1;cases h1
  ·rw[hb]at h1;cases h1;exact hs _ h2
 |map dh=>obtain⟨b',_,_,h1,_,h3,_⟩:=h;rw[hb]at h1;cases h1;exact h3
theorem Row.mono {ν:Nat->Nat} {I I':Nat->Prop} {w w':World} {b e:Nat} {es:List (List IV)} (h:Row ν I w b e es) (hR:∀v x,RI ν I w v x->RI ν I' w' v x)
  (hb:∀off v,w.cell? ⟨b,off,none⟩=some v->w'.cell? ⟨b,off,none⟩=some v):Row ν I' w' b e es:=
 ⟨h.1,λi j c x h1 h2=>let⟨v,hc,hr⟩:=h.2 i j c x h1 h2;⟨v,hb _ _ hc,hR _ _ hr⟩⟩
theorem c6 {w w':World} {b:Nat} (h:w'.heap[b]?=w.heap[b]?) (off:Nat):w'.cell? ⟨b,off,none⟩=w.cell? ⟨b,off,none⟩:=by simp[World.cell?,h]
theorem jw {w w':World} {b:Nat} (h:w'.heap[b]?=w.heap[b]?) (off:Nat):w'.frozen? ⟨b,off,none⟩=w.frozen? ⟨b,off,none⟩:=by simp[World.frozen?,h]
theorem Rel.world {ν:Nat->Nat} {k:Cx} {g:Gh} (r:Rel ν k g) {w':World} {I':Nat->Prop} (hI:∀b,g.I b->I' b) (pQ:∀b,I' b->g.I b\/g.w.heap.size<=b/\b<w'.heap.size)
  (hs:g.w.heap.size<=w'.heap.size) (h1:w'.os=g.w.os) (h2:w'.tape=g.w.tape) (h3:w'.output=g.w.output) (hb:∀b,b<g.w.heap.size->w'.heap[b]?=g.w.heap[b]?) :
  Rel ν k { g with I:=I',w:=w' }/\bY ν g { g with I:=I',w:=w' }:=by
 have eD:∀v x,RI ν g.I g.w v x->RI ν I' w' v x:=λv x h=>h.mono hI λb off v hi hc=>by rw[c6 (hb b (r.small b hi))];exact hc
 have hblk:∀id o b,get g.h id=some o->g.φ id=some b->b<g.w.heap.size:=λid o b ho aB=>(r.ob id o ho).block aB r.small
 have hm:bY ν g { g with I:=I',w:=w' }:=by
  intro v x hx;refine hx.mono eD ?_ ?_
  ·intro v id o n aC ho;unfold br at ho ⊢;have key:∀ob e es,get g.h id=some ob->fq g.w (g.φ id) e es o n v->fq w' (g.φ id) e es o n v:=by
    intro ob e es jI n9;cases hp:g.φ id with
    |none=>rw[hp]at n9;exact n9
    |some b=>
     rw[hp]at n9;obtain⟨x,cap,e1,e2,e3,e4,e5⟩:=n9;exact⟨x,cap,e1,e2,e3,e4,λhx c hc=>by rw[c6 (hb b (hblk id _ b jI hp))];exact e5 hx c hc⟩
   cases hg:get g.h id with
   |none=>rw[hg]at ho;exact ho.elim
   |some ob=>
    rw[hg]at ho;simp only[];cases ob with
    |cells cs=>exact ho.elim
    |buf v' e es=>exact⟨ho.1,λhv=>key _ e es hg (ho.2 hv)⟩
    |cm v' e es=>exact⟨ho.1,λhv=>key _ e es hg (ho.2 hv)⟩
    |map dh=>exact ho.elim
  ·intro v id aC i j hr;exact hr
 refine⟨⟨?_,r.inj,?_,λb h=>hI b (r.i0 b h),?_,r.own,Nat.le_trans r.size hs,h1.trans r.os,h2.trans r.tape,h3.trans r.output,λb h hl=>(hb b (Nat.lt_of_lt_of_le h r.size)).trans (r.bu b h hl)⟩,hm⟩
 ·intro id o ho;have abj:=hblk id o;have bu:=r.ob id o ho;cases o with
  |cells cs=>
   obtain⟨b,e1,e2,e3,e4⟩:=bu;refine⟨b,e1,λhi=>?_,⟨Nat.lt_of_lt_of_le e3.1 hs,λo=>by rw[jw (hb b e3.1)];exact e3.2 o⟩,λj c hc=>?_⟩
   ·rcases pQ b hi with h | h
    ·exact e2 h
    ·have:=e3.1;omega
   ·obtain⟨v,c1,c2,c3⟩:=e4 j c hc;exact⟨v,by rw[c6 (hb b e3.1)];exact c1,c2,hm _ _ c3⟩
  |buf v e es=>
   rcases bu with h | ⟨b,e1,e2,e3,e4⟩
   ·exact .inl h
   ·refine .inr ⟨b,e1,λhi=>?_,⟨Nat.lt_of_lt_of_le e3.1 hs,λo=>by rw[jw (hb b e3.1)];exact e3.2 o⟩,e4.mono eD λoff v hc=>by rw[c6 (hb b e3.1)];exact hc⟩;rcases pQ b hi with h | h
    ·exact e2 h
    ·have:=e3.1;omega
  |cm v e es=>
   rcases bu with h | ⟨b,e1,e2,e4⟩
   ·exact .inl h
   ·exact .inr ⟨b,e1,hI b e2,e4.mono eD λoff v hc=>by rw[c6 (hb b (r.small b e2))];exact hc⟩
  |map dh=>
   obtain⟨b,es,clock,e1,e2,e3,e4,e5,e6⟩:=bu;refine⟨b,es,clock,e1,λhi=>?_,Nat.lt_of_lt_of_le e3 hs,(hb b e3).trans e4,e5,λj e p h1 h2=>?_⟩
   ·rcases pQ b hi with h | h
    ·exact e2 h
    ·omega
   ·obtain⟨c1,c2⟩:=e6 j e p h1 h2;exact⟨hm _ _ c1,hm _ _ c2⟩
 ·intro b hi;rcases pQ b hi with h | h
  ·exact Nat.lt_of_lt_of_le (r.small b h) hs
  ·exact h.2
 ·intro b hi;rcases pQ b hi with h | h
  ·exact r.i1 b h
  ·exact .inr (.inr (Nat.le_trans r.size h.1))
def cG (φ:Nat->Option Nat) (s:Nat) (p:Option Nat):Nat->Option Nat:=λi=>if i=s then p else φ i
theorem aU (φ:Nat->Option Nat) (s:Nat) (p:Option Nat):cG φ s p s=p:=by simp[cG]
theorem iD (φ:Nat->Option Nat) {s i:Nat} (p:Option Nat) (h:i≠s):cG φ s p i=φ i:=by simp[cG,h]
theorem fq.same {w w':World} {p:Option Nat} {e:Nat} {es:List (List IV)} {o n:Nat} {v:Value} (h:fq w p e es o n v)
  (hw:∀b,p=some b->w'.heap[b]?=w.heap[b]?):fq w' p e es o n v:=by
 cases p with
 |none=>exact h
 |some b=>
  obtain⟨x,cap,e1,e2,e3,e4,e5⟩:=h;exact⟨x,cap,e1,e2,e3,e4,λhx c hc=>by rw[c6 (hw b rfl)];exact e5 hx c hc⟩
theorem br.alive {g:Gh} {v:Value} {id o n aC:Nat} (h:br g v id o n aC):∃ob,get g.h id=some ob:=by
 unfold br at h;cases hg:get g.h id with
 |none=>rw[hg]at h;exact h.elim
 |some ob=>exact⟨ob,rfl⟩
theorem bA.alive {g:Gh} {v:Value} {id aC i j:Nat} (h:bA g v id aC i j):∃ob,get g.h id=some ob:=by
 unfold bA at h;cases hg:get g.h id with
 |none=>rw[hg]at h;exact h.elim
 |some ob=>exact⟨ob,rfl⟩
theorem br.other {g g':Gh} {v:Value} {id o n aC:Nat} (h:br g v id o n aC) (hh:get g'.h id=get g.h id) (aB:g'.φ id=g.φ id)
  (hw:∀b,g.φ id=some b->g'.w.heap[b]?=g.w.heap[b]?):br g' v id o n aC:=by
 unfold br at h ⊢;rw[hh,aB];cases hg:get g.h id with
 |none=>rw[hg]at h;exact h.elim
 |some ob=>
  rw[hg]at h;cases ob with
  |cells cs=>exact h.elim
  |buf v' e es=>exact⟨h.1,λhv=>(h.2 hv).same hw⟩
  |cm v' e es=>exact⟨h.1,λhv=>(h.2 hv).same hw⟩
  |map dh=>exact h.elim
theorem bA.other {g g':Gh} {v:Value} {id aC i j:Nat} (h:bA g v id aC i j) (hh:get g'.h id=get g.h id) (aB:g'.φ id=g.φ id):bA g' v id aC i j:=by
 unfold bA at h ⊢;rw[hh,aB];exact h
theorem k8.other {ν:Nat->Nat} {g g':Gh} {id:Nat} {o:Ob} (h:k8 ν g id o) (aB:g'.φ id=g.φ id) (hm:bY ν g g') (eD:∀v x,RI ν g.I g.w v x->RI ν g'.I g'.w v x)
  (dZ:g.w.heap.size<=g'.w.heap.size) (hw:∀b,g.φ id=some b->g'.w.heap[b]?=g.w.heap[b]?) (hI:∀b,g.φ id=some b->(g'.I b↔g.I b)):k8 ν g' id o:=by
 cases o with
 |cells cs=>
  obtain⟨b,e1,e2,e3,e4⟩:=h;refine⟨b,aB.trans e1,λhi=>e2 ((hI b e1).1 hi),⟨Nat.lt_of_lt_of_le e3.1 dZ,λo=>by rw[jw (hw b e1)];exact e3.2 o⟩,λj c hc=>?_⟩;obtain⟨v,c1,c2,c3⟩:=e4 j c hc;exact⟨v,by rw[c6 (hw b e1)];exact c1,c2,hm _ _ c3⟩
 |buf v e es=>
  rcases h with⟨h1,h2⟩|⟨b,e1,e2,e3,e4⟩
  ·exact .inl ⟨aB.trans h1,h2⟩
  ·exact .inr ⟨b,aB.trans e1,λhi=>e2 ((hI b e1).1 hi),⟨Nat.lt_of_lt_of_le e3.1 dZ,λo=>by rw[jw (hw b e1)];exact e3.2 o⟩,e4.mono eD λoff v hc=>by rw[c6 (hw b e1)];exact hc⟩
 |cm v e es=>
  rcases h with⟨h1,h2⟩|⟨b,e1,e2,e4⟩
  ·exact .inl ⟨aB.trans h1,h2⟩
  ·exact .inr ⟨b,aB.trans e1,(hI b e1).2 e2,e4.mono eD λoff v hc=>by rw[c6 (hw b e1)];exact hc⟩
 |map dh=>
  obtain⟨b,es,clock,e1,e2,e3,e4,e5,e6⟩:=h;refine⟨b,es,clock,aB.trans e1,λhi=>e2 ((hI b e1).1 hi),Nat.lt_of_lt_of_le e3 dZ,(hw b e1).trans e4,e5,λj e p h1 h2=>?_⟩;obtain⟨c1,c2⟩:=e6 j e p h1 h2;exact⟨hm _ _ c1,hm _ _ c2⟩
theorem Rel.I5 {ν:Nat->Nat} {k:Cx} {g:Gh} (r:Rel ν k g) {s:Nat} {ob:Ob} {p:Option Nat} {w':World} (hs:get g.h s=none)
  (dZ:g.w.heap.size<=w'.heap.size) (h1:w'.os=g.w.os) (h2:w'.tape=g.w.tape) (h3:w'.output=g.w.output) (hb:∀b,b<g.w.heap.size->w'.heap[b]?=g.w.heap[b]?)
  (hp:∀b,p=some b->∀id o,get g.h id=some o->g.φ id≠some b) (bF:∀b,p=some b->k.L b\/k.w.heap.size<=b)
  (jI:bY ν g { g with φ:=cG g.φ s p,w:=w',h:=set g.h s ob }->k8 ν { g with φ:=cG g.φ s p,w:=w',h:=set g.h s ob } s ob) :
  Rel ν k { g with φ:=cG g.φ s p,w:=w',h:=set g.h s ob }/\bY ν g { g with φ:=cG g.φ s p,w:=w',h:=set g.h s ob }:=by
 have eD:∀v x,RI ν g.I g.w v x->RI ν g.I w' v x:=λv x h=>h.mono (λ_ h=>h) λb off v hi hc=>by rw[c6 (hb b (r.small b hi))];exact hc
 have hblk:∀id o b,get g.h id=some o->g.φ id=some b->b<g.w.heap.size:=λid o b ho aB=>(r.ob id o ho).block aB r.small
 have hm:bY ν g { g with φ:=cG g.φ s p,w:=w',h:=set g.h s ob }:=by
  intro v x hx;refine hx.mono eD ?_ ?_
  ·intro v id o n aC ho;obtain⟨pR,k9⟩:=ho.alive;have cA:s≠id:=λe=>by rw[<-e,hs]at k9;cases k9
   exact ho.other (aF _ _ cA) (iD _ _ (Ne.symm cA)) λb aB=>hb b (hblk id _ b k9 aB)
  ·intro v id aC i j hr;obtain⟨pR,k9⟩:=hr.alive;have cA:s≠id:=λe=>by rw[<-e,hs]at k9;cases k9
   exact hr.other (aF _ _ cA) (iD _ _ (Ne.symm cA))
 refine⟨⟨?_,?_,λb hi=>Nat.lt_of_lt_of_le (r.small b hi) dZ,r.i0,r.i1,?_,Nat.le_trans r.size dZ,h1.trans r.os,h2.trans r.tape,h3.trans r.output,λb h hl=>(hb b (Nat.lt_of_lt_of_le h r.size)).trans (r.bu b h hl)⟩,hm⟩
 ·intro id o ho;by_cases he:s=id
  ·subst he;have:ob=o:=by simpa[ar]using ho
   subst this;exact jI hm
  ·have fc:get g.h id=some o:=by rwa [show get (set g.h s ob) id=get g.h id from aF _ _ he]at ho
   exact(r.ob id o fc).other (iD _ _ (Ne.symm he)) hm eD dZ (λb aB=>hb b (hblk id _ b fc aB)) λ_ _=>Iff.rfl
 ·intro id ed o o' b ho fc aB bS;simp only[bU]at ho fc;simp only[cG]at aB bS;by_cases he:id=s
  ·by_cases fB:ed=s
   ·rw[he,fB]
   ·rw[if_pos he]at aB;rw[if_neg fB]at bS;rw[if_neg (Ne.symm fB)]at fc;exact absurd bS (hp b aB ed _ fc)
  ·rw[if_neg he]at aB;rw[if_neg (Ne.symm he)]at ho;by_cases fB:ed=s
   ·rw[if_pos fB]at bS;exact absurd aB (hp b bS id _ ho)
   ·rw[if_neg fB]at bS;rw[if_neg (Ne.symm fB)]at fc;exact r.inj id ed o o' b ho fc aB bS
 ·intro id o b ho aB;simp only[bU]at ho;simp only[cG]at aB;by_cases he:id=s
  ·rw[if_pos he]at aB;exact bF b aB
  ·rw[if_neg he]at aB;rw[if_neg (Ne.symm he)]at ho;exact r.own id o b ho aB
theorem Rel.new {ν:Nat->Nat} {k:Cx} {g:Gh} (r:Rel ν k g) {s:Nat} {ob:Ob} {p:Option Nat} {w':World} (hs:get g.h s=none)
  (dZ:g.w.heap.size<=w'.heap.size) (h1:w'.os=g.w.os) (h2:w'.tape=g.w.tape) (h3:w'.output=g.w.output) (hb:∀b,b<g.w.heap.size->w'.heap[b]?=g.w.heap[b]?)
  (hp:∀b,p=some b->g.w.heap.size<=b)
  (jI:bY ν g { g with φ:=cG g.φ s p,w:=w',h:=set g.h s ob }->k8 ν { g with φ:=cG g.φ s p,w:=w',h:=set g.h s ob } s ob) :
  Rel ν k { g with φ:=cG g.φ s p,w:=w',h:=set g.h s ob }/\bY ν g { g with φ:=cG g.φ s p,w:=w',h:=set g.h s ob }:=
 r.I5 hs dZ h1 h2 h3 hb (λb lY id o ho aB=>by have:=(r.ob id o ho).block aB r.small;have:=hp b lY;omega) (λb lY=>.inr (Nat.le_trans r.size (hp b lY))) jI
theorem Rel.nq {ν:Nat->Nat} {k:Cx} {g:Gh} (r:Rel ν k g) {s:Nat} {Lj ob:Ob} {p:Option Nat} {w':World} {I':Nat->Prop} (hs:get g.h s=some Lj)
  (eU:∀b,g.φ s=some b->¬g.I b)
  (dZ:g.w.heap.size<=w'.heap.size) (h1:w'.os=g.w.os) (h2:w'.tape=g.w.tape) (h3:w'.output=g.w.output) (hb:∀b,b<g.w.heap.size->g.φ s≠some b->w'.heap[b]?=g.w.heap[b]?)
  (hI:∀b,g.I b->I' b) (pQ:∀b,I' b->g.I b\/g.φ s=some b)
  (hp:p=g.φ s\/∃b,p=some b/\g.w.heap.size<=b)
  (hO:∀v o n aC,br g v s o n aC->br ⟨I',cG g.φ s p,w',set g.h s ob⟩ v s o n aC)
  (hR:∀v aC i j,bA g v s aC i j->bA ⟨I',cG g.φ s p,w',set g.h s ob⟩ v s aC i j)
  (jI:(∀v x,RI ν g.I g.w v x->RI ν I' w' v x)->bY ν g ⟨I',cG g.φ s p,w',set g.h s ob⟩->k8 ν ⟨I',cG g.φ s p,w',set g.h s ob⟩ s ob) :
  Rel ν k ⟨I',cG g.φ s p,w',set g.h s ob⟩/\bY ν g ⟨I',cG g.φ s p,w',set g.h s ob⟩:=by
 have eD:∀v x,RI ν g.I g.w v x->RI ν I' w' v x:=λv x h=>h.mono hI λb off v hi hc=>by
  rw[c6 (hb b (r.small b hi) λe=>eU b e hi)];exact hc
 have hblk:∀id o b,get g.h id=some o->g.φ id=some b->b<g.w.heap.size:=λid o b ho aB=>(r.ob id o ho).block aB r.small
 have ga:∀id o b,s≠id->get g.h id=some o->g.φ id=some b->g.φ s≠some b:=λid o b cA ho aB e=>cA (r.inj s id Lj o b hs ho e aB)
 have hm:bY ν g ⟨I',cG g.φ s p,w',set g.h s ob⟩:=by
  intro v x hx;refine hx.mono eD ?_ ?_
  ·intro v id o n aC ho;by_cases he:s=id
   ·subst he;exact hO _ _ _ _ ho
   ·obtain⟨pR,k9⟩:=ho.alive;exact ho.other (aF _ _ he) (iD _ _ (Ne.symm he)) λb aB=>hb b (hblk id _ b k9 aB) (ga id _ b he k9 aB)
  ·intro v id aC i j hr;by_cases he:s=id
   ·subst he;exact hR _ _ _ _ hr
   ·exact hr.other (aF _ _ he) (iD _ _ (Ne.symm he))
 refine⟨⟨?_,?_,?_,λb h=>hI b (r.i0 b h),?_,?_,Nat.le_trans r.size dZ,h1.trans r.os,h2.trans r.tape,h3.trans r.output,?_⟩,hm⟩
 ·intro id o ho;by_cases he:s=id
  ·subst he;have:ob=o:=by simpa[ar]using ho
   subst this;exact jI eD hm
  ·have fc:get g.h id=some o:=by rwa [show get (set g.h s ob) id=get g.h id from aF _ _ he]at ho
   exact(r.ob id o fc).other (iD _ _ (Ne.symm he)) hm eD dZ (λb aB=>hb b (hblk id _ b fc aB) (ga id _ b he fc aB))
    λb aB=>⟨λhi=>(pQ b hi).resolve_right (ga id _ b he fc aB),hI b⟩
 ·intro id ed o o' b ho fc aB bS;simp only[bU]at ho fc;simp only[cG]at aB bS;by_cases he:id=s
  ·by_cases fB:ed=s
   ·rw[he,fB]
   ·rw[if_pos he]at aB;rw[if_neg fB]at bS;rw[if_neg (Ne.symm fB)]at fc;have bC:=hblk ed _ b fc bS;rcases hp with hp | ⟨b',hp,ye⟩
    ·exact absurd (hp▸aB) (ga ed _ b (Ne.symm fB) fc bS)
    ·rw[hp]at aB;cases aB;omega
  ·rw[if_neg he]at aB;rw[if_neg (Ne.symm he)]at ho;by_cases fB:ed=s
   ·rw[if_pos fB]at bS;have bC:=hblk id _ b ho aB;rcases hp with hp | ⟨b',hp,ye⟩
    ·exact absurd (hp▸bS) (ga id _ b (Ne.symm he) ho aB)
    ·rw[hp]at bS;cases bS;omega
   ·rw[if_neg fB]at bS;rw[if_neg (Ne.symm fB)]at fc;exact r.inj id ed o o' b ho fc aB bS
 ·intro b hi;rcases pQ b hi with h | h
  ·exact Nat.lt_of_lt_of_le (r.small b h) dZ
  ·exact Nat.lt_of_lt_of_le (hblk s _ b hs h) dZ
 ·intro b hi;rcases pQ b hi with h | h
  ·exact r.i1 b h
  ·exact .inr (r.own s _ b hs h)
 ·intro id o b ho aB;simp only[bU]at ho;simp only[cG]at aB;by_cases he:id=s
  ·rw[if_pos he]at aB;rcases hp with hp | ⟨b',hp,ye⟩
   ·exact r.own s _ b hs (hp▸aB)
   ·rw[hp]at aB;cases aB;exact .inr (Nat.le_trans r.size ye)
  ·rw[if_neg he]at aB;rw[if_neg (Ne.symm he)]at ho;exact r.own id o b ho aB
 ·intro b h hl;have bC:=Nat.lt_of_lt_of_le h r.size;refine(hb b bC λe=>?_).trans (r.bu b h hl);rcases hl with hl | hl
  ·rcases r.own s _ b hs e with h' | h'
   ·exact hl h'
   ·omega
  ·exact eU b e (r.i0 b hl)
theorem az {α β:Type} (m:M α) (f:α->M β) (h:Hp):(m.bind f).run h=match m.run h with
  |some (a,h')=>(f a).run h'
  |none=>none:=by
 induction m generalizing h with
 |ret a=>rfl
 |fail=>rfl
 |get id k ih=>simp only[M.bind,M.run];exact ih _ _
 |put id o k ih=>simp only[M.bind,M.run];exact ih _
theorem aw {α β:Type} {m:M α} {f:α->M β} {h zY:Hp} {b:β} (e:(m.bind f).run h=some (b,zY)) :
  ∃a h',m.run h=some (a,h')/\(f a).run h'=some (b,zY):=by
 rw[az]at e;cases hm:m.run h with
 |none=>rw[hm]at e;cases e
 |some p=>rw[hm]at e;exact⟨p.1,p.2,rfl,e⟩
theorem sn {b:Bool} {h h':Hp} {u:Unit} (e:(M.ok b).run h=some (u,h')):b=true/\h'=h:=by
 unfold M.ok at e;cases b with
 |true=>simp[M.run]at e;exact⟨rfl,e.symm⟩
 |false=>simp[M.run]at e
theorem pE {id:Nat} {h h':Hp} {o:Ob} (e:(M.look id).run h=some (o,h')):ao.get h id=some o/\h'=h:=by
 simp only[M.look,M.run]at e;cases hg:ao.get h id with
 |none=>simp[hg,M.run]at e
 |some x=>simp[hg,M.run]at e;exact⟨by rw[e.1],e.2.symm⟩
theorem M.fC {id:Nat} {h h':Hp} {u:Unit} (e:(M.fresh id).run h=some (u,h')):ao.get h id=none/\h'=h:=by
 simp only[M.fresh,M.run]at e;cases hg:ao.get h id with
 |none=>simp[hg,M.run]at e;exact⟨rfl,e.symm⟩
 |some x=>simp[hg,M.run]at e
theorem bV {id:Nat} {o:Ob} {h h':Hp} {u:Unit} (e:(M.write id o).run h=some (u,h')):h'=set h id o:=by
 simp[M.write,M.run]at e;exact e.symm
theorem gN {α:Type} {x:Option α} {h h':Hp} {a:α} (e:(M.lift x).run h=some (a,h')):x=some a/\h'=h:=by
 cases x with
 |none=>simp[M.lift,M.run]at e
 |some y=>simp[M.lift,M.run]at e;exact⟨by rw[e.1],e.2.symm⟩
theorem ai {α:Type} {x a:α} {h h':Hp} (e:(M.ret x).run h=some (a,h')):x=a/\h'=h:=by
 simp[M.run]at e;exact⟨e.1,e.2.symm⟩
theorem ah {α:Type} {a:α} {h h':Hp} (e:(M.fail:M α).run h=some (a,h')):False:=by simp[M.run]at e
theorem M.aL {α:Type} {b:Bool} {f:Unit->M α} {h:Hp} {r:α×Hp} (e:((M.ok b).bind f).run h=some r):b=true/\(f ()).run h=some r:=by
 obtain⟨a,g⟩:=r;obtain⟨_,h1,e1,e2⟩:=aw e;obtain⟨hb,rfl⟩:=sn e1;exact⟨hb,e2⟩
theorem M.lift_bind {α β:Type} {x:Option β} {f:β->M α} {h:Hp} {r:α×Hp} (e:((M.lift x).bind f).run h=some r):∃a,x=some a/\(f a).run h=some r:=by
 obtain⟨a,g⟩:=r;obtain⟨y,h1,e1,e2⟩:=aw e;obtain⟨hb,rfl⟩:=gN e1;exact⟨y,hb,e2⟩
theorem M.cf {α:Type} {id:Nat} {f:Ob->M α} {h:Hp} {r:α×Hp} (e:((M.look id).bind f).run h=some r):∃o,ao.get h id=some o/\(f o).run h=some r:=by
 obtain⟨a,g⟩:=r;obtain⟨y,h1,e1,e2⟩:=aw e;obtain⟨hb,rfl⟩:=pE e1;exact⟨y,hb,e2⟩
theorem zZ {α β:Type} [Inhabited β] {cs:List α} {P:Nat->β->α->Prop} (h:∀(j:Nat) (c:α),cs[j]?=some c->∃v,P j v c) :
  ∃f:Nat->β,∀(j:Nat) (c:α),cs[j]?=some c->P j (f j) c:=by
 induction cs generalizing P with
 |nil=>exact⟨λ_=>default,λj c h=>by simp at h⟩
 |cons c cs ih=>
  obtain⟨v,hv⟩:=h 0 c rfl;obtain⟨f,hf⟩:=ih (P:=λj=>P (j+1)) λj c hc=>h (j+1) c (by simpa using hc)
  refine⟨λj=>match j with | 0=>v | j+1=>f j,λj c' hc=>?_⟩;cases j with
  |zero=>simp at hc;subst hc;exact hv
  |succ j=>exact hf j c' (by simpa using hc)
theorem pick {α:Type} {cs:List α} {P:Nat->Value->α->Prop} (h:∀(j:Nat) (c:α),cs[j]?=some c->∃v,P j v c) :
  ∃f:Nat->Value,∀(j:Nat) (c:α),cs[j]?=some c->P j (f j) c:=zZ h
theorem dx {α β:Type} {f:α->M β} {x:α} {r:List α} {h h':Hp} {ys:List β} (e:(M.aG f (x::r)).run h=some (ys,h')) :
  ∃y h1 zs,(f x).run h=some (y,h1)/\(M.aG f r).run h1=some (zs,h')/\ys=y::zs:=by
 obtain⟨y,h1,e1,e2⟩:=aw e;obtain⟨zs,h2,e3,e4⟩:=aw e2;obtain⟨rfl,rfl⟩:=ai e4;exact⟨y,h1,zs,e1,e3,rfl⟩
theorem dS {α β:Type} {f:α->M β} {h h':Hp} {ys:List β} (e:(M.aG f []).run h=some (ys,h')):ys=[]/\h'=h:=by
 obtain⟨rfl,rfl⟩:=ai e;exact⟨rfl,rfl⟩
structure ej (ν:Nat->Nat) (k:Cx) (g:Gh) (h':Hp) (I':Nat->Prop):Prop where
 rel:Rel ν k { g with I:=I',h:=h' }
 mono:bY ν g { g with I:=I',h:=h' }
 sub:∀b,g.I b->I' b
 up:∀b,I' b->g.I b\/∃id o,get g.h id=some o/\g.φ id=some b
 cells:∀id cs,get h' id=some (.cells cs)->get g.h id=some (.cells cs)
 alive:∀id,(get h' id).isSome=(get g.h id).isSome
theorem ej.refl {ν:Nat->Nat} {k:Cx} {g:Gh} (r:Rel ν k g):ej ν k g g.h g.I:=⟨r,.refl ν g,λ_ h=>h,λ_ h=>.inl h,λ_ _ h=>h,λ_=>rfl⟩
theorem ej.trans {ν:Nat->Nat} {k:Cx} {g:Gh} {h1 h2:Hp} {I1 I2:Nat->Prop} (a:ej ν k g h1 I1) (b:ej ν k { g with I:=I1,h:=h1 } h2 I2):ej ν k g h2 I2:=
 ⟨b.rel,a.mono.trans b.mono,λx hx=>b.sub x (a.sub x hx),λx hx=>by
  rcases b.up x hx with h | ⟨id,o,ho,aB⟩
  ·exact a.up x h
  ·have ha:=a.alive id;simp only[]at ho aB;rw[ho]at ha;cases hg:get g.h id with
   |none=>rw[hg]at ha;simp at ha
   |some o'=>exact .inr ⟨id,o',hg,aB⟩,
  λid cs h=>a.cells id cs (b.cells id cs h),λid=>(b.alive id).trans (a.alive id)⟩
theorem so {ν:Nat->Nat} {k:Cx} {g:Gh} (r:Rel ν k g) {id v e:Nat} {es:List (List IV)} (hg:get g.h id=some (.buf v e es)) :
  ej ν k g (set g.h id (.cm v e es)) (λb=>g.I b\/g.φ id=some b):=by
 have bu:=r.ob id _ hg;have eU:∀b,g.φ id=some b->¬g.I b:=by
  intro b aB;rcases bu with⟨h1,_⟩|⟨b',h1,h2,_⟩
  ·rw[aB]at h1;cases h1
  ·rw[aB]at h1;cases h1;exact h2
 have ht:=r.nq (s:=id) (ob:=.cm v e es) (p:=g.φ id) (w':=g.w) (I':=λb=>g.I b\/g.φ id=some b) hg eU (Nat.le_refl _) rfl rfl rfl (λ_ _ _=>rfl) (λ_ h=>.inl h) (λ_ h=>h) (.inl rfl)
  (λu o n aC ho=>by
   unfold br at ho ⊢;rw[hg]at ho;simp only[ar,aU];exact ho)
  (λu aC i j hr=>by
   unfold bA at hr ⊢;rw[hg]at hr;simp only[ar,aU];exact hr)
  (λeD _=>by
   rcases bu with⟨h1,h2⟩|⟨b,h1,h2,h3,h4⟩
   ·exact .inl ⟨(aU _ _ _).trans h1,h2⟩
   ·exact .inr ⟨b,(aU _ _ _).trans h1,.inr h1,h4.mono eD λ_ _ h=>h⟩)
 have aB:cG g.φ id (g.φ id)=g.φ:=by funext i;simp only[cG];split<;>simp_all
 rw[aB]at ht;refine⟨ht.1,ht.2,λ_ h=>.inl h,λb h=>h.imp _root_.id λh=>⟨id,_,hg,h⟩,λed cs h=>?_,λed=>?_⟩
 ·rw[bU]at h;split at h
  ·cases h
  ·exact h
 ·rw[bU];split
  ·rename_i he;subst he;rw[hg];rfl
  ·rfl
theorem s9 {ν:Nat->Nat} {k:Cx} {g:Gh} (r:Rel ν k g) {id b:Nat} {cs:List AV} {xs:List IV} (hg:get g.h id=some (.cells cs)) (aB:g.φ id=some b)
  (hx:∀(j:Nat) (x:IV),xs[j]?=some x->∃u,g.w.cell? ⟨b,j,none⟩=some u/\RI ν g.I g.w u x) :
  ej ν k g (set g.h id (.cm 0 xs.length [xs])) (λb=>g.I b\/g.φ id=some b):=by
 have bu:=r.ob id _ hg;have eU:∀b,g.φ id=some b->¬g.I b:=by
  intro b' bS;obtain⟨Sk,h1,h2,_⟩:=bu;rw[bS]at h1;cases h1;exact h2
 have ht:=r.nq (s:=id) (ob:=.cm 0 xs.length [xs]) (p:=g.φ id) (w':=g.w) (I':=λb=>g.I b\/g.φ id=some b) hg eU (Nat.le_refl _) rfl rfl rfl (λ_ _ _=>rfl) (λ_ h=>.inl h) (λ_ h=>h) (.inl rfl)
  (λu o n aC ho=>by
   unfold br at ho;rw[hg]at ho;exact ho.elim)
  (λu aC i j hr=>by
   unfold bA at hr ⊢;rw[hg]at hr;simp only[ar,aU];obtain⟨rfl,rfl,b',h1,h2⟩:=hr;exact⟨Nat.le_refl _,λ_=>⟨b',h1,by simpa using h2⟩⟩)
  (λeD _=>by
   refine .inr ⟨b,(aU _ _ _).trans aB,.inr aB,⟨λc hc=>by simp at hc;subst hc;rfl,λi j c x h1 h2=>?_⟩⟩;cases i with
   |succ i=>simp at h1
   |zero=>
    simp at h1;subst h1;obtain⟨u,c1,c2⟩:=hx j x h2;exact⟨u,by simpa using c1,eD _ _ c2⟩)
 have bS:cG g.φ id (g.φ id)=g.φ:=by funext i;simp only[cG];split<;>simp_all
 rw[bS]at ht;refine⟨ht.1,ht.2,λ_ h=>.inl h,λb h=>h.imp _root_.id λh=>⟨id,_,hg,h⟩,λed cs h=>?_,λed=>?_⟩
 ·rw[bU]at h;split at h
  ·cases h
  ·exact h
 ·rw[bU];split
  ·rename_i he;subst he;rw[hg];rfl
  ·rfl
theorem pS {ν:Nat->Nat} {J:Nat->Prop} {w:World} {p:Option Nat} {e o m:Nat} {es:List (List IV)} (aH:∀b,p=some b->J b/\Row ν J w b e es) {v:Value}
  (h:fq w p e es o m v):RI ν J w v (.sl e ((es.drop o).take m)):=by
 cases hp:p with
 |none=>
  rw[hp]at h;obtain⟨⟨a,rfl⟩,rfl⟩:=h;simpa using .jg a 0 e
 |some b=>
  rw[hp]at h;obtain⟨x,cap,rfl,h2,h3,h4,_⟩:=h;obtain⟨hI,hl,hc⟩:=aH b hp;by_cases hm:m=0
  ·subst hm;simpa using .jg _ cap e
  ·have hx:x=o*e:=h4.resolve_right λh=>hm h.1
   subst hx;have eK:∀(i:Nat) (c:List IV),((es.drop o).take m)[i]?=some c->es[o+i]?=some c:=by
    intro i c hi;rw[List.getElem?_take]at hi;split at hi
    ·rwa [List.getElem?_drop]at hi
    ·cases hi
   have I6:∀(i:Nat) (c:List IV),((es.drop o).take m)[i]?=some c->∃f:Nat->Value,∀(j:Nat) (x:IV),c[j]?=some x->w.cell? ⟨b,(o+i)*e+j,none⟩=some (f j)/\RI ν J w (f j) x:=
    λi c hi=>pick λj x hj=>hc (o+i) j c x (eK i c hi) hj
   obtain⟨F,hF⟩:=zZ I6;refine .sl b (o*e) m cap e _ F hI ?_ h3 (λc dm=>hl c (List.mem_of_mem_drop (List.mem_of_mem_take dm))) (λi j c x h1 h2=>?_) λi j c x h1 h2=>(hF i c h1 j x h2).2
   ·simp;omega
   ·have:=(hF i c h1 j x h2).1
    rwa [Nat.add_mul]at this
theorem lf {ν:Nat->Nat} {J:Nat->Prop} {w:World} {e i j b:Nat} {es:List (List IV)} {c:List IV} (hJ:J b) (aH:Row ν J w b e es) (hc:es[i]?=some c) :
  RI ν J w (.pointer (some ⟨b,i*e+j,none⟩)) (.ptr (c.drop j)):=by
 obtain⟨F,hF⟩:=pick (cs:=c) λl x hx=>aH.2 i l c x hc hx
 refine .ptr b (i*e+j) _ (λl=>F (j+l)) hJ (λl x h=>?_) λl x h=>?_
 ·rw[List.getElem?_drop]at h;have:=(hF _ x h).1
  rwa [<-Nat.add_assoc]at this
 ·rw[List.getElem?_drop]at h;exact(hF _ x h).2
theorem lZ {ν:Nat->Nat} {k:Cx} {g:Gh} (r:Rel ν k g) {id v' e o m:Nat} {es:List (List IV)} {ob:Ob} (hg:get g.h id=some ob) (jI:ob = .cm v' e es) {v:Value}
  (h:fq g.w (g.φ id) e es o m v):RI ν g.I g.w v (.sl e ((es.drop o).take m)):=by
 subst jI;refine pS (λb hp=>?_) h;rcases r.ob id _ hg with⟨h1,_⟩|⟨b',h1,hI,aH⟩
 ·rw[hp]at h1;cases h1
 ·rw[hp]at h1;cases h1;exact⟨hI,aH⟩
theorem l3 {ν:Nat->Nat} {k:Cx} {g:Gh} (r:Rel ν k g) {id v' e i j:Nat} {es:List (List IV)} {c:List IV} (hg:get g.h id=some (.cm v' e es)) (hc:es[i]?=some c) {v:Value}
  (h:∃b,g.φ id=some b/\v = .pointer (some ⟨b,i*e+j,none⟩)):RI ν g.I g.w v (.ptr (c.drop j)):=by
 obtain⟨b,aB,rfl⟩:=h;rcases r.ob id _ hg with⟨h1,_⟩|⟨b',h1,hI,aH⟩
 ·rw[aB]at h1;cases h1
 ·rw[aB]at h1;cases h1;exact lf hI aH hc
def z6 (ν:Nat->Nat) (f:AV->M IV):Prop:=
 ∀(k:Cx) (g:Gh) (a:AV) (x:IV) (h':Hp),(f a).run g.h=some (x,h')->Rel ν k g->∀v,RA ν g v a->∃I',ej ν k g h' I'/\RI ν I' g.w v x
theorem z6.list {ν:Nat->Nat} {f:AV->M IV} (hf:z6 ν f):∀(cs:List AV) (k:Cx) (g:Gh) (xs:List IV) (h':Hp),(M.aG f cs).run g.h=some (xs,h')->Rel ν k g->
  ∀V:Nat->Value,(∀(j:Nat) (c:AV),cs[j]?=some c->RA ν g (V j) c)->∃I',ej ν k g h' I'/\xs.length=cs.length/\∀(j:Nat) (x:IV),xs[j]?=some x->RI ν I' g.w (V j) x:=by
 intro cs
 induction cs with
 |nil=>
  intro k g xs h' e r V _;obtain⟨rfl,rfl⟩:=dS e;exact⟨g.I,.refl r,rfl,λj x h=>by simp at h⟩
 |cons c cs ih=>
  intro k g xs h' e r V hV;obtain⟨y,h1,zs,e1,e2,rfl⟩:=dx e;obtain⟨I1,f1,r1⟩:=hf k g c y h1 e1 r (V 0) (hV 0 c rfl);obtain⟨I2,f2,hl,r2⟩:=ih k { g with I:=I1,h:=h1 } zs h' e2 f1.rel (λj=>V (j+1)) λj c' hc=>f1.mono _ _ (hV (j+1) c' (by simpa using hc))
  refine⟨I2,f1.trans f2,by simp[hl],λj x hx=>?_⟩;cases j with
  |zero=>simp at hx;subst hx;exact r1.mono f2.sub λ_ _ _ _ h=>h
  |succ j=>exact r2 j x (by simpa using hx)
theorem nr (ν:Nat->Nat):∀n,z6 ν (fz true n):=by
 intro n
 induction n with
 |zero=>intro k g a x h' e;exact(ah e).elim
 |succ n ih=>
  intro k g a x h' e r v ha;cases ha with
  |undef=>exact(ah e).elim
  |agg=>exact(ah e).elim
  |bD=>exact(ah e).elim
  |iv hr=>
   cases hr with
   |aV a e'=>obtain⟨rfl,rfl⟩:=ai e;exact⟨g.I,.refl r,.jg _ _ _⟩
   |bool b=>obtain⟨rfl,rfl⟩:=ai e;exact⟨g.I,.refl r,.bool _⟩
   |int k' n'=>obtain⟨rfl,rfl⟩:=ai e;exact⟨g.I,.refl r,.int _ _⟩
   |str s=>obtain⟨rfl,rfl⟩:=ai e;exact⟨g.I,.refl r,.str _⟩
   |jg a c e'=>obtain⟨rfl,rfl⟩:=ai e;exact⟨g.I,.refl r,.jg _ _ _⟩
   |sl b off n' cap e' es f h1 h2 h3 h4 h5 h6=>obtain⟨rfl,rfl⟩:=ai e;exact⟨g.I,.refl r,.sl b off n' cap e' es f h1 h2 h3 h4 h5 h6⟩
   |dM=>obtain⟨rfl,rfl⟩:=ai e;exact⟨g.I,.refl r,.dM⟩
   |ptr b off cs f h1 h2 h3=>obtain⟨rfl,rfl⟩:=ai e;exact⟨g.I,.refl r,.ptr b off cs f h1 h2 h3⟩
   |fn f caps cs h1 h2=>obtain⟨rfl,rfl⟩:=ai e;exact⟨g.I,.refl r,.fn f caps cs h1 h2⟩
   |junk v h1=>obtain⟨rfl,rfl⟩:=ai e;exact⟨g.I,.refl r,.junk _ h1⟩
  |@own _ id o m aC jV ho=>
   obtain⟨ob,hg,e2⟩:=M.cf e;unfold br at ho;rw[hg]at ho;cases ob with
   |cells cs=>exact ho.elim
   |buf v' e' es=>
    obtain⟨hv,e4⟩:=M.aL e2;obtain⟨_,h3,e5,e6⟩:=aw e4;obtain rfl:=bV e5;obtain⟨rfl,rfl⟩:=ai e6;have hf:=so r hg;have gy:v'=aC:=by simpa using hv
    refine⟨_,hf,?_⟩;exact lZ hf.rel (id:=id) (ob:=.cm v' e' es) (ar _ _ _) rfl (ho.2 gy)
   |cm v' e' es=>
    obtain⟨hv,e4⟩:=M.aL e2;obtain⟨rfl,rfl⟩:=ai e4;have gy:v'=aC:=by simpa using hv
    exact⟨g.I,.refl r,lZ r hg rfl (ho.2 gy)⟩
   |map _=>exact ho.elim
  |@ref _ id aC i j gA hr=>
   obtain⟨ob,hg,e2⟩:=M.cf e;unfold bA at hr;rw[hg]at hr;cases ob with
   |cells cs=>
    obtain⟨rfl,rfl,b,aB,rfl⟩:=hr;obtain⟨-,e4⟩:=M.aL e2;obtain⟨xs,h3,e5,e6⟩:=aw e4;obtain⟨pR,iq,e8⟩:=M.cf e6;obtain⟨b',bS,eU,_,hc⟩:=r.ob id _ hg;rw[aB]at bS;cases bS;obtain⟨V,hV⟩:=pick hc;obtain⟨I1,f1,hl,hx⟩:=ih.list cs k g xs _ e5 r V λj c h=>(hV j c h).2.2
    cases pR with
    |buf _ _ _=>exact(ah e8).elim
    |cm _ _ _=>exact(ah e8).elim
    |map _=>exact(ah e8).elim
    |cells Sl=>
     have fI:=f1.cells id Sl iq;rw[hg]at fI;cases fI;obtain⟨_,h5,e9,gV⟩:=aw e8;obtain rfl:=bV e9;obtain⟨rfl,rfl⟩:=ai gV;have hlen:∀(j:Nat) (x:IV),xs[j]?=some x->∃c,cs[j]?=some c:=λj x h=>by
      have:j<xs.length:=by
       rcases Nat.lt_or_ge j xs.length with h' | h'
       ·exact h'
       ·rw[List.getElem?_eq_none h']at h;cases h
      exact⟨_,List.getElem?_eq_getElem (by omega)⟩
     have hf:=s9 (xs:=xs) f1.rel iq aB λj x h=>let⟨c,dm⟩:=hlen j x h;⟨V j,(hV j c dm).1,hx j x h⟩
     refine⟨_,f1.trans hf,?_⟩;refine .ptr b j (xs.drop j) (λi=>V (j+i)) (.inr aB) (λi x h=>?_) λi x h=>?_
     ·rw[List.getElem?_drop]at h;obtain⟨c,dm⟩:=hlen _ x h;exact(hV _ c dm).1
     ·rw[List.getElem?_drop]at h;exact(hx _ x h).mono hf.sub λ_ _ _ _ h=>h
   |buf v' e' es=>
    obtain⟨hv,e4⟩:=M.aL e2;obtain⟨c,hc,e6⟩:=M.lift_bind e4;obtain⟨_,h4,e7,e8⟩:=aw e6;obtain rfl:=bV e7;obtain⟨rfl,rfl⟩:=ai e8;have hf:=so r hg;have gy:v'=aC:=by simpa using hv
    exact⟨_,hf,l3 hf.rel (id:=id) (v':=v') (es:=es) (ar _ _ _) hc (hr.2 gy)⟩
   |cm v' e' es=>
    obtain⟨hv,e4⟩:=M.aL e2;obtain⟨c,hc,e6⟩:=M.lift_bind e4;obtain⟨rfl,rfl⟩:=ai e6;have gy:v'=aC:=by simpa using hv
    exact⟨g.I,.refl r,l3 r hg hc (hr.2 gy)⟩
   |map _=>exact(ah e2).elim
  |@dg f caps cs hn hr=>
   obtain⟨xs,h1,e1,e2⟩:=aw e;obtain⟨rfl,rfl⟩:=ai e2;obtain⟨I1,f1,hl,hx⟩:=ih.list cs k g xs _ e1 r (λj=>caps.getD j (.bool true)) λj c h=>by
    have:j<caps.size:=by
     rcases Nat.lt_or_ge j cs.length with h' | h'
     ·omega
     ·rw[List.getElem?_eq_none h']at h;cases h
    exact hr j _ c (by simp[Array.getD,this]) h
   refine⟨I1,f1,.fn f caps xs (by omega) λj v x h1 h2=>?_⟩;have:=hx j x h2
   rwa [show caps.getD j (.bool true)=v from by
    obtain⟨hj,he⟩:=Array.getElem?_eq_some_iff.1 h1;simp[Array.getD,hj,he]]at this
def z7 (ν:Nat->Nat) (f:AV->M IV):Prop:=
 ∀(k:Cx) (g:Gh) (a:AV) (x:IV) (h':Hp),(f a).run g.h=some (x,h')->Rel ν k g->∀v,RA ν g v a->
  h'=g.h/\∀J:Nat->Prop,(∀b,g.I b->J b)->(∀id o b,get g.h id=some o->g.φ id=some b->J b)->RI ν J g.w v x
theorem z7.list {ν:Nat->Nat} {f:AV->M IV} (hf:z7 ν f) (k:Cx) (g:Gh) (r:Rel ν k g):∀(cs:List AV) (xs:List IV) (h':Hp),(M.aG f cs).run g.h=some (xs,h')->
  ∀V:Nat->Value,(∀(j:Nat) (c:AV),cs[j]?=some c->RA ν g (V j) c)->h'=g.h/\xs.length=cs.length/\
   ∀J:Nat->Prop,(∀b,g.I b->J b)->(∀id o b,get g.h id=some o->g.φ id=some b->J b)->∀(j:Nat) (x:IV),xs[j]?=some x->RI ν J g.w (V j) x:=by
 intro cs
 induction cs with
 |nil=>
  intro xs h' e V _;obtain⟨rfl,rfl⟩:=dS e;exact⟨rfl,rfl,λ_ _ _ j x h=>by simp at h⟩
 |cons c cs ih=>
  intro xs h' e V hV;obtain⟨y,h1,zs,e1,e2,rfl⟩:=dx e;obtain⟨rfl,r1⟩:=hf k g c y h1 e1 r (V 0) (hV 0 c rfl);obtain⟨rfl,hl,r2⟩:=ih zs h' e2 (λj=>V (j+1)) λj c' hc=>hV (j+1) c' (by simpa using hc)
  refine⟨rfl,by simp[hl],λJ hJ kq j x hx=>?_⟩;cases j with
  |zero=>simp at hx;subst hx;exact r1 J hJ kq
  |succ j=>exact r2 J hJ kq j x (by simpa using hx)
theorem rH (ν:Nat->Nat):∀n,z7 ν (fz false n):=by
 intro n
 induction n with
 |zero=>intro k g a x h' e;exact(ah e).elim
 |succ n ih=>
  intro k g a x h' e r v ha;have up:∀{J:Nat->Prop},(∀b,g.I b->J b)->∀{v:Value} {x:IV},RI ν g.I g.w v x->RI ν J g.w v x:=λhJ _ _ h=>h.mono hJ λ_ _ _ _ h=>h
  have PC:∀{J:Nat->Prop} {b e:Nat} {es:List (List IV)},(∀b,g.I b->J b)->Row ν g.I g.w b e es->Row ν J g.w b e es:=λhJ h=>h.mono (λ_ _=>up hJ) λ_ _ h=>h
  cases ha with
  |undef=>exact(ah e).elim
  |agg=>exact(ah e).elim
  |bD=>exact(ah e).elim
  |iv hr=>
   have key:∀y:IV,(M.ret y).run g.h=some (x,h')->RI ν g.I g.w v y->h'=g.h/\∀J:Nat->Prop,(∀b,g.I b->J b)->(∀id o b,get g.h id=some o->g.φ id=some b->J b)->RI ν J g.w v x:=by
    intro y e hy;obtain⟨rfl,rfl⟩:=ai e;exact⟨rfl,λJ hJ _=>up hJ hy⟩
   cases hr with
   |aV a e'=>exact key _ e (.jg _ _ _)
   |bool b=>exact key _ e (.bool _)
   |int k' n'=>exact key _ e (.int _ _)
   |str s=>exact key _ e (.str _)
   |jg a c e'=>exact key _ e (.jg _ _ _)
   |sl b off n' cap e' es f h1 h2 h3 h4 h5 h6=>exact key _ e (.sl b off n' cap e' es f h1 h2 h3 h4 h5 h6)
   |dM=>exact key _ e .dM
   |ptr b off cs f h1 h2 h3=>exact key _ e (.ptr b off cs f h1 h2 h3)
   |fn f caps cs h1 h2=>exact key _ e (.fn f caps cs h1 h2)
   |junk v h1=>exact key _ e (.junk _ h1)
  |@own _ id o m aC jV ho=>
   obtain⟨ob,hg,e2⟩:=M.cf e;unfold br at ho;rw[hg]at ho;cases ob with
   |cells cs=>exact ho.elim
   |buf v' e' es=>
    obtain⟨hv,e4⟩:=M.aL e2;obtain⟨rfl,rfl⟩:=ai e4;have gy:v'=aC:=by simpa using hv
    refine⟨rfl,λJ hJ kq=>pS (λb hp=>⟨kq id _ b hg hp,?_⟩) (ho.2 gy)⟩;rcases r.ob id _ hg with⟨h1,_⟩|⟨b',h1,_,_,aH⟩
    ·rw[hp]at h1;cases h1
    ·rw[hp]at h1;cases h1;exact PC hJ aH
   |cm v' e' es=>
    obtain⟨hv,e4⟩:=M.aL e2;obtain⟨rfl,rfl⟩:=ai e4;have gy:v'=aC:=by simpa using hv
    exact⟨rfl,λJ hJ _=>up hJ (lZ r hg rfl (ho.2 gy))⟩
   |map _=>exact ho.elim
  |@ref _ id aC i j gA hr=>
   obtain⟨ob,hg,e2⟩:=M.cf e;unfold bA at hr;rw[hg]at hr;cases ob with
   |cells cs=>
    obtain⟨rfl,rfl,b,aB,rfl⟩:=hr;obtain⟨-,e4⟩:=M.aL e2;obtain⟨xs,h3,e5,e6⟩:=aw e4;obtain⟨rfl,rfl⟩:=ai e6;obtain⟨b',bS,eU,_,hc⟩:=r.ob id _ hg;rw[aB]at bS;cases bS;obtain⟨V,hV⟩:=pick hc;obtain⟨rfl,hl,hx⟩:=ih.list k g r cs xs _ e5 V λj c h=>(hV j c h).2.2
    have hlen:∀(j:Nat) (x:IV),xs[j]?=some x->∃c,cs[j]?=some c:=λj x h=>by
     have:j<xs.length:=by
      rcases Nat.lt_or_ge j xs.length with h' | h'
      ·exact h'
      ·rw[List.getElem?_eq_none h']at h;cases h
     exact⟨_,List.getElem?_eq_getElem (by omega)⟩
    refine⟨rfl,λJ hJ kq=>.ptr b j (xs.drop j) (λi=>V (j+i)) (kq id _ b hg aB) (λi x h=>?_) λi x h=>?_⟩
    ·rw[List.getElem?_drop]at h;obtain⟨c,dm⟩:=hlen _ x h;exact(hV _ c dm).1
    ·rw[List.getElem?_drop]at h;exact hx J hJ kq _ x h
   |buf v' e' es=>
    obtain⟨hv,e4⟩:=M.aL e2;obtain⟨c,hc,e6⟩:=M.lift_bind e4;obtain⟨rfl,rfl⟩:=ai e6;have gy:v'=aC:=by simpa using hv
    obtain⟨b,aB,rfl⟩:=hr.2 gy;refine⟨rfl,λJ hJ kq=>lf (kq id _ b hg aB) ?_ hc⟩;rcases r.ob id _ hg with⟨h1,_⟩|⟨b',h1,_,_,aH⟩
    ·rw[aB]at h1;cases h1
    ·rw[aB]at h1;cases h1;exact PC hJ aH
   |cm v' e' es=>
    obtain⟨hv,e4⟩:=M.aL e2;obtain⟨c,hc,e6⟩:=M.lift_bind e4;obtain⟨rfl,rfl⟩:=ai e6;have gy:v'=aC:=by simpa using hv
    exact⟨rfl,λJ hJ _=>up hJ (l3 r hg hc (hr.2 gy))⟩
   |map _=>exact(ah e2).elim
  |@dg f caps cs hn hr=>
   obtain⟨xs,h1,e1,e2⟩:=aw e;obtain⟨rfl,rfl⟩:=ai e2;obtain⟨rfl,hl,hx⟩:=ih.list k g r cs xs _ e1 (λj=>caps.getD j (.bool true)) λj c h=>by
    have:j<caps.size:=by
     rcases Nat.lt_or_ge j cs.length with h' | h'
     ·omega
     ·rw[List.getElem?_eq_none h']at h;cases h
    exact hr j _ c (by simp[Array.getD,this]) h
   refine⟨rfl,λJ hJ kq=>.fn f caps xs (by omega) λj v x h1 h2=>?_⟩;have:=hx J hJ kq j x h2
   rwa [show caps.getD j (.bool true)=v from by
    obtain⟨hj,he⟩:=Array.getElem?_eq_some_iff.1 h1;simp[Array.getD,hj,he]]at this
def dj (ν:Nat->Nat) (k:Cx) (g:Gh) (h':Hp) (r:AV) (res:Result Value):Prop:=
 ∃g' v,res = .ok v g'.w/\g'.h=h'/\Rel ν k g'/\bY ν g g'/\RA ν g' v r
theorem dj.same {ν:Nat->Nat} {k:Cx} {g:Gh} (r:Rel ν k g) {v:Value} {x:AV} {res:Result Value} (hr:res = .ok v g.w) (h:RA ν g v x):dj ν k g g.h x res:=
 ⟨g,v,hr,rfl,r,.refl ν g,h⟩
def lA:TypeDesc->Bool
 |.struct _ | .array _ _=>true
 |_=>false
def lQ (P:Program) (t:TypeId) (sz:Nat) (agg:Bool):Bool:=
 match P.underlying t,P.info? t with
 |some d,some i=>lA d==agg&&i.size==sz&&(agg||sz==1)
 |_,_=>false
theorem jc {P:Program} {t:TypeId} {sz:Nat} {agg:Bool} (h:lQ P t sz agg=true) :
  ∃d i,P.underlying t=some d/\P.info? t=some i/\lA d=agg/\i.size=sz/\(agg=false->sz=1):=by
 unfold lQ at h;cases hu:P.underlying t with
 |none=>simp[hu]at h
 |some d=>
  cases hi:P.info? t with
  |none=>simp[hu,hi]at h
  |some i=>
   simp only[hu,hi,Bool.and_eq_true,beq_iff_eq,Bool.or_eq_true]at h;refine⟨d,i,rfl,rfl,h.1.1,h.1.2,λha=>?_⟩;rcases h.2 with h' | h'
   ·rw[ha]at h';cases h'
   ·exact h'
theorem gB {P:Program} {t:TypeId} {d:TypeDesc} (h:P.underlying t=some d) (w:World):(isAgg t).run P w = .ok (lA d) w:=by
 cases d<;>simp[isAgg,run_underlying h,lA]
theorem run_sizeOf {P:Program} {t:TypeId} {i:TypeInfo} (h:P.info? t=some i) (w:World):(Go.sizeOf t).run P w = .ok i.size w:=by
 simp[Go.sizeOf,typeInfo,h]
theorem rB {agg:Bool} {l:List AV} {h h':Hp} {r:AV} (e:(mk agg l).run h=some (r,h')):h'=h/\(agg=true/\r = .agg l\/agg=false/\l=[r]):=by
 unfold mk at e;cases agg with
 |true=>simp only[if_true]at e;obtain⟨rfl,rfl⟩:=ai e;exact⟨rfl,.inl ⟨rfl,rfl⟩⟩
 |false=>
  simp only[Bool.false_eq_true,if_false]at e
  match l with
  |[]=>exact(ah e).elim
  |[x]=>obtain⟨rfl,rfl⟩:=ai e;exact⟨rfl,.inr ⟨rfl,rfl⟩⟩
  |_::_::_=>exact(ah e).elim
theorem od {ν:Nat->Nat} {P:Program} {g:Gh} {t:TypeId} {sz:Nat} {agg:Bool} (ht:lQ P t sz agg=true) {b off:Nat} {l:List AV} (hl:l.length=sz)
  (hc:∀(i:Nat) (x:AV),l[i]?=some x->∃v,g.w.cell? ⟨b,off+i,none⟩=some v/\v.oneCell'=true/\RA ν g v x) {r:AV} (hr:agg=true/\r = .agg l\/agg=false/\l=[r]) :
  ∃v,(loadVar t ⟨b,off,none⟩).run P g.w = .ok v g.w/\RA ν g v r:=by
 obtain⟨d,i,hu,hi,ha,hs,h1⟩:=jc ht;obtain⟨V,hV⟩:=pick hc;rcases hr with⟨gv,rfl⟩|⟨gv,rfl⟩
 ·have iu:(loadCells ⟨b,off,none⟩ i.size).run P g.w = .ok ((List.range i.size).map V).toArray g.w:=run_loadCells g.w _ _ V λj hj=>by
   have:=(hV j (l[j]'(by omega)) (List.getElem?_eq_getElem (by omega))).1
   rwa [Addr.add_lit]
  refine⟨.agg ((List.range i.size).map V).toArray,?_,.agg (by simp;omega) (λj v h=>?_) λj v c h1 h2=>?_⟩
  ·simp[loadVar,gB hu,ha,gv,run_sizeOf hi,iu]
  ·obtain⟨hj,rfl⟩:j<i.size/\V j=v:=by
    have hj:j<i.size:=by
     rcases Nat.lt_or_ge j i.size with h' | h'
     ·exact h'
     ·simp[List.getElem?_eq_none (show(List.range i.size).length<=j by simpa using h')]at h
    exact⟨hj,by simpa[hj]using h⟩
   exact(hV j (l[j]'(by omega)) (List.getElem?_eq_getElem (by omega))).2.1
  ·have hj:j<l.length:=by
    rcases Nat.lt_or_ge j l.length with h' | h'
    ·exact h'
    ·rw[List.getElem?_eq_none h']at h2;cases h2
   obtain rfl:V j=v:=by simpa[show j<i.size by omega]using h1
   exact(hV j c h2).2.2
 ·have h0:=hV 0 r rfl;refine⟨V 0,?_,h0.2.2⟩;have:=h0.1;simp only[Nat.add_zero]at this;simp[loadVar,gB hu,ha,gv,this]
theorem vX {ν:Nat->Nat} {k:Cx} {g:Gh} (r:Rel ν k g) {id aC i j sz:Nat} {ob:Ob} {l:List AV} (hg:get g.h id=some ob) (hl:bB ob aC i j sz=some l) {v:Value}
  (h:bA g v id aC i j):∃b off,v = .pointer (some ⟨b,off,none⟩)/\∀(m:Nat) (x:AV),l[m]?=some x->∃v,g.w.cell? ⟨b,off+m,none⟩=some v/\v.oneCell'=true/\RA ν g v x:=by
 unfold bA at h;rw[hg]at h;have bu:=r.ob id _ hg;have row:∀{b e:Nat} {es:List (List IV)} {c:List IV},Row ν g.I g.w b e es->es[i]?=some c->∀(m:Nat) (x:AV),(((c.drop j).take sz).map AV.iv)[m]?=some x->
   ∃v,g.w.cell? ⟨b,i*e+j+m,none⟩=some v/\v.oneCell'=true/\RA ν g v x:=by
  intro b e es c aH hc m x hx;simp only[List.getElem?_map,List.getElem?_take,Option.map_eq_some_iff]at hx;obtain⟨y,hy,rfl⟩:=hx;split at hy
  ·rw[List.getElem?_drop]at hy;obtain⟨v,h1,h2⟩:=aH.2 i (j+m) c y hc hy;exact⟨v,by rw[Nat.add_assoc];exact h1,h2.one,.iv h2⟩
  ·cases hy
 cases ob with
 |cells cs=>
  obtain⟨rfl,rfl,b,aB,rfl⟩:=h;obtain⟨b',bS,_,_,hc⟩:=bu;rw[aB]at bS;cases bS;simp only[bB,true_and,if_true,Option.some.injEq]at hl;subst hl;refine⟨b,j,rfl,λm x hx=>?_⟩;rw[List.getElem?_take]at hx;split at hx
  ·rw[List.getElem?_drop]at hx;exact hc _ _ hx
  ·cases hx
 |buf v' e es=>
  simp only[bB]at hl;split at hl
  ·rename_i hv;obtain⟨b,aB,rfl⟩:=h.2 hv;simp only[Option.map_eq_some_iff]at hl;obtain⟨c,hc,rfl⟩:=hl;rcases bu with⟨h1,_⟩|⟨b',h1,_,_,aH⟩
   ·rw[aB]at h1;cases h1
   ·rw[aB]at h1;cases h1;exact⟨b,_,rfl,row aH hc⟩
  ·cases hl
 |cm v' e es=>
  simp only[bB]at hl;split at hl
  ·rename_i hv;obtain⟨b,aB,rfl⟩:=h.2 hv;simp only[Option.map_eq_some_iff]at hl;obtain⟨c,hc,rfl⟩:=hl;rcases bu with⟨h1,_⟩|⟨b',h1,_,aH⟩
   ·rw[aB]at h1;cases h1
   ·rw[aB]at h1;cases h1;exact⟨b,_,rfl,row aH hc⟩
  ·cases hl
 |map _=>simp[bB]at hl
theorem rC {ν:Nat->Nat} {P:Program} {k:Cx} {g:Gh} (r:Rel ν k g) {t:TypeId} {sz:Nat} {agg:Bool} (ht:lQ P t sz agg=true) {v:Value} {x y:AV} {h':Hp} (hv:RA ν g v x)
  (e:(load agg sz x).run g.h=some (y,h')):h'=g.h/\∃u,(Instr.loadAt t v).run P g.w = .ok u g.w/\RA ν g u y:=by
 cases hv with
 |undef=>exact(ah e).elim
 |agg=>exact(ah e).elim
 |bD=>exact(ah e).elim
 |own=>exact(ah e).elim
 |dg=>exact(ah e).elim
 |iv hr=>
  cases hr with
  |ptr b off cs f hI hc hr=>
   obtain⟨hl,e2⟩:=M.aL e;obtain⟨rfl,hm⟩:=rB e2;have kU:((cs.take sz).map AV.iv).length=sz:=by simpa using hl
   obtain⟨u,hu,hR⟩:=od (ν:=ν) (g:=g) ht (b:=b) (off:=off) kU (λi x hx=>by
    simp only[List.getElem?_map,Option.map_eq_some_iff,List.getElem?_take]at hx;obtain⟨y,hy,rfl⟩:=hx;split at hy
    ·exact⟨f i,hc i y hy,(hr i y hy).one,.iv (hr i y hy)⟩
    ·cases hy) hm
   exact⟨rfl,u,by simp[Instr.loadAt,Instr.sureAddr,hu],hR⟩
  |_=>exact(ah e).elim
 |ref gA hr=>
  obtain⟨ob,hg,e2⟩:=M.cf e;obtain⟨l,hl,e4⟩:=M.lift_bind e2;obtain⟨kU,e6⟩:=M.aL e4;obtain⟨rfl,hm⟩:=rB e6;obtain⟨b,off,rfl,hc⟩:=vX r hg hl hr;obtain⟨u,hu,hR⟩:=od (ν:=ν) (g:=g) ht (b:=b) (off:=off) (by simpa using kU) hc hm;exact⟨rfl,u,by simp[Instr.loadAt,Instr.sureAddr,hu],hR⟩
theorem BD {ν:Nat->Nat} {P:Program} {k:Cx} {g:Gh} (r:Rel ν k g) {t:TypeId} {sz:Nat} {agg:Bool} (ht:lQ P t sz agg=true) {v:Value} {x y:AV} {h':Hp} (hv:RA ν g v x)
  (e:(load agg sz x).run g.h=some (y,h')):dj ν k g h' y ((Instr.loadAt t v).run P g.w):=by
 obtain⟨rfl,u,hu,hR⟩:=rC r ht hv e;exact .same r hu hR
theorem bA.move {g:Gh} {v:Value} {id aC i j:Nat} {ob:Ob} (hg:get g.h id=some ob) (hv:valid ob aC i=true) (h:bA g v id aC i j) (n:Nat) :
  ∃b off,v = .pointer (some ⟨b,off,none⟩)/\bA g (.pointer (some ⟨b,off+n,none⟩)) id aC i (j+n):=by
 unfold bA at h ⊢;rw[hg]at h ⊢;cases ob with
 |cells cs=>
  obtain⟨rfl,rfl,b,aB,rfl⟩:=h;exact⟨b,j,rfl,rfl,rfl,b,aB,rfl⟩
 |buf v' e es=>
  obtain⟨b,aB,rfl⟩:=h.2 (by simpa[valid]using hv);exact⟨b,_,rfl,h.1,λ_=>⟨b,aB,by rw[Nat.add_assoc]⟩⟩
 |cm v' e es=>
  obtain⟨b,aB,rfl⟩:=h.2 (by simpa[valid]using hv);exact⟨b,_,rfl,h.1,λ_=>⟨b,aB,by rw[Nat.add_assoc]⟩⟩
 |map _=>simp[valid]at hv
theorem RI.drop {ν:Nat->Nat} {I:Nat->Prop} {w:World} {b off n:Nat} {cs:List IV} (h:RI ν I w (.pointer (some ⟨b,off,none⟩)) (.ptr cs)) :
  RI ν I w (.pointer (some ⟨b,off+n,none⟩)) (.ptr (cs.drop n)):=by
 cases h with
 |ptr _ _ _ f hI hc hr=>
  refine .ptr b (off+n) _ (λj=>f (n+j)) hI (λj x hx=>?_) λj x hx=>?_
  ·rw[List.getElem?_drop]at hx;rw[Nat.add_assoc];exact hc _ _ hx
  ·rw[List.getElem?_drop]at hx;exact hr _ _ hx
def xP (P:Program) (s:TypeId) (f off:Nat):Bool:=
 match P.underlying s with
 |some (.struct fs)=>match fs[f]? with
  |some fd=>fd.offset==off&&(match P.info? fd.type with | some i=>i.size != 0 | none=>false)
  |none=>false
 |_=>false
theorem BE {ν:Nat->Nat} {P:Program} {k:Cx} {g:Gh} (r:Rel ν k g) {s:TypeId} {f off:Nat} (ht:xP P s f off=true) {v:Value} {x y:AV} {h':Hp} (hv:RA ν g v x)
  (e:(di off x).run g.h=some (y,h')):dj ν k g h' y ((Instr.fieldAt s v f).run P g.w):=by
 unfold xP at ht;split at ht
 ·rename_i fs hu;split at ht
  ·rename_i fd hf;simp only[Bool.and_eq_true,beq_iff_eq]at ht;obtain⟨rfl,dZ⟩:=ht;split at dZ
   ·rename_i i hi;have cA:¬i.size=0:=by simpa using dZ
    have key:∀(b o:Nat),(Instr.fieldAt s (.pointer (some ⟨b,o,none⟩)) f).run P g.w = .ok (.pointer (some ⟨b,o+fd.offset,none⟩)) g.w:=by
     intro b o;simp[Instr.fieldAt,run_underlying hu,hf,Instr.sureAddr,fieldPlace,run_sizeOf hi,cA,Addr.add_lit]
    cases hv with
    |undef=>exact(ah e).elim
    |agg=>exact(ah e).elim
    |bD=>exact(ah e).elim
    |own=>exact(ah e).elim
    |dg=>exact(ah e).elim
    |iv hr=>
     cases hr with
     |ptr b o cs f' hI hc hr=>
      obtain⟨-,e2⟩:=M.aL e;obtain⟨rfl,rfl⟩:=ai e2;exact .same r (key _ _) (.iv (RI.drop (.ptr b o cs f' hI hc hr)))
     |_=>exact(ah e).elim
    |ref gA hr=>
     obtain⟨ob,hg,e2⟩:=M.cf e;obtain⟨iI,e4⟩:=M.aL e2;obtain⟨rfl,rfl⟩:=ai e4;obtain⟨b,o,rfl,hR⟩:=hr.move hg iI fd.offset;exact .same r (key _ _) (.ref rfl hR)
   ·cases dZ
  ·cases ht
 ·cases ht
theorem ki {x:AV} {n:Int} {h h':Hp} (e:(idx x).run h=some (n,h')):h'=h/\∃k,x = .iv (.int k n):=by
 unfold idx at e;split at e
 ·obtain⟨rfl,rfl⟩:=ai e;exact⟨rfl,_,rfl⟩
 ·exact(ah e).elim
def Dt (P:Program) (t:TypeId) (len e:Nat):Bool:=
 match P.underlying t with
 |some (.array n el)=>n==len&&(match P.info? el with | some i=>i.size==e | none=>false)
 |_=>false
theorem I7 {P:Program} {t:TypeId} {len e:Nat} (h:Dt P t len e=true):∃el i,P.underlying t=some (.array len el)/\P.info? el=some i/\i.size=e:=by
 unfold Dt at h;split at h
 ·rename_i n el hu;simp only[Bool.and_eq_true,beq_iff_eq]at h;obtain⟨rfl,h⟩:=h;split at h
  ·rename_i i hi;exact⟨el,i,hu,hi,by simpa using h⟩
  ·cases h
 ·cases h
theorem QG {ν:Nat->Nat} {P:Program} {k:Cx} {g:Gh} (r:Rel ν k g) {t:TypeId} {len e:Nat} (ht:Dt P t len e=true) {v u:Value} {x z y:AV} {h':Hp} (hv:RA ν g v x) (hu:RA ν g u z)
  (e':(dn len e x z).run g.h=some (y,h')):dj ν k g h' y ((Instr.indexAt t v u).run P g.w):=by
 obtain⟨el,i,jW,hi,rfl⟩:=I7 ht;obtain⟨n,h1,e1,e2⟩:=aw e';obtain⟨rfl,kk,rfl⟩:=ki e1;cases hu with
 |iv hz=>
  cases hz;obtain⟨hn,e4⟩:=M.aL e2;have fD:0<=n/\n<len:=by simpa using hn
  have key:∀(b o:Nat),(Instr.indexAt t (.pointer (some ⟨b,o,none⟩)) (.int kk n)).run P g.w = .ok (.pointer (some ⟨b,o+n.toNat*i.size,none⟩)) g.w:=by
   intro b o;simp[Instr.indexAt,run_underlying jW,Instr.sureAddr,asIntOf,fD,run_sizeOf hi,Addr.add_lit]
  cases hv with
  |undef=>exact(ah e4).elim
  |agg=>exact(ah e4).elim
  |bD=>exact(ah e4).elim
  |own=>exact(ah e4).elim
  |dg=>exact(ah e4).elim
  |iv hr=>
   cases hr with
   |ptr b o cs f' hI hc hr=>
    obtain⟨-,e2⟩:=M.aL e4;obtain⟨rfl,rfl⟩:=ai e2;exact .same r (key _ _) (.iv (RI.drop (.ptr b o cs f' hI hc hr)))
   |_=>exact(ah e4).elim
  |ref gA hr=>
   obtain⟨ob,hg,e2⟩:=M.cf e4;obtain⟨iI,e4⟩:=M.aL e2;obtain⟨rfl,rfl⟩:=ai e4;obtain⟨b,o,rfl,hR⟩:=hr.move hg iI (n.toNat*i.size);exact .same r (key _ _) (.ref rfl hR)
def sliceB (P:Program) (t:TypeId) (e:Nat):Bool:=
 match P.underlying t with
 |some (.slice el)=>(match P.info? el with | some i=>i.size==e | none=>false)
 |_=>false
theorem ju {P:Program} {t:TypeId} {e:Nat} (h:sliceB P t e=true):∃el i,P.underlying t=some (.slice el)/\P.info? el=some i/\i.size=e:=by
 unfold sliceB at h;split at h
 ·rename_i el hu;split at h
  ·rename_i i hi;exact⟨el,i,hu,hi,by simpa using h⟩
  ·cases h
 ·cases h
theorem DW {ν:Nat->Nat} {P:Program} {k:Cx} {g:Gh} (r:Rel ν k g) {t:TypeId} {e:Nat} (ht:sliceB P t e=true) {v u:Value} {x z y:AV} {h':Hp} (hv:RA ν g v x) (hu:RA ν g u z)
  (e':(dQ e x z).run g.h=some (y,h')):dj ν k g h' y ((Instr.indexAt t v u).run P g.w):=by
 obtain⟨el,i,jW,hi,rfl⟩:=ju ht;obtain⟨n,h1,e1,e2⟩:=aw e';obtain⟨rfl,kk,rfl⟩:=ki e1;cases hu with
 |iv hz=>
  cases hz;obtain⟨hn,e4⟩:=M.aL e2;have fD:0<=n:=by simpa using hn
  have key:∀(b o len cap:Nat),n<(len:Int)->(Instr.indexAt t (.slice (some ⟨b,o,none⟩) len cap) (.int kk n)).run P g.w = .ok (.pointer (some ⟨b,o+n.toNat*i.size,none⟩)) g.w:=by
   intro b o len cap bC;simp[Instr.indexAt,run_underlying jW,asIntOf,fD,bC,run_sizeOf hi,Addr.add_lit]
  cases hv with
  |undef=>exact(ah e4).elim
  |agg=>exact(ah e4).elim
  |bD=>exact(ah e4).elim
  |ref=>exact(ah e4).elim
  |dg=>exact(ah e4).elim
  |iv hr=>
   cases hr with
   |jg a cap bq=>
    obtain⟨-,e2⟩:=M.aL e4;obtain⟨c,hc,e6⟩:=M.lift_bind e2;simp at hc
   |sl b off m cap bq es f hI hm jx hl hc hr=>
    obtain⟨he,e2⟩:=M.aL e4;obtain⟨c,dm,e6⟩:=M.lift_bind e2;obtain⟨rfl,rfl⟩:=ai e6;have fB:bq=i.size:=by simpa using he
    subst fB;have bC:n.toNat<es.length:=by
     rcases Nat.lt_or_ge n.toNat es.length with h | h
     ·exact h
     ·rw[List.getElem?_eq_none h]at dm;cases dm
    refine .same r (key b off m cap (by omega)) (.iv (.ptr b _ c (λj=>f n.toNat j) hI (λj x hx=>?_) λj x hx=>hr _ _ _ _ dm hx));exact hc _ _ _ _ dm hx
   |_=>exact(ah e4).elim
  |@own _ id o m aC jV ho=>
   obtain⟨hm,e2⟩:=M.aL e4;obtain⟨ob,hg,e5⟩:=M.cf e2;have eN:n<(m:Int):=by simpa using hm
   unfold br at ho;rw[hg]at ho;have fin:∀{v' bq:Nat} {es:List (List IV)},(get g.h id=some (.buf v' bq es)\/get g.h id=some (.cm v' bq es))->v'=aC->bq=i.size->fq g.w (g.φ id) bq es o m v->
     dj ν k g g.h (.ref id aC (o+n.toNat) 0) ((Instr.indexAt t v (.int kk n)).run P g.w):=by
    intro v' bq es iq hv he hs;cases aB:g.φ id with
    |none=>rw[aB]at hs;obtain⟨_,rfl⟩:=hs;omega
    |some b=>
     rw[aB]at hs;obtain⟨x,cap,rfl,h2,h3,h4,_⟩:=hs;have hx:x=o*bq:=h4.resolve_right λh=>by have:=h.1;omega
     subst hx he;refine .same r (key b _ m cap eN) (.ref rfl ?_);unfold bA;rcases iq with iq | iq<;>rw[iq]<;>exact⟨Nat.le_of_eq hv.symm,λ_=>⟨b,aB,by rw[Nat.add_mul];rfl⟩⟩
   cases ob with
   |cells cs=>exact ho.elim
   |buf v' bq es=>
    obtain⟨eQ,e7⟩:=M.aL e5;obtain⟨rfl,rfl⟩:=ai e7;simp only[Bool.and_eq_true,beq_iff_eq]at eQ;exact fin (.inl hg) eQ.1 eQ.2 (ho.2 eQ.1)
   |cm v' bq es=>
    obtain⟨eQ,e7⟩:=M.aL e5;obtain⟨rfl,rfl⟩:=ai e7;simp only[Bool.and_eq_true,beq_iff_eq]at eQ;exact fin (.inr hg) eQ.1 eQ.2 (ho.2 eQ.1)
   |map _=>exact ho.elim
section
variable {ν:Nat->Nat} {P:Program} {k:Cx} {g:Gh}
theorem RA.int {v:Value} {kk:IntKind} {n:Int} (h:RA ν g v (.iv (.int kk n))):v = .int kk n:=by cases h with | iv h=>cases h;rfl
theorem RA.bool {v:Value} {b:Bool} (h:RA ν g v (.iv (.bool b))):v = .bool b:=by cases h with | iv h=>cases h;rfl
theorem RA.str {v:Value} {s:ByteArray} (h:RA ν g v (.iv (.str s))):v = .string s:=by cases h with | iv h=>cases h;rfl
theorem RA.dM {v:Value} (h:RA ν g v (.iv .dM)):v = .pointer none:=by cases h with | iv h=>cases h;rfl
theorem RA.ptr {v:Value} {cs:List IV} (h:RA ν g v (.iv (.ptr cs))):∃b off,v = .pointer (some ⟨b,off,none⟩):=by cases h with | iv h=>cases h;exact⟨_,_,rfl⟩
theorem mkInt {kk:IntKind} {n:Int}:RA ν g (.int kk n) (.iv (.int kk n)):=.iv (.int _ _)
theorem dD {b:Bool}:RA ν g (.bool b) (.iv (.bool b)):=.iv (.bool _)
theorem mkStr {s:ByteArray}:RA ν g (.string s) (.iv (.str s)):=.iv (.str _)
theorem xQ {t:TypeId} {sz off:Nat} {agg:Bool} (ht:lQ P t sz agg=true) {vs:Array Value} {cs:List AV} (hv:RA ν g (.agg vs) (.agg cs)) (hl:((cs.drop off).take sz).length=sz)
  {r:AV} (hr:agg=true/\r = .agg ((cs.drop off).take sz)\/agg=false/\(cs.drop off).take sz=[r]) (w:World):∃v,(part t vs off).run P w = .ok v w/\RA ν g v r:=by
 obtain⟨d,i,hu,hi,ha,hs,h1⟩:=jc ht;subst hs;cases hv with
 |agg hn ho l5=>
  have eR:off+i.size<=cs.length\/i.size=0:=by simp only[List.length_take,List.length_drop]at hl;omega
  rcases hr with⟨gv,rfl⟩|⟨gv,hr⟩
  ·have key:∀(j:Nat) (v:Value),(vs.extract off (off+i.size))[j]?=some v->vs[off+j]?=some v/\j<i.size:=by
    intro j v h;rw[Array.getElem?_extract]at h;split at h
    ·exact⟨h,by omega⟩
    ·cases h
   refine⟨.agg (vs.extract off (off+i.size)),by simp[part,gB hu,ha,gv,run_sizeOf hi],.agg (by simp only[Array.size_extract,hl];omega) (λj v h=>ho _ v (key j v h).1) λj v c h h2=>?_⟩;obtain⟨h',bC⟩:=key j v h;rw[List.getElem?_take,if_pos bC,List.getElem?_drop]at h2;exact l5 _ v c h' h2
  ·have hz:i.size=1:=h1 gv;have hc:cs[off]?=some r:=by
    have:((cs.drop off).take i.size)[0]?=some r:=by rw[hr];rfl
    rw[List.getElem?_take,if_pos (by omega),List.getElem?_drop]at this;simpa using this
   have bC:off<vs.size:=by omega
   refine⟨vs[off],by simp[part,gB hu,ha,gv,Array.getElem?_eq_getElem bC],l5 off _ r (Array.getElem?_eq_getElem bC) hc⟩
theorem QH {agg:Bool} {off sz:Nat} {x y:AV} {h h':Hp} (e:(ep agg off sz x).run h=some (y,h')) :
  h'=h/\∃cs,x = .agg cs/\((cs.drop off).take sz).length=sz/\(agg=true/\y = .agg ((cs.drop off).take sz)\/agg=false/\(cs.drop off).take sz=[y]):=by
 unfold ep at e;split at e
 ·rename_i cs;obtain⟨hl,e2⟩:=M.aL e;obtain⟨rfl,hm⟩:=rB e2;exact⟨rfl,cs,rfl,by simpa using hl,hm⟩
 ·exact(ah e).elim
theorem RA.lg {v:Value} {cs:List AV} (h:RA ν g v (.agg cs)):∃vs,v = .agg vs:=by cases h;exact⟨_,rfl⟩
def I8 (P:Program) (t:TypeId) (agg:Bool) (len e:Nat):Bool:=
 match P.underlying t with
 |some (.array n el)=>n==len&&lQ P el e agg
 |_=>false
theorem QJ (r:Rel ν k g) {t:TypeId} {len e:Nat} {agg:Bool} (ht:I8 P t agg len e=true) {v u:Value} {x z y:AV} {h':Hp} (hv:RA ν g v x) (hu:RA ν g u z)
  (e':(dB agg len e x z).run g.h=some (y,h')):dj ν k g h' y ((Instr.index t v u).run P g.w):=by
 unfold I8 at ht;split at ht
 ·rename_i n el jW;simp only[Bool.and_eq_true,beq_iff_eq]at ht;obtain⟨rfl,ht⟩:=ht;obtain⟨m,h1,e1,e2⟩:=aw e';obtain⟨rfl,kk,rfl⟩:=ki e1;obtain rfl:=hu.int;obtain⟨hm,e4⟩:=M.aL e2;have eN:0<=m/\m<n:=by simpa using hm
  obtain⟨rfl,cs,rfl,hl,Sm⟩:=QH e4;obtain⟨vs,rfl⟩:=hv.lg;obtain⟨d,i,_,hi,_,hs,_⟩:=jc ht;obtain⟨u,Zk,hR⟩:=xQ ht hv hl Sm g.w;exact .same r (by simp[Instr.index,run_underlying jW,asIntOf,eN,run_sizeOf hi,hs,Zk]) hR
 ·cases ht
theorem QK (r:Rel ν k g) {t:TypeId} (ht:P.underlying t=some .string) {v u:Value} {x z y:AV} {h':Hp} (hv:RA ν g v x) (hu:RA ν g u z)
  (e:(jN x z).run g.h=some (y,h')):dj ν k g h' y ((Instr.index t v u).run P g.w):=by
 unfold jN at e;split at e
 ·rename_i s kk n;obtain rfl:=hv.str;obtain rfl:=hu.int;obtain⟨hn,e2⟩:=M.aL e;have fD:0<=n:=by simpa using hn
  split at e2
  ·rename_i b hb;obtain⟨rfl,rfl⟩:=ai e2;exact .same r (by simp[Instr.index,run_underlying ht,asIntOf,fD,hb]) mkInt
  ·exact(ah e2).elim
 ·exact(ah e).elim
theorem vY {op:BinOp} {t:TypeId} {kk k':IntKind} {a b:Int} {z:IV} (h:cU op kk k' a b=some z) (w:World) :
  ∃v,(binOp op t (.int kk a) (.int k' b)).run P w = .ok v w/\RI ν g.I g.w v z:=by
 cases op
 case shl=>
  simp only[cU]at h;split at h
  ·cases h
  ·rename_i hb;cases h;exact⟨_,by simp[binOp,Op.shift,hb],.int _ _⟩
 case shr=>
  simp only[cU]at h;split at h
  ·cases h
  ·rename_i hb;cases h;exact⟨_,by simp[binOp,Op.shift,hb],.int _ _⟩
 all_goals
  simp only[cU]at h;split at h
  case isFalse=>cases h
  rename_i hk;subst hk
 case quo=>
  split at h
  ·cases h
  ·rename_i hb;cases h;exact⟨_,by simp[binOp,Op.intDiv,hb],.int _ _⟩
 case rem=>
  split at h
  ·cases h
  ·rename_i hb;cases h;exact⟨_,by simp[binOp,Op.intDiv,hb],.int _ _⟩
 all_goals cases h
 case add | sub | mul=>exact⟨_,by simp[binOp,Op.intArith],.int _ _⟩
 case and | or | xor | andNot=>exact⟨_,by simp[binOp];rfl,.int _ _⟩
 all_goals exact⟨_,by simp[binOp,Op.intCmp],.bool _⟩
theorem vZ {op:BinOp} {t:TypeId} {a b:ByteArray} {z:IV} (h:db op a b=some z) (w:World) :
  ∃v,(binOp op t (.string a) (.string b)).run P w = .ok v w/\RI ν g.I g.w v z:=by
 cases op<;>simp only[db]at h<;>(try cases h)
 case add=>
  split at h
  ·rename_i hb;cases h;refine⟨.string (a++b),?_,.str _⟩;have:¬(9223372036854775807:Int)<((a.size:Int)+b.size):=by omega
   simp[binOp,Op.stringOp,this]
  ·cases h
 all_goals exact⟨_,by simp[binOp,Op.stringOp,fL,beq_toListBytes],.bool _⟩
def PD (P:Program) (op:BinOp) (t:TypeId) (q:Nat):Bool:=
 match q with
 |0=>true
 |1=>(match P.underlying t with | some .bool=>true | _=>false)
 |2=>(match P.underlying t with | some (.pointer _)=>true | _=>false)
 |_=>op==op
theorem sq (d:Nat) {t el:TypeId} (h:P.underlying t=some (.pointer el)) (w:World):(Op.equalIn (d+1) t (.pointer none) (.pointer none)).run P w = .ok true w:=by simp[Op.equalIn,run_underlying h]
theorem ns (d:Nat) {t el:TypeId} (h:P.underlying t=some (.pointer el)) (a:Addr) (w:World):(Op.equalIn (d+1) t (.pointer (some a)) (.pointer none)).run P w = .ok false w:=by simp[Op.equalIn,run_underlying h]
theorem nv (d:Nat) {t el:TypeId} (h:P.underlying t=some (.pointer el)) (a:Addr) (w:World):(Op.equalIn (d+1) t (.pointer none) (.pointer (some a))).run P w = .ok false w:=by simp[Op.equalIn,run_underlying h]
theorem mF {t:TypeId} {a b:Option Addr} {z:Bool} (h:∀(d:Nat) (w:World),(Op.equalIn (d+1) t (.pointer a) (.pointer b)).run P w = .ok z w) (x y:Operand) (w:World) :
  ((do eqGuard .eql t x y (.pointer a) (.pointer b);binOp .eql t (.pointer a) (.pointer b):Sem Value).run P w = .ok (.bool z) w)/\
  ((do eqGuard .neq t x y (.pointer a) (.pointer b);binOp .neq t (.pointer a) (.pointer b):Sem Value).run P w = .ok (.bool (!z)) w):=by
 have h':(Op.equal t (.pointer a) (.pointer b)).run P w = .ok z w:=h 9999 w;constructor
 ·simp only[Sem.run_bind,eqGuard_at_pointer,Sem.run_pure,Result.andThen_ok,binOp];simp[h']
 ·simp only[Sem.run_bind,eqGuard_at_pointer,Sem.run_pure,Result.andThen_ok,binOp];simp[h']
theorem DX (r:Rel ν k g) {op:BinOp} {t:TypeId} {q:Nat} (ht:PD P op t q=true) {a b:Operand} {v u:Value} {x z:AV} {y:IV} (hv:RA ν g v x) (hu:RA ν g u z) (e:bin op q x z=some y) :
  dj ν k g g.h (.iv y) ((do eqGuard op t a b v u;binOp op t v u:Sem Value).run P g.w):=by
 unfold bin at e;split at e
 ·obtain rfl:=hv.int;obtain rfl:=hu.int;obtain⟨w',h1,h2⟩:=vY (ν:=ν) (P:=P) (g:=g) (t:=t) e g.w;exact .same r (by simp[eqGuard_at_int,h1]) (.iv h2)
 ·obtain rfl:=hv.str;obtain rfl:=hu.str;obtain⟨w',h1,h2⟩:=vZ (ν:=ν) (P:=P) (g:=g) (t:=t) e g.w;exact .same r (by simp[eqGuard_at_string,h1]) (.iv h2)
 ·obtain rfl:=hv.bool;obtain rfl:=hu.bool;have fU:P.underlying t=some .bool:=by
   simp only[PD]at ht;split at ht
   ·assumption
   ·cases ht
  split at e
  ·cases e;exact .same r (by simp only[Sem.run_bind,eqGuard_at_bool,Sem.run_pure,Result.andThen_ok];exact run_eql_bool _ _ _ _ fU) dD
  ·cases e;refine .same r (v:=.bool (!_)) ?_ dD;simp only[Sem.run_bind,eqGuard_at_bool,Sem.run_pure,Result.andThen_ok,binOp];simp[run_equal_bool g.w t _ _ fU]
  ·cases e
 case h_7=>cases e
 all_goals
  have fU:∃el,P.underlying t=some (.pointer el):=by
   simp only[PD]at ht;split at ht
   ·exact⟨_,by assumption⟩
   ·cases ht
  obtain⟨el,fU⟩:=fU
 ·obtain rfl:=hv.dM;obtain rfl:=hu.dM;have key:=mF (P:=P) (λd w=>sq d fU w) a b g.w;split at e
  ·cases e;exact .same r key.1 dD
  ·cases e;exact .same r key.2 dD
  ·cases e
 ·obtain⟨b',off,rfl⟩:=hv.ptr;obtain rfl:=hu.dM;have key:=mF (P:=P) (λd w=>ns d fU ⟨b',off,none⟩ w) a b g.w;split at e
  ·cases e;exact .same r key.1 dD
  ·cases e;exact .same r key.2 dD
  ·cases e
 ·obtain rfl:=hv.dM;obtain⟨b',off,rfl⟩:=hu.ptr;have key:=mF (P:=P) (λd w=>nv d fU ⟨b',off,none⟩ w) a b g.w;split at e
  ·cases e;exact .same r key.1 dD
  ·cases e;exact .same r key.2 dD
  ·cases e
def kj (q:Nat) (d:Option TypeDesc):Bool:=
 match d with
 |some (.int _)=>q==0
 |some .bool=>q==1
 |some .string=>q==2
 |_=>false
theorem yP {d:Option TypeDesc} (h:kj 0 d=true):∃kk,d=some (.int kk):=by
 unfold kj at h;split at h<;>first | exact⟨_,rfl⟩|simp at h
theorem v7 {d:Option TypeDesc} (h:kj 1 d=true):d=some .bool:=by
 unfold kj at h;split at h<;>first | rfl | simp at h
theorem yQ {d:Option TypeDesc} (h:kj 2 d=true):d=some .string:=by
 unfold kj at h;split at h<;>first | rfl | simp at h
def G9 (P:Program):List Field->List Nat->Nat->Bool
 |[],[],_=>true
 |f::fs,q::qs,i=>f.name != "_"&&f.offset==i&&lQ P f.type 1 false&&kj q (P.underlying f.type)&&G9 P fs qs (i+1)
 |_,_,_=>false
theorem v8 {q:Nat} {t:TypeId} {x y:AV} {b:Bool} (e:ly q x y=some b) (ht:kj q (P.underlying t)=true) {v u:Value} (hv:RA ν g v x) (hu:RA ν g u y) (d:Nat) (w:World) :
  (Op.equalIn (d+1) t v u).run P w = .ok b w:=by
 unfold ly at e;split at e
 ·obtain rfl:=hv.int;obtain rfl:=hu.int;obtain⟨kk,h1⟩:=yP ht;simp only[Option.ite_none_right_eq_some,Option.some.injEq]at e;obtain⟨hk,rfl⟩:=e;subst hk;exact run_equalIn_int w d t _ _ _ _ h1
 ·cases e;obtain rfl:=hv.bool;obtain rfl:=hu.bool;exact run_equalIn_bool w d t _ _ (v7 ht)
 ·cases e;obtain rfl:=hv.str;obtain rfl:=hu.str;rw[run_equalIn_string w d t _ _ (yQ ht),beq_toListBytes]
 ·cases e
theorem Sn {xs ys:Array Value} (d:Nat) (w:World):∀(fs:List Field) (qs:List Nat) (i:Nat) (cs ds:List AV) (b:Bool),G9 P fs qs i=true->eqs qs cs ds=some b->
  (∀(j:Nat) (c:AV),cs[j]?=some c->∃v,xs[i+j]?=some v/\RA ν g v c)->(∀(j:Nat) (c:AV),ds[j]?=some c->∃v,ys[i+j]?=some v/\RA ν g v c)->
  (Op.eqFields (d+1) xs ys fs).run P w = .ok b w:=by
 intro fs
 induction fs with
 |nil=>
  intro qs i cs ds b h1 h2 _ _;cases qs with
  |cons=>simp[G9]at h1
  |nil=>
   cases cs<;>cases ds<;>simp[eqs]at h2;subst h2;simp[Op.eqFields]
 |cons f fs ih=>
  intro qs i cs ds b h1 h2 hx hy;cases qs with
  |nil=>simp[G9]at h1
  |cons q qs=>
   cases cs with
   |nil=>simp[eqs]at h2
   |cons c cs=>
    cases ds with
    |nil=>simp[eqs]at h2
    |cons d' ds=>
     simp only[G9,Bool.and_eq_true]at h1;obtain⟨⟨⟨⟨hn,DY⟩,lB⟩,hq⟩,gl⟩:=h1;simp only[eqs,Option.bind_eq_some_iff]at h2;obtain⟨b1,e1,b2,e2,e3⟩:=h2;cases e3;obtain⟨v,hv,Sp⟩:=hx 0 c rfl;obtain⟨u,hu,Ha⟩:=hy 0 d' rfl;obtain⟨dd,ii,h3,h4,h5,h6,_⟩:=jc lB;have Du:f.offset=i:=by simpa using DY
     have Ci:(part f.type xs f.offset).run P w = .ok v w:=by simp[part,gB h3,h5,Du,show xs[i]?=some v from hv]
     have bF:(part f.type ys f.offset).run P w = .ok u w:=by simp[part,gB h3,h5,Du,show ys[i]?=some u from hu]
     have he:=v8 (P:=P) e1 hq Sp Ha d w;have hr:=ih qs (i+1) cs ds b2 gl e2 (λj c hc=>by have:=hx (j+1) c (by simpa using hc);rwa [show i+1+j=i+(j+1) by omega]) (λj c hc=>by
      have:=hy (j+1) c (by simpa using hc);rwa [show i+1+j=i+(j+1) by omega])
     have fD:f.name≠"_":=by simpa using hn
     simp only[Op.eqFields,if_pos fD,Sem.run_bind,Ci,bF,he,Result.andThen_ok,Sem.run_ite];cases b1
     ·simp
     ·simp[hr]
def Nn (P:Program) (t:TypeId) (qs:List Nat):Bool:=
 match P.underlying t with
 |some (.struct fs)=>G9 P fs.toList qs 0&&!P.stoodInHeld t&&!P.eqGuardType P.depth t
 |_=>false
theorem RA.jQ {vs:Array Value} {cs:List AV} (h:RA ν g (.agg vs) (.agg cs)) (j:Nat) (c:AV) (hc:cs[j]?=some c):∃v,vs[j]?=some v/\RA ν g v c:=by
 cases h with
 |agg hn _ hr=>
  have hj:j<cs.length:=by
   rcases Nat.lt_or_ge j cs.length with h' | h'
   ·exact h'
   ·rw[List.getElem?_eq_none h']at hc;cases hc
  exact⟨vs[j],Array.getElem?_eq_getElem (by omega),hr j _ c (Array.getElem?_eq_getElem (by omega)) hc⟩
theorem Sq (r:Rel ν k g) {t:TypeId} {qs:List Nat} (ht:Nn P t qs=true) {a b:Operand} {v u:Value} {cs ds:List AV} {z:Bool} (neg:Bool) (hv:RA ν g v (.agg cs)) (hu:RA ν g u (.agg ds)) (e:eqs qs cs ds=some z) :
  dj ν k g g.h (.iv (.bool (if neg then !z else z))) ((do eqGuard (if neg then .neq else .eql) t a b v u;binOp (if neg then .neq else .eql) t v u:Sem Value).run P g.w):=by
 unfold Nn at ht;split at ht
 ·rename_i fs pT;simp only[Bool.and_eq_true,Bool.not_eq_true']at ht;obtain⟨⟨h1,h2⟩,h3⟩:=ht;obtain⟨xs,rfl⟩:=hv.lg;obtain⟨ys,rfl⟩:=hu.lg;have tz:P.fieldsOf t=fs:=by simp[Program.fieldsOf,pT]
  have cP:=Sn (ν:=ν) (P:=P) (g:=g) (xs:=xs) (ys:=ys) 9998 g.w fs.toList qs 0 cs ds z h1 e (λj c hc=>by simpa using hv.jQ j c hc) (λj c hc=>by simpa using hu.jQ j c hc);have oR:=run_equalIn_struct g.w 9999 t xs ys (by rw[tz];exact pT) h2;rw[tz]at oR;cases neg
  ·refine .same r ?_ dD;simp only[Bool.false_eq_true,if_false,Sem.run_bind,run_eqGuard_agg _ _ _ _ _ _ _ h3,Result.andThen_ok,run_eql_struct,oR,cP]
  ·refine .same r ?_ dD;simp only[if_true,Sem.run_bind,run_eqGuard_agg _ _ _ _ _ _ _ h3,Result.andThen_ok,run_neq_struct,oR,cP]
 ·cases ht
theorem I9 (r:Rel ν k g) {op:UnOp} {v:Value} {x:AV} {y:IV} (hv:RA ν g v x) (e:un op x=some y):dj ν k g g.h (.iv y) ((Op.unary op v).run P g.w):=by
 unfold un at e;split at e
 ·obtain rfl:=hv.int;split at e
  ·cases e;exact .same r (by simp[Op.unary,Op.intArith]) mkInt
  ·cases e;exact .same r (v:=.int _ _) (by simp only[Op.unary,intBits_xor];rfl) mkInt
  ·cases e
 ·obtain rfl:=hv.bool;split at e
  ·cases e;exact .same r (by simp[Op.unary]) dD
  ·cases e
 ·cases e
def BF (P:Program) (s d:TypeId) (kk:IntKind):Bool:=
 (P.underlying s).isSome&&(match P.underlying d with | some (.int k')=>k'==kk | _=>false)
theorem DZ (r:Rel ν k g) {s d:TypeId} {kk:IntKind} (ht:BF P s d kk=true) {v:Value} {x:AV} {n:Int} {h':Hp} (hv:RA ν g v x) (e:(idx x).run g.h=some (n,h')) :
  dj ν k g g.h (.iv (.int kk (kk.wrap n))) ((convert s d v).run P g.w):=by
 obtain⟨_,k',rfl⟩:=ki e;obtain rfl:=hv.int;unfold BF at ht;simp only[Bool.and_eq_true]at ht;obtain⟨h1,h2⟩:=ht;obtain⟨sd,hs⟩:=Option.isSome_iff_exists.1 h1;split at h2
 ·rename_i Lk hd;have:Lk=kk:=by simpa using h2
  subst this;exact .same r (by simp[convert,run_underlying hs,run_underlying hd,Conv.intToInt]) mkInt
 ·cases h2
end
section
variable {ν:Nat->Nat} {P:Program} {k:Cx} {g:Gh}
def RO (ν:Nat->Nat) (g:Gh):Option Value->Option AV->Prop
 |none,none=>True
 |some v,some x=>RA ν g v x
 |_,_=>False
theorem l6 {y:Nat} {o:Option AV} {n:Option Nat} {h h':Hp} (e:(bound y o).run h=some (n,h')) {c:Option Value} (hc:RO ν g c o) :
  h'=h/\(o=none/\n=none/\c=none\/∃(kk:IntKind) (m:Nat),c=some (.int kk m)/\m<=y/\n=some m):=by
 unfold bound at e;split at e
 ·obtain⟨rfl,rfl⟩:=ai e;cases c with
  |none=>exact⟨rfl,.inl ⟨rfl,rfl,rfl⟩⟩
  |some v=>exact hc.elim
 ·rename_i kk m;obtain⟨hm,e2⟩:=M.aL e;obtain⟨rfl,rfl⟩:=ai e2;have eN:0<=m/\m<=y:=by simpa using hm
  cases c with
  |none=>exact hc.elim
  |some v=>
   obtain rfl:=RA.int hc;exact⟨rfl,.inr ⟨kk,m.toNat,by rw[Int.toNat_of_nonneg eN.1],by omega,rfl⟩⟩
 ·exact(ah e).elim
theorem iL {n cap:Nat} (jx:n<=cap) {lo hi:Option AV} {cl ch:Option Value} {l h:Option Nat} {g0 g1 g2:Hp} (fJ:Bool)
  (eh:(bound n hi).run g0=some (h,g1)) (el:(bound (h.getD n) lo).run g1=some (l,g2)) (hh:RO ν g ch hi) (hl:RO ν g cl lo) (w:World) :
  g2=g0/\l.getD 0<=h.getD n/\h.getD n<=n/\(Instr.sliceBounds fJ n cap cl ch none).run P w = .ok (l.getD 0,h.getD n,cap) w:=by
 obtain⟨rfl,h1⟩:=l6 eh hh;obtain⟨rfl,h2⟩:=l6 el hl;refine⟨rfl,?_⟩;rcases h1 with⟨-,rfl,rfl⟩|⟨k1,m1,rfl,jy,rfl⟩
 ·rcases h2 with⟨-,rfl,rfl⟩|⟨k2,m2,rfl,iX,rfl⟩
  ·simp[Instr.sliceBounds]
  ·simp only[Option.getD_none]at iX;have:(Instr.sliceBound (.int k2 m2) n .sliceB).run P w = .ok m2 w:=by simp[Instr.sliceBound,asIntOf,iX]
   simp[Instr.sliceBounds,this,iX]
 ·have hs:∀c,(Instr.sliceBound (.int k1 m1) cap c).run P w = .ok m1 w:=λc=>by
   have:m1<=cap:=by omega
   simp[Instr.sliceBound,asIntOf,this]
  rcases h2 with⟨-,rfl,rfl⟩|⟨k2,m2,rfl,iX,rfl⟩
  ·simp[Instr.sliceBounds,hs,jy]
  ·simp only[Option.getD_some]at iX;have:(Instr.sliceBound (.int k2 m2) m1 .sliceB).run P w = .ok m2 w:=by simp[Instr.sliceBound,asIntOf,iX]
   simp[Instr.sliceBounds,hs,this,iX,jy]
theorem gO {t el:TypeId} {i:TypeInfo} (hu:P.underlying t=some (.slice el)) (hi:P.info? el=some i) {a:Option Addr} {n cap l h:Nat} {cl ch:Option Value} {w:World}
  (hb:(Instr.sliceBounds true n cap cl ch none).run P w = .ok (l,h,cap) w) :
  (Instr.sliceAt t (.slice a n cap) cl ch none).run P w = .ok (.slice (if cap=l then a else a.map (·.add (l*i.size))) (h - l) (cap - l)) w:=by
 have:(Instr.slice t (.slice a n cap) cl ch none).run P w = .ok (.slice (if cap=l then a else a.map (·.add (l*i.size))) (h - l) (cap - l)) w:=by
  simp[Instr.slice,run_underlying hu,hb,run_sizeOf hi]
 simp[Instr.sliceAt,run_underlying hu,this]
theorem D0 (r:Rel ν k g) {t:TypeId} {e:Nat} (ht:sliceB P t e=true) {v:Value} {cl ch:Option Value} {x y:AV} {lo hi:Option AV} {h':Hp} (hv:RA ν g v x) (hl:RO ν g cl lo) (hh:RO ν g ch hi)
  (e':(eu e x lo hi).run g.h=some (y,h')):dj ν k g h' y ((Instr.sliceAt t v cl ch none).run P g.w):=by
 obtain⟨el,i,hu,cK,rfl⟩:=ju ht;cases hv with
 |undef=>exact(ah e').elim
 |agg=>exact(ah e').elim
 |bD=>exact(ah e').elim
 |ref=>exact(ah e').elim
 |dg=>exact(ah e').elim
 |iv hr=>
  cases hr with
  |jg a cap bq=>
   obtain⟨-,e2⟩:=M.aL e';obtain⟨hb,h2,e3,e4⟩:=aw e2;obtain⟨lb,h3,e5,e6⟩:=aw e4;obtain⟨rfl,h4,h5,h6⟩:=iL (ν:=ν) (g:=g) (P:=P) (n:=0) (cap:=cap) (Nat.zero_le _) true e3 e5 hh hl g.w;obtain⟨rfl,rfl⟩:=ai e6;simp only[List.length_nil]at *;have hz:hb.getD 0=0:=by omega
   have D1:lb.getD 0=0:=by omega
   refine .same r (gO hu cK h6) (.iv ?_);simp only[hz,D1,List.take_nil,List.drop_nil,Nat.sub_zero];exact .jg _ _ _
  |sl b off n cap bq es f hI hn jx pU hc hr=>
   obtain⟨he,e2⟩:=M.aL e';obtain⟨hb,h2,e3,e4⟩:=aw e2;obtain⟨lb,h3,e5,e6⟩:=aw e4;subst hn;obtain⟨rfl,h4,h5,h6⟩:=iL (ν:=ν) (g:=g) (P:=P) jx true e3 e5 hh hl g.w;obtain⟨rfl,rfl⟩:=ai e6;have fB:bq=i.size:=by simpa using he
   subst fB;refine .same r (gO hu cK h6) (.iv ?_);generalize lb.getD 0=l at *;generalize hb.getD es.length=h at *;by_cases Sr:l=h
   ·subst Sr;have:(es.take l).drop l=[]:=by simp
    rw[this,Nat.sub_self];exact .jg _ _ _
   ·have cA:¬cap=l:=by omega
    rw[if_neg cA];simp only[Option.map_some,Addr.add_lit];have eK:∀(j:Nat) (c:List IV),((es.take h).drop l)[j]?=some c->es[l+j]?=some c:=by
     intro j c hj;rw[List.getElem?_drop,List.getElem?_take]at hj;split at hj
     ·exact hj
     ·cases hj
    refine .sl b _ _ _ i.size _ (λa b=>f (l+a) b) hI (by simp;omega) (by omega) (λc dm=>pU c (List.mem_of_mem_take (List.mem_of_mem_drop dm))) (λa j c x h1 h2=>?_) λa j c x h1 h2=>hr _ _ _ _ (eK a c h1) h2
    have:=hc _ _ _ _ (eK a c h1) h2
    rwa [Nat.add_mul,<-Nat.add_assoc]at this
  |_=>exact(ah e').elim
 |@own _ id o m aC jV ho=>
  obtain⟨hb,h2,e3,e4⟩:=aw e';obtain⟨lb,h3,e5,e6⟩:=aw e4;obtain⟨ob,h4,e7,e8⟩:=aw e6;have q1:=(l6 e3 hh).1;subst q1;have q2:=(l6 e5 hl).1;subst q2;obtain⟨hg,rfl⟩:=pE e7;unfold br at ho;rw[hg]at ho;have fin:∀{v' bq:Nat} {es:List (List IV)},(get g.h id=some (.buf v' bq es)\/get g.h id=some (.cm v' bq es))->v'=aC->bq=i.size->fq g.w (g.φ id) bq es o m v->
    dj ν k g g.h (.own id (o+lb.getD 0) (hb.getD m - lb.getD 0) aC) ((Instr.sliceAt t v cl ch none).run P g.w):=by
   intro v' bq es iq hv he hs;have own:∀u:Value,u.oneCell'=true->fq g.w (g.φ id) bq es (o+lb.getD 0) (hb.getD m - lb.getD 0) u->RA ν g u (.own id (o+lb.getD 0) (hb.getD m - lb.getD 0) aC):=by
    intro u Ss hu2;refine .own Ss ?_;unfold br;rcases iq with iq | iq<;>rw[iq]<;>exact⟨Nat.le_of_eq hv.symm,λ_=>hu2⟩
   cases aB:g.φ id with
   |none=>
    rw[aB]at hs;obtain⟨⟨a,rfl⟩,rfl⟩:=hs;obtain⟨-,h4,h5,h6⟩:=iL (ν:=ν) (g:=g) (P:=P) (n:=0) (cap:=0) (Nat.le_refl _) true e3 e5 hh hl g.w;refine .same r (gO hu cK h6) (own _ rfl ?_);rw[aB];have:hb.getD 0=0:=by omega
    have:lb.getD 0=0:=by omega
    exact⟨⟨a,by simp[*]⟩,by omega⟩
   |some b=>
    rw[aB]at hs;obtain⟨x,cap,rfl,q2,q3,q4,q5⟩:=hs;obtain⟨-,h4,h5,h6⟩:=iL (ν:=ν) (g:=g) (P:=P) q3 true e3 e5 hh hl g.w;refine .same r (gO hu cK h6) (own _ rfl ?_);rw[aB];subst he;generalize lb.getD 0=l at *;generalize hb.getD m=h at *;by_cases fe:cap=l
    ·rw[if_pos fe];refine⟨x,cap - l,rfl,by omega,by omega,?_,λhx c hc=>?_⟩
     ·rcases q4 with q4 | q4
      ·by_cases qI:l=0
       ·left;subst qI;simpa using q4
       ·right;omega
      ·right;omega
     ·by_cases wa:x=o*i.size
      ·exact q5 wa c (Nat.lt_of_lt_of_le hc (Nat.mul_le_mul_right _ (by omega)))
      ·have:=q4.resolve_left wa;have qI:l=0:=by omega
       subst qI;exact absurd (by simpa using hx) wa
    ·rw[if_neg fe];refine⟨x+l*i.size,cap - l,by simp[Addr.add_lit],by omega,by omega,?_,λhx c hc=>?_⟩
     ·rcases q4 with q4 | q4
      ·left;rw[q4,Nat.add_mul]
      ·right;omega
     ·have wa:x=o*i.size:=by rw[Nat.add_mul]at hx;omega
      exact q5 wa c (Nat.lt_of_lt_of_le hc (Nat.mul_le_mul_right _ (by omega)))
  cases ob with
  |cells cs=>exact ho.elim
  |buf v' bq es=>
   obtain⟨eQ,gV⟩:=M.aL e8;obtain⟨rfl,rfl⟩:=ai gV;simp only[Bool.and_eq_true,beq_iff_eq]at eQ;exact fin (.inl hg) eQ.1 eQ.2 (ho.2 eQ.1)
  |cm v' bq es=>
   obtain⟨eQ,gV⟩:=M.aL e8;obtain⟨rfl,rfl⟩:=ai gV;simp only[Bool.and_eq_true,beq_iff_eq]at eQ;exact fin (.inr hg) eQ.1 eQ.2 (ho.2 eQ.1)
  |map _=>exact ho.elim
def BG (P:Program) (t:TypeId) (str:Bool):Bool:=
 match P.underlying t with
 |some (.slice _)=>!str
 |some .string=>str
 |_=>false
theorem D2 (r:Rel ν k g) {t ty:TypeId} {str:Bool} (ht:BG P t str=true) {v:Value} {x y:AV} {h':Hp} (hv:RA ν g v x) (e:(len str x).run g.h=some (y,h')) :
  dj ν k g h' y ((Builtin.len_ #[t] ty #[v]).run P g.w):=by
 unfold BG at ht;split at ht
 ·rename_i el hu;have:str=false:=by simpa using ht
  subst this;have key:∀(a:Option Addr) (n cap:Nat),dj ν k g g.h (.iv (.int .i64 n)) ((Builtin.len_ #[t] ty #[.slice a n cap]).run P g.w):=λa n cap=>
   .same r (v:=.int .i64 n) (by simp[Builtin.len_,run_underlying hu,goInt]) mkInt
  cases hv with
  |undef=>exact(ah e).elim
  |agg=>exact(ah e).elim
  |bD=>exact(ah e).elim
  |ref=>exact(ah e).elim
  |dg=>exact(ah e).elim
  |iv hr=>
   cases hr with
   |aV a bq=>obtain⟨rfl,rfl⟩:=ai e;exact key _ _ _
   |jg a cap bq=>obtain⟨rfl,rfl⟩:=ai e;exact key _ 0 _
   |sl b off n cap bq es f hI hn jx pU hc hr=>obtain⟨rfl,rfl⟩:=ai e;rw[hn];exact key _ _ _
   |_=>exact(ah e).elim
  |@own _ id o m aC jV ho=>
   obtain⟨ob,hg,e2⟩:=M.cf e;unfold br at ho;rw[hg]at ho;have fin:∀{bq:Nat} {es:List (List IV)},fq g.w (g.φ id) bq es o m v->dj ν k g g.h (.iv (.int .i64 m)) ((Builtin.len_ #[t] ty #[v]).run P g.w):=by
    intro bq es hs;cases aB:g.φ id with
    |none=>rw[aB]at hs;obtain⟨⟨a,rfl⟩,rfl⟩:=hs;exact key _ _ _
    |some b=>rw[aB]at hs;obtain⟨x,cap,rfl,_⟩:=hs;exact key _ _ _
   cases ob with
   |cells cs=>exact ho.elim
   |buf v' bq es=>
    obtain⟨iI,e4⟩:=M.aL e2;obtain⟨rfl,rfl⟩:=ai e4;exact fin (ho.2 (by simpa using iI))
   |cm v' bq es=>
    obtain⟨iI,e4⟩:=M.aL e2;obtain⟨rfl,rfl⟩:=ai e4;exact fin (ho.2 (by simpa using iI))
   |map _=>exact ho.elim
 ·rename_i hu;have:str=true:=ht;subst this;unfold len at e;split at e
  ·rename_i h;cases h
  ·rename_i h;cases h
  ·rename_i h;cases h
  ·obtain⟨rfl,rfl⟩:=ai e;obtain rfl:=hv.str;exact .same r (v:=.int .i64 _) (by simp[Builtin.len_,run_underlying hu,goInt]) mkInt
  ·exact(ah e).elim
 ·cases ht
theorem Ja (P:Program) (w:World):∀(xs:List AV) (vs:List Value) (a:Int) (kk:IntKind) (z:Int),sm a xs kk=some z->vs.length=xs.length->(∀(j:Nat) (v:Value) (x:AV),vs[j]?=some v->xs[j]?=some x->RA ν g v x)->
  (vs.foldlM Builtin.min2 (.int kk a)).run P w = .ok (.int kk z) w:=by
 intro xs
 induction xs with
 |nil=>
  intro vs a kk z h hl _;have:vs=[]:=List.eq_nil_of_length_eq_zero hl;subst this;simp[sm]at h;subst h;rfl
 |cons x xs ih=>
  intro vs a kk z h hl hr;cases vs with
  |nil=>simp at hl
  |cons v vs=>
   have h0:=hr 0 v x rfl rfl;unfold sm at h;split at h
   ·rename_i heq;cases heq
   ·rename_i Su b r heq;cases heq;split at h
    ·rename_i hk;subst hk;obtain rfl:=h0.int;simp only[List.foldlM_cons,Sem.run_bind,Builtin.min2,Sem.run_pure,Result.andThen_ok];exact ih vs _ _ _ h (by simpa using hl) λj v' x' h1 h2=>hr (j+1) v' x' (by simpa using h1) (by simpa using h2)
    ·cases h
   ·cases h
theorem Jb (P:Program) (w:World):∀(xs:List AV) (vs:List Value) (a:Int) (kk:IntKind) (z:Int),qH a xs kk=some z->vs.length=xs.length->(∀(j:Nat) (v:Value) (x:AV),vs[j]?=some v->xs[j]?=some x->RA ν g v x)->
  (vs.foldlM Builtin.max2 (.int kk a)).run P w = .ok (.int kk z) w:=by
 intro xs
 induction xs with
 |nil=>
  intro vs a kk z h hl _;have:vs=[]:=List.eq_nil_of_length_eq_zero hl;subst this;simp[qH]at h;subst h;rfl
 |cons x xs ih=>
  intro vs a kk z h hl hr;cases vs with
  |nil=>simp at hl
  |cons v vs=>
   have h0:=hr 0 v x rfl rfl;unfold qH at h;split at h
   ·rename_i heq;cases heq
   ·rename_i Su b r heq;cases heq;split at h
    ·rename_i hk;subst hk;obtain rfl:=h0.int;simp only[List.foldlM_cons,Sem.run_bind,Builtin.max2,Sem.run_pure,Result.andThen_ok];exact ih vs _ _ _ h (by simpa using hl) λj v' x' h1 h2=>hr (j+1) v' x' (by simpa using h1) (by simpa using h2)
    ·cases h
   ·cases h
theorem jX {x:AV} {l:List AV} {h h':Hp} (e:(bh x).run h=some (l,h')) {v:Value} (hv:RA ν g v x) :
  h'=h/\v.cells.size=l.length/\∀(j:Nat) (c:AV),l[j]?=some c->∃u,v.cells[j]?=some u/\u.oneCell'=true/\RA ν g u c:=by
 have one:∀{z:AV},(M.ret [z]).run h=some (l,h')->RA ν g v z->v.oneCell'=true->h'=h/\v.cells.size=l.length/\∀(j:Nat) (c:AV),l[j]?=some c->∃u,v.cells[j]?=some u/\u.oneCell'=true/\RA ν g u c:=by
  intro z e hz h1;obtain⟨rfl,rfl⟩:=ai e;have hc:v.cells=#[v]:=by cases v<;>first | rfl | simp[Value.oneCell']at h1
  refine⟨rfl,by rw[hc];rfl,λj c hj=>?_⟩;cases j with
  |zero=>simp at hj;subst hj;exact⟨v,by rw[hc];rfl,h1,hz⟩
  |succ j=>simp at hj
 cases hv with
 |undef=>exact(ah e).elim
 |bD=>exact(ah e).elim
 |agg hn h1 hr=>
  obtain⟨rfl,rfl⟩:=ai e;refine⟨rfl,hn,λj c hj=>?_⟩;obtain⟨u,hu,hR⟩:=RA.jQ (.agg hn h1 hr) j c hj;exact⟨u,hu,h1 j u hu,hR⟩
 |iv hr=>exact one e (.iv hr) hr.one
 |own h1 h2=>exact one e (.own h1 h2) h1
 |ref h1 h2=>exact one e (.ref h1 h2) h1
 |dg hn hr=>exact one e (.dg hn hr) rfl
def RC (ν:Nat->Nat) (g:Gh) (vs:Array Value) (cs:List AV):Prop:=
 vs.size=cs.length/\∀(j:Nat) (c:AV),cs[j]?=some c->∃u,vs[j]?=some u/\u.oneCell'=true/\RA ν g u c
theorem RC.agg {vs:Array Value} {cs:List AV} (h:RC ν g vs cs):RA ν g (.agg vs) (.agg cs):=by
 have key:∀(j:Nat) (v:Value),vs[j]?=some v->∃c,cs[j]?=some c/\v.oneCell'=true/\RA ν g v c:=by
  intro j v hv;have hj:j<vs.size:=(Array.getElem?_eq_some_iff.1 hv).1;have hc:cs[j]?=some (cs[j]'(by have:=h.1;omega)):=List.getElem?_eq_getElem _;obtain⟨u,hu,h1,hR⟩:=h.2 j _ hc;rw[hv]at hu;cases hu;exact⟨_,hc,h1,hR⟩
 exact .agg h.1 (λj v hv=>let⟨_,_,h1,_⟩:=key j v hv;h1) λj v c hv hc=>by
  obtain⟨c',dm,_,hR⟩:=key j v hv;rw[hc]at dm;cases dm;exact hR
theorem nc (off:Nat):∀(l:List Value) (s:Nat) (cs:Array Value),off+s+l.length<=cs.size->
  let r:=(l.zipIdx s).foldl (λcs (p:Value×Nat)=>cs.setIfInBounds (off+p.2) p.1) cs
  r.size=cs.size/\∀j,r[j]?=if off+s<=j/\j<off+s+l.length then l[j - (off+s)]? else cs[j]?:=by
 intro l
 induction l with
 |nil=>intro s cs _;simp;intro j h1 h2;omega
 |cons v l ih=>
  intro s cs hl;simp only[List.zipIdx_cons,List.foldl_cons];simp only[List.length_cons]at hl;obtain⟨h1,h2⟩:=ih (s+1) (cs.setIfInBounds (off+s) v) (by simp;omega);refine⟨by rw[h1];simp,λj=>?_⟩;rw[h2 j];by_cases hj:j=off+s
  ·subst hj;rw[if_neg (by omega),if_pos (by simp),Array.getElem?_setIfInBounds_self_of_lt (by omega)];simp
  ·by_cases vB:off+(s+1)<=j/\j<off+(s+1)+l.length
   ·rw[if_pos vB,if_pos (by simp;omega)];rw[show j - (off+s)=(j - (off+(s+1)))+1 by omega];simp
   ·rw[if_neg vB,if_neg (by simp;omega)];rw[Array.getElem?_setIfInBounds_ne (Ne.symm hj)]
theorem lh {α:Type} (cs:List α) (o:Nat) (l:List α) (h:o+l.length<=cs.length) (j:Nat) :
  (bl cs o l)[j]?=if o<=j/\j<o+l.length then l[j - o]? else cs[j]?:=by
 unfold bl;rw[List.getElem?_append,List.getElem?_append];simp only[List.length_append,List.length_take,Nat.min_eq_left (show o<=cs.length by omega)];by_cases h1:j<o
 ·rw[if_pos (by omega),if_pos h1,if_neg (by omega),List.getElem?_take,if_pos h1]
 ·by_cases h2:j<o+l.length
  ·rw[if_pos h2,if_neg h1,if_pos ⟨by omega,h2⟩]
  ·rw[if_neg h2,if_neg (by omega),List.getElem?_drop,show o+l.length+(j - (o+l.length))=j by omega]
theorem gm {α:Type} (cs:List α) (o:Nat) (l:List α) (h:o+l.length<=cs.length):(bl cs o l).length=cs.length:=by simp[bl];omega
theorem RC.bl {vs us:Array Value} {cs l:List AV} {o:Nat} (h:RC ν g vs cs) (hu:RC ν g us l) (eR:o+l.length<=cs.length) :
  RC ν g ((us.toList.zipIdx).foldl (λcs (p:Value×Nat)=>cs.setIfInBounds (o+p.2) p.1) vs) (ao.bl cs o l):=by
 have hs:=nc o us.toList 0 vs (by have:=h.1;have:=hu.1;simp;omega);simp only[Nat.add_zero,Array.length_toList]at hs;refine⟨by rw[hs.1,gm _ _ _ eR,h.1],λj c hc=>?_⟩;rw[lh _ _ _ eR]at hc;rw[hs.2 j];have:=hu.1;by_cases hj:o<=j/\j<o+l.length
 ·rw[if_pos hj]at hc;rw[if_pos (by omega)];simpa using hu.2 _ c hc
 ·rw[if_neg hj]at hc;rw[if_neg (by omega)];exact h.2 j c hc
end
section
variable {ν:Nat->Nat} {P:Program} {k:Cx} {g:Gh}
theorem RC.mono {g':Gh} {vs:Array Value} {cs:List AV} (h:RC ν g vs cs) (hm:bY ν g g'):RC ν g' vs cs:=
 ⟨h.1,λj c hc=>let⟨u,h1,h2,h3⟩:=h.2 j c hc;⟨u,h1,h2,hm _ _ h3⟩⟩
theorem Hb:∀(cs:List AV) (s:Nat) (k:Cx) (g:Gh) (ls:List AV) (h':Hp),(fV s cs).run g.h=some (ls,h')->Rel ν k g->∀vs:Array Value,RC ν g vs cs->
  ∃nG,Rel ν k { g with φ:=nG,h:=h' }/\bY ν g { g with φ:=nG,h:=h' }/\RC ν { g with φ:=nG,h:=h' } vs ls/\(∀id,(get g.h id).isSome=true->nG id=g.φ id/\get h' id=get g.h id)/\
   ∀id,id<s->get h' id=get g.h id:=by
 intro cs
 induction cs with
 |nil=>
  intro s k g ls h' e r vs hv;obtain⟨rfl,rfl⟩:=ai e;exact⟨g.φ,r,.refl ν g,hv,λ_ _=>⟨rfl,rfl⟩,λ_ _=>rfl⟩
 |cons c cs ih=>
  intro s k g ls h' e r vs hv;have PE:RC ν g (vs.extract 1 vs.size) cs:=by
   refine⟨by have:=hv.1;simp at this ⊢;omega,λj c' hc=>?_⟩;obtain⟨u,h1,h2⟩:=hv.2 (j+1) c' (by simpa using hc)
   grind
  obtain⟨u,hu,Ss,Ha⟩:=hv.2 0 c rfl;have glue:∀{g':Gh} {c':AV} {rs:List AV},RC ν g' (vs.extract 1 vs.size) rs->RA ν g' u c'->RC ν g' vs (c'::rs):=by
   intro g' c' rs h1 h2;have dZ:0<vs.size:=(Array.getElem?_eq_some_iff.1 hu).1;refine⟨by have:=h1.1;simp at this ⊢;omega,λj c'' hc=>?_⟩;cases j with
   |zero=>simp at hc;subst hc;exact⟨u,hu,Ss,h2⟩
   |succ j=>
    obtain⟨u',h3,h4⟩:=h1.2 j c'' (by simpa using hc)
    grind
  have plain:∀{h1:Hp} {rs:List AV},(fV (s+1) cs).run g.h=some (rs,h1)->ls=c::rs->h'=h1->
    ∃nG,Rel ν k { g with φ:=nG,h:=h' }/\bY ν g { g with φ:=nG,h:=h' }/\RC ν { g with φ:=nG,h:=h' } vs ls/\(∀id,(get g.h id).isSome=true->nG id=g.φ id/\get h' id=get g.h id)/\
     ∀id,id<s->get h' id=get g.h id:=by
   intro h1 rs e1 e2 e3;subst e2 e3;obtain⟨nG,r1,m1,c1,o1,o2⟩:=ih (s+1) k g rs h' e1 r _ PE;exact⟨nG,r1,m1,glue c1 (m1 _ _ Ha),o1,λid cV=>o2 id (by omega)⟩
  by_cases uw:∃e',c = .iv (.aV e')
  ·obtain⟨e',rfl⟩:=uw;obtain⟨_,h1,e1,e2⟩:=aw e;obtain⟨hf,rfl⟩:=M.fC e1;obtain⟨_,h2,e3,e4⟩:=aw e2;obtain rfl:=bV e3;obtain⟨rs,h3,e5,e6⟩:=aw e4;obtain⟨rfl,rfl⟩:=ai e6;have hn:=r.new (s:=s) (ob:=.buf 0 e' []) (p:=none) (w':=g.w) hf (Nat.le_refl _) rfl rfl rfl (λ_ _=>rfl) (λb h=>by cases h) λ_=>.inl ⟨aU _ _ _,rfl⟩
   obtain⟨nG,r1,m1,c1,o1,o2⟩:=ih (s+1) k _ rs _ e5 hn.1 _ (PE.mono hn.2);have Jc:RA ν { g with φ:=cG g.φ s none,h:=set g.h s (.buf 0 e' []) } u (.own s 0 0 0):=by
    cases Ha with
    |iv hr=>
     cases hr with
     |aV a _=>
      refine .own rfl ?_;unfold br;simp only[ar,aU];exact⟨Nat.le_refl _,λ_=>⟨⟨a,rfl⟩,rfl⟩⟩
   refine⟨nG,r1,hn.2.trans m1,glue c1 (m1 _ _ Jc),λid cV=>?_,λid cV=>?_⟩
   ·have cA:id≠s:=λhe=>by rw[he,hf]at cV;cases cV
    obtain⟨p1,p2⟩:=o1 id (by rw[show get (set g.h s (.buf 0 e' [])) id=get g.h id from aF _ _ (Ne.symm cA)];exact cV);exact⟨p1.trans (iD _ _ cA),p2.trans (aF _ _ (Ne.symm cA))⟩
   ·exact(o2 id (by omega)).trans (aF _ _ (by omega))
  ·have Wh:fV s (c::cs)=(fV (s+1) cs).bind λrs=>.ret (c::rs):=by
    cases c with
    |iv x=>
     cases x with
     |aV e'=>exact absurd ⟨e',rfl⟩ uw
     |_=>rfl
    |_=>rfl
   rw[Wh]at e;obtain⟨rs,h1,e1,e2⟩:=aw e;obtain⟨rfl,rfl⟩:=ai e2
   simp_all
theorem alloc_old (w:World) (o:Obj) (b:Nat) (h:b<w.heap.size):(w.alloc o).heap[b]?=w.heap[b]?:=by first | exact heap_alloc_old w o b h | exact heap_alloc_old w o h
theorem pV (r:Rel ν k g) {slot:Nat} {t:TypeId} {vs:Array Value} {cs:List AV} (hv:RC ν g vs cs) {h':Hp} {y:AV}
  (e:((M.fresh slot).bind λ_=>(fV (slot+1) cs).bind λl=>(M.write slot (.cells l)).bind λ_=>M.ret (.ref slot 0 0 0)).run g.h=some (y,h')) :
  dj ν k g h' y (.ok (.pointer (some ⟨g.w.heap.size,0,none⟩)) (g.w.alloc (.cells vs t))):=by
 obtain⟨_,h1,e1,e2⟩:=aw e;obtain⟨hf,rfl⟩:=M.fC e1;obtain⟨l,h2,e3,e4⟩:=aw e2;obtain⟨nG,r1,m1,c1,o1,o2⟩:=Hb cs (slot+1) k g l h2 e3 r vs hv;obtain⟨_,h3,e5,e6⟩:=aw e4;obtain rfl:=bV e5;obtain⟨rfl,rfl⟩:=ai e6;have hn:=r1.new (s:=slot) (ob:=.cells l) (p:=some g.w.heap.size) (w':=g.w.alloc (.cells vs t)) (by rw[o2 slot (by omega)];exact hf) (by simp) rfl rfl rfl (λb hb=>alloc_old _ _ _ hb)
  (λb h=>by cases h;exact Nat.le_refl _) λhm=>by
   refine⟨g.w.heap.size,aU _ _ _,λhi=>?_,⟨by simp,λo=>World.frozen?_alloc_new _ _ _ _⟩,λj c hc=>?_⟩
   ·exact Nat.lt_irrefl _ (r.small _ hi)
   ·obtain⟨u,h1,h2,h3⟩:=c1.2 j c hc;exact⟨u,by rw[World.cell?_alloc_new];exact h1,h2,hm _ _ h3⟩
 refine⟨_,_,rfl,rfl,hn.1,m1.trans hn.2,.ref rfl ?_⟩;unfold bA;simp only[ar,aU];exact⟨trivial,trivial,_,rfl,rfl⟩
theorem D3 (r:Rel ν k g) {slot:Nat} {t:TypeId} {v:Value} {x y:AV} (hv:RA ν g v x) {h':Hp}
  (e:((bh x).bind λxs=>(M.fresh slot).bind λ_=>(fV (slot+1) xs).bind λl=>(M.write slot (.cells l)).bind λ_=>M.ret (.ref slot 0 0 0)).run g.h=some (y,h')) :
  dj ν k g h' y ((Instr.box t v).run P g.w):=by
 obtain⟨xs,h1,e1,e2⟩:=aw e;obtain⟨rfl,hs,hc⟩:=jX e1 hv;have:=pV (t:=t) r ⟨hs,hc⟩ e2;simpa[Instr.box,newVar,newRow]using this
def BH:Value->IV->Bool
 |v,.junk=>v.oneCell'
 |.int kk n,.int k' m=>kk==k'&&n==m
 |.bool b,.bool c=>b==c
 |.string s,.str t=>s.data.toList==t.data.toList
 |.slice none 0 0,.aV _=>true
 |.pointer none,.dM=>true
 |_,_=>false
theorem rD {v:Value} {x:IV} (h:BH v x=true) (I:Nat->Prop) (w:World):RI ν I w v x:=by
 unfold BH at h;split at h
 ·exact .junk _ h
 ·simp only[Bool.and_eq_true,beq_iff_eq]at h;obtain⟨rfl,rfl⟩:=h;exact .int _ _
 ·have:=beq_iff_eq.1 h;subst this;exact .bool _
 ·rename_i s t;have:=beq_iff_eq.1 h;have:s=t:=by
   cases s;cases t;simp at this;simp[this]
  subst this;exact .str _
 ·exact .aV _ _
 ·exact .dM
 ·cases h
def qU:List Value->List IV->Bool
 |[],[]=>true
 |v::vs,x::xs=>BH v x&&qU vs xs
 |_,_=>false
theorem nw:∀{vs:List Value} {xs:List IV},qU vs xs=true->vs.length=xs.length/\∀(j:Nat) (x:IV),xs[j]?=some x->∃v,vs[j]?=some v/\BH v x=true
 |[],[],_=>⟨rfl,λj x h=>by simp at h⟩
 |v::vs,x::xs,h=>by
  simp only[qU,Bool.and_eq_true]at h;obtain⟨h1,h2⟩:=nw h.2
  grind
 |[],_::_,h=>by simp[qU]at h
 |_::_,[],h=>by simp[qU]at h
theorem D4 {vs:Array Value} {xs:List IV} (h:qU vs.toList xs=true):RC ν g vs (xs.map .iv):=by
 obtain⟨h1,h2⟩:=nw h;refine⟨by simpa using h1,λj c hc=>?_⟩;simp only[List.getElem?_map,Option.map_eq_some_iff]at hc;obtain⟨x,hx,rfl⟩:=hc;obtain⟨v,hv,mT⟩:=h2 j x hx;have hR:RI ν g.I g.w v x:=rD mT _ _;exact⟨v,by simpa using hv,hR.one,.iv hR⟩
def sr (P:Program) (t:TypeId) (z:List IV):Bool:=
 match P.info? t with
 |some i=>(match i.zero with | some v=>qU v.cells.toList z | none=>false)
 |none=>false
theorem qV {t:TypeId} {z:List IV} (h:sr P t z=true):∃i v,P.info? t=some i/\i.zero=some v/\qU v.cells.toList z=true:=by
 unfold sr at h
 grind
theorem wb (r:Rel ν k g) {slot:Nat} {t:TypeId} {z:List IV} (ht:sr P t z=true) {y:AV} {h':Hp}
  (e:((M.fresh slot).bind λ_=>(fV (slot+1) (z.map .iv)).bind λl=>(M.write slot (.cells l)).bind λ_=>M.ret (.ref slot 0 0 0)).run g.h=some (y,h')) :
  dj ν k g h' y ((Instr.alloc t true (.tuple #[])).run P g.w):=by
 obtain⟨i,v,hi,hz,hc⟩:=qV ht;have:=pV (t:=t) r (D4 hc) e;simpa[Instr.alloc,zeroValue,typeInfo,hi,hz,newVar,newRow]using this
theorem Hc (r:Rel ν k g) {slot e:Nat} {a:Option Addr} {y:AV} {h':Hp}
  (e':((M.fresh slot).bind λ_=>(M.write slot (.buf 0 e [])).bind λ_=>M.ret (.own slot 0 0 0)).run g.h=some (y,h')):dj ν k g h' y (.ok (.slice a 0 0) g.w):=by
 obtain⟨_,h1,e1,e2⟩:=aw e';obtain⟨hf,rfl⟩:=M.fC e1;obtain⟨_,h2,e3,e4⟩:=aw e2;obtain rfl:=bV e3;obtain⟨rfl,rfl⟩:=ai e4;have hn:=r.new (s:=slot) (ob:=.buf 0 e []) (p:=none) (w':=g.w) hf (Nat.le_refl _) rfl rfl rfl (λ_ _=>rfl) (λb h=>by cases h) λ_=>.inl ⟨aU _ _ _,rfl⟩
 refine⟨{ g with φ:=cG g.φ slot none,h:=set g.h slot (.buf 0 e []) },_,rfl,rfl,hn.1,hn.2,.own rfl ?_⟩;unfold br;simp only[ar,aU];exact⟨Nat.le_refl _,λ_=>⟨⟨a,rfl⟩,rfl⟩⟩
end
section
variable {ν:Nat->Nat} {P:Program} {k:Cx} {g:Gh}
theorem mG (w:World) (b:Nat):∀(vs:List Value) (o k:Nat),k≠b->(w.setCells b o vs).heap[k]?=w.heap[k]?:=by
 intro vs
 induction vs generalizing w with
 |nil=>intro o k _;rfl
 |cons v vs ih=>intro o k hk;rw[World.setCells,ih _ _ _ hk];exact heap_setCell_other _ _ _ _ hk
theorem gW (w:World) (b:Nat):∀(vs:List Value) (o:Nat),(w.setCells b o vs).heap.size=w.heap.size:=by
 intro vs
 induction vs generalizing w with
 |nil=>intro o;rfl
 |cons v vs ih=>intro o;rw[World.setCells,ih];simp
theorem nd (w:World) (b:Nat):∀(vs:List Value) (o:Nat),(w.setCells b o vs).os=w.os/\(w.setCells b o vs).tape=w.tape/\(w.setCells b o vs).output=w.output:=by
 intro vs
 induction vs generalizing w with
 |nil=>intro o;exact⟨rfl,rfl,rfl⟩
 |cons v vs ih=>intro o;rw[World.setCells];exact ih _ _
theorem gn (w:World) (b o:Nat) (vs:List Value) (hc:∀j,j<vs.length->(w.cell? ⟨b,o+j,none⟩).isSome=true) (i:Nat) :
  (w.setCells b o vs).cell? ⟨b,i,none⟩=if o<=i/\i<o+vs.length then vs[i - o]? else w.cell? ⟨b,i,none⟩:=by
 by_cases h:o<=i/\i<o+vs.length
 ·rw[if_pos h];have:=World.cell?_setCells_in b vs o w hc (i - o) (by omega);rw[show o+(i - o)=i by omega]at this;rw[this,List.getElem?_eq_getElem (by omega)]
 ·rw[if_neg h];exact World.cell?_setCells_out b vs o w _ λ_ _=>by simp only[];omega
theorem jR (w:World) (b o:Nat) (vs:List Value) (hc:∀j,j<vs.length->(w.cell? ⟨b,o+j,none⟩).isSome=true) (i:Nat) (h:(w.cell? ⟨b,i,none⟩).isSome=true) :
  ((w.setCells b o vs).cell? ⟨b,i,none⟩).isSome=true:=by
 rw[gn w b o vs hc i];split
 ·rename_i h';rw[List.getElem?_eq_getElem (by omega)];rfl
 ·exact h
theorem fq.put {w w':World} {b e o n:Nat} {es es':List (List IV)} {v:Value} (h:fq w (some b) e es o n v) (hl:es.length<=es'.length)
  (hc:∀c,(w.cell? ⟨b,c,none⟩).isSome=true->(w'.cell? ⟨b,c,none⟩).isSome=true):fq w' (some b) e es' o n v:=by
 obtain⟨x,cap,e1,e2,e3,e4,e5⟩:=h;exact⟨x,cap,e1,by omega,e3,e4,λhx c h'=>hc c (e5 hx c h')⟩
theorem Rel.put (r:Rel ν k g) {id v e b off v':Nat} {es es':List (List IV)} {vs:List Value} (hg:get g.h id=some (.buf v e es)) (aB:g.φ id=some b)
  (iu:∀j,j<vs.length->(g.w.cell? ⟨b,off+j,none⟩).isSome=true) (hv:v'=v/\es.length<=es'.length\/v'=v+1)
  (aH:(∀v x,RI ν g.I g.w v x->RI ν g.I (g.w.setCells b off vs) v x)->Row ν g.I (g.w.setCells b off vs) b e es') :
  Rel ν k { g with w:=g.w.setCells b off vs,h:=set g.h id (.buf v' e es') }/\bY ν g { g with w:=g.w.setCells b off vs,h:=set g.h id (.buf v' e es') }:=by
 obtain⟨eU,dP⟩:¬g.I b/\yO g.w b:=by
  rcases r.ob id _ hg with⟨h1,_⟩|⟨b',h1,h2,h3,_⟩
  ·rw[aB]at h1;cases h1
  ·rw[aB]at h1;cases h1;exact⟨h2,h3⟩
 have bS:cG g.φ id (g.φ id)=g.φ:=by funext i;simp only[cG];split<;>simp_all
 have gl:=nd g.w b vs off;have ht:=r.nq (s:=id) (ob:=.buf v' e es') (p:=g.φ id) (w':=g.w.setCells b off vs) (I':=g.I) hg (λb' h=>by rw[aB]at h;cases h;exact eU) (by rw[gW];exact Nat.le_refl _) gl.1 gl.2.1 gl.2.2
  (λb' _ cA=>mG _ _ _ _ _ λhe=>cA (by rw[he];exact aB)) (λ_ h=>h) (λ_ h=>.inl h) (.inl rfl)
  (λu o n aC ho=>by
   unfold br at ho ⊢;rw[hg]at ho;simp only[ar,aU];obtain⟨h1,h2⟩:=ho;rcases hv with⟨rfl,hl⟩|rfl
   ·refine⟨h1,λhe=>?_⟩;have:=h2 he;rw[aB]at this ⊢;exact this.put hl λc hc=>jR _ _ _ _ iu _ hc
   ·exact⟨by omega,λhe=>by omega⟩)
  (λu aC i j hr=>by
   unfold bA at hr ⊢;rw[hg]at hr;simp only[ar,aU];obtain⟨h1,h2⟩:=hr;rcases hv with⟨rfl,hl⟩|rfl
   ·exact⟨h1,h2⟩
   ·exact⟨by omega,λhe=>by omega⟩)
  (λeD _=>.inr ⟨b,(aU _ _ _).trans aB,eU,⟨by rw[gW];exact dP.1,λo=>by rw[World.frozen?_setCells];exact dP.2 o⟩,aH eD⟩)
 rw[bS]at ht;exact ht
theorem ta {t:TypeId} {i:TypeInfo} (hi:P.info? t=some i) {b off:Nat} {v:Value} {w:World} (hs:v.cells.size=i.size) (hc:∀j,j<i.size->(w.cell? ⟨b,off+j,none⟩).isSome=true)
  (hf:∀o,w.frozen? ⟨b,o,none⟩=false) (h1:∀u ∈ v.cells.toList,u.oneCell'=true) :
  (Instr.storeAt t (.pointer (some ⟨b,off,none⟩)) v).run P w = .ok () (w.setCells b off v.cells.toList):=by
 have:=run_storeCells_cells (P:=P) b off v.cells.toList 0 w (by simpa[hs]using hc) (λ_ _=>hf _) h1;simp[Instr.storeAt,Instr.sureAddr,storeVar,run_sizeOf hi,hs,this]
def qW (P:Program) (t:TypeId) (sz:Nat):Bool:=match P.info? t with | some i=>i.size==sz | none=>false
theorem og {t:TypeId} {sz:Nat} (h:qW P t sz=true):∃i,P.info? t=some i/\i.size=sz:=by
 unfold qW at h;split at h
 ·exact⟨_,by assumption,by simpa using h⟩
 ·cases h
theorem yR (r:Rel ν k g) {slot:Nat} {t:TypeId} {sz:Nat} (ht:qW P t sz=true) {va vx:Value} {a x y:AV} (iI:RA ν g va a) (Ll:RA ν g vx x) {h':Hp}
  (e':(store slot sz a x).run g.h=some (y,h')) :
  ∃g',(Instr.storeAt t va vx).run P g.w = .ok () g'.w/\y = .bD []/\g'.h=h'/\Rel ν k g'/\bY ν g g':=by
 obtain⟨i,hi,rfl⟩:=og ht;obtain⟨xs,h1,e1,e2⟩:=aw e';obtain⟨rfl,hs,hc⟩:=jX e1 Ll;obtain⟨hl,e4⟩:=M.aL e2;have kU:xs.length=i.size:=by simpa using hl
 have da:∀u ∈ vx.cells.toList,u.oneCell'=true:=by
  intro u hu;obtain⟨j,hj,rfl⟩:=List.getElem_of_mem hu;simp only[Array.length_toList]at hj;obtain⟨u',h1,h2,_⟩:=hc j _ (List.getElem?_eq_getElem (by omega));rw[Array.getElem?_eq_getElem hj]at h1;cases h1;simpa using h2
 split at e4
 case h_2=>exact(ah e4).elim
 rename_i id aC i' j;cases iI with
 |ref gA hr=>
  obtain⟨ob,hg,e6⟩:=M.cf e4;unfold bA at hr;rw[hg]at hr;cases ob with
  |cm _ _ _=>exact(ah e6).elim
  |map _=>exact(ah e6).elim
  |cells cs=>
   obtain⟨rfl,rfl,b,aB,rfl⟩:=hr;obtain⟨eR,e8⟩:=M.aL e6;have z8:j+i.size<=cs.length:=by simpa using eR
   obtain⟨l,h5,e9,gV⟩:=aw e8;obtain⟨nG,r1,m1,c1,o1,o2⟩:=Hb xs slot k g l h5 e9 r vx.cells ⟨hs,hc⟩;obtain⟨_,h6,Aa,tA⟩:=aw gV;obtain rfl:=bV Aa;obtain⟨rfl,rfl⟩:=ai tA;obtain⟨b',bS,eU,dP,wc⟩:=r.ob id _ hg;rw[aB]at bS;cases bS;have pU:l.length=i.size:=by have:=c1.1;omega
   have hex:∀m,m<vx.cells.toList.length->(g.w.cell? ⟨b,j+m,none⟩).isSome=true:=by
    intro m hm;simp only[Array.length_toList]at hm;obtain⟨u,hu,_⟩:=wc (j+m) _ (List.getElem?_eq_getElem (by omega));rw[hu];rfl
   have cP:=ta hi (b:=b) (off:=j) (v:=vx) (w:=g.w) (by omega) (λm hm=>hex m (by simp;omega)) dP.2 da;have vC:get h5 id=some (.cells cs):=by rw[(o1 id (by rw[hg];rfl)).2];exact hg
   have No:nG id=some b:=by rw[(o1 id (by rw[hg];rfl)).1];exact aB
   have gl:=nd g.w b vx.cells.toList j;have Zl:cG nG id (nG id)=nG:=by funext m;simp only[cG];split<;>simp_all
   have ht:=r1.nq (s:=id) (ob:=.cells (bl cs j l)) (p:=nG id) (w':=g.w.setCells b j vx.cells.toList) (I':=g.I) vC (λb' h=>by simp only[No]at h;cases h;exact eU)
    (by rw[gW];exact Nat.le_refl _) gl.1 gl.2.1 gl.2.2
    (λb' _ cA=>mG _ _ _ _ _ λhe=>cA (by rw[he];exact No)) (λ_ h=>h) (λ_ h=>.inl h) (.inl rfl)
    (λu o n aC ho=>by
     unfold br at ho;simp only[vC]at ho)
    (λu aC m n hr=>by
     unfold bA at hr ⊢;simp only[vC]at hr;simp only[ar,aU];exact hr)
    (λ_ hm=>by
     refine⟨b,(aU _ _ _).trans No,eU,⟨by rw[gW];exact dP.1,λo=>by rw[World.frozen?_setCells];exact dP.2 o⟩,λm c eN=>?_⟩;rw[lh _ _ _ (by omega)]at eN;simp only[];rw[gn _ _ _ _ hex];simp only[Array.length_toList,hs,kU];by_cases eV:j<=m/\m<j+i.size
     ·rw[if_pos (by omega)]at eN;rw[if_pos eV];obtain⟨u,h1,h2,h3⟩:=c1.2 _ c eN;exact⟨u,by simpa using h1,h2,hm _ _ h3⟩
     ·rw[if_neg (by omega)]at eN;rw[if_neg eV];obtain⟨u,h1,h2,h3⟩:=wc m c eN;exact⟨u,h1,h2,hm _ _ (m1 _ _ h3)⟩)
   rw[Zl]at ht;exact⟨_,cP,rfl,rfl,ht.1,m1.trans ht.2⟩
  |buf v0 e0 es0=>
   obtain⟨l,h4,e7,e8⟩:=aw e6;obtain⟨V,hV⟩:=pick hc;obtain⟨I1,f1,pU,hx⟩:=(nr ν 8).list xs k g l h4 e7 r V λj c h=>(hV j c h).2.2
   obtain⟨pR,iq,gV⟩:=M.cf e8;cases pR with
   |cells _=>exact(ah gV).elim
   |cm _ _ _=>exact(ah gV).elim
   |map _=>exact(ah gV).elim
   |buf v e es=>
    obtain⟨cg,tA⟩:=M.aL gV;simp only[Bool.and_eq_true,beq_iff_eq,Nat.ble_eq]at cg;obtain⟨hv,eR⟩:=cg;obtain⟨c,qJ,D5⟩:=M.lift_bind tA;obtain⟨_,h8,Sv,Sw⟩:=aw D5;obtain rfl:=bV Sv;obtain⟨rfl,rfl⟩:=ai Sw;have hR:=f1.mono _ _ (.ref gA (by unfold bA;rw[hg];exact hr):RA ν g va (.ref id aC i' j));cases hR with
    |ref _ hR=>
    unfold bA at hR;simp only[iq]at hR;obtain⟨b,aB,rfl⟩:=hR.2 hv;have r1:=f1.rel;rcases r1.ob id _ iq with⟨h1,_⟩|⟨b',h1,eU,dP,aH⟩
    ·simp only[aB]at h1;cases h1
    simp only[aB]at h1;cases h1;simp only[]at eU dP aH;have PF:c.length=e:=aH.1 c (List.mem_of_getElem? qJ);have hex:∀m,m<vx.cells.toList.length->(g.w.cell? ⟨b,i'*e+j+m,none⟩).isSome=true:=by
     intro m hm;simp only[Array.length_toList]at hm;obtain⟨u,hu,_⟩:=aH.2 i' (j+m) c _ qJ (List.getElem?_eq_getElem (by omega));rw[Nat.add_assoc,hu];rfl
    have cP:=ta hi (b:=b) (off:=i'*e+j) (v:=vx) (w:=g.w) (by omega) (λm hm=>hex m (by simp;omega)) dP.2 da;have cK:i'<es.length:=by
     rcases Nat.lt_or_ge i' es.length with h | h
     ·exact h
     ·rw[List.getElem?_eq_none h]at qJ;cases qJ
    have jz:=r1.put (id:=id) (v:=v) (e:=e) (b:=b) (off:=i'*e+j) (v':=v) (es:=es) (es':=es.set i' (bl c j l)) (vs:=vx.cells.toList) iq aB hex (.inl ⟨rfl,by simp⟩)
     (λeD=>by
      refine⟨λc' dm=>?_,λi2 j2 c' x' h1 h2=>?_⟩
      ·rcases List.mem_or_eq_of_mem_set dm with h | h
       ·exact aH.1 c' h
       ·rw[h,gm _ _ _ (by omega)];exact PF
      ·simp only[];rw[gn _ _ _ _ hex];simp only[Array.length_toList,hs,kU];rw[List.getElem?_set]at h1;by_cases D6:i'=i2
       ·subst D6;rw[if_pos rfl,if_pos cK]at h1;cases h1;rw[lh _ _ _ (by omega)]at h2;by_cases eV:j<=j2/\j2<j+l.length
        ·rw[if_pos eV]at h2;rw[if_pos (by omega)];obtain⟨c0,Sx⟩:∃c0,xs[j2 - j]?=some c0:=⟨_,List.getElem?_eq_getElem (by omega)⟩;obtain⟨u,hu,_,_⟩:=hc _ c0 Sx;refine⟨u,?_,?_⟩
         ·rw[show i'*e+j2 - (i'*e+j)=j2 - j by omega];simpa using hu
         ·have:=(hV _ c0 Sx).1;rw[hu]at this;cases this;exact eD _ _ (hx _ x' h2)
        ·rw[if_neg eV]at h2;rw[if_neg (by omega)];obtain⟨u,h3,h4⟩:=aH.2 i' j2 c x' qJ h2;exact⟨u,h3,eD _ _ h4⟩
       ·rw[if_neg D6]at h1;have vB:j2<e:=by
         have:=aH.1 c' (List.mem_of_getElem? h1);rcases Nat.lt_or_ge j2 c'.length with h | h
         ·omega
         ·rw[List.getElem?_eq_none h]at h2;cases h2
        have ga:¬(i'*e+j<=i2*e+j2/\i2*e+j2<i'*e+j+i.size):=by
         intro⟨ha,hb⟩;rcases Nat.lt_or_gt_of_ne D6 with bC | bC
         ·have:i'*e+e<=i2*e:=by rw[<-Nat.succ_mul];exact Nat.mul_le_mul_right _ bC
          omega
         ·have:i2*e+e<=i'*e:=by rw[<-Nat.succ_mul];exact Nat.mul_le_mul_right _ bC
          omega
        rw[if_neg ga];obtain⟨u,h3,h4⟩:=aH.2 i2 j2 c' x' h1 h2;exact⟨u,h3,eD _ _ h4⟩)
    exact⟨_,cP,rfl,rfl,jz.1,f1.mono.trans jz.2⟩
end
theorem M.rI {α β γ:Type} (f:β->M γ) (h:α->β):∀l:List α,M.aG f (l.map h)=M.aG (λx=>f (h x)) l
 |[]=>rfl
 |x::r=>by simp only[List.map_cons,M.aG,M.rI f h r]
section
variable {ν:Nat->Nat} {P:Program} {k:Cx} {g:Gh}
def oZ (ν:Nat->Nat) (I:Nat->Prop) (w:World) (vs:Array Value) (e:Nat) (es:List (List IV)):Prop:=
 vs.size=es.length*e/\(∀c ∈ es,c.length=e)/\∀(i j:Nat) (c:List IV) (x:IV),es[i]?=some c->c[j]?=some x->∃u,vs[i*e+j]?=some u/\RI ν I w u x
theorem bg {α:Type} {l:List α} {i:Nat} {x:α} (h:l[i]?=some x):i<l.length:=by
 rcases Nat.lt_or_ge i l.length with h' | h'
 ·exact h'
 ·rw[List.getElem?_eq_none h']at h;cases h
theorem oZ.step {I:Nat->Prop} {w:World} {vs us:Array Value} {e i0:Nat} {es:List (List IV)} {l:List IV} (h:oZ ν I w vs e es) (hi:i0<es.length) (hu:us.size=e) (hl:l.length=e)
  (hr:∀(m:Nat) (x:IV),l[m]?=some x->∃u,us[m]?=some u/\RI ν I w u x) :
  oZ ν I w ((us.toList.zipIdx).foldl (λcs (p:Value×Nat)=>cs.setIfInBounds (i0*e+p.2) p.1) vs) e (es.set i0 l):=by
 have eR:i0*e+e<=vs.size:=by rw[h.1,<-Nat.succ_mul];exact Nat.mul_le_mul_right _ hi
 have hs:=nc (i0*e) us.toList 0 vs (by simp;omega);simp only[Nat.add_zero,Array.length_toList,hu]at hs;refine⟨by rw[hs.1,h.1];simp,λc hc=>?_,λi j c x h1 h2=>?_⟩
 ·rcases List.mem_or_eq_of_mem_set hc with h' | h'
  ·exact h.2.1 c h'
  ·rw[h',hl]
 ·rw[hs.2,List.getElem?_set]at *;by_cases pW:i0=i
  ·subst pW;rw[if_pos rfl,if_pos hi]at h1;cases h1;have hj:=bg h2;rw[if_pos (by omega),show i0*e+j - i0*e=j by omega];simpa using hr j x h2
  ·rw[if_neg pW]at h1;have hj:j<e:=by have:=bg h2;rw[h.2.1 c (List.mem_of_getElem? h1)]at this;exact this
   have ga:¬(i0*e<=i*e+j/\i*e+j<i0*e+e):=by
    intro⟨ha,hb⟩;rcases Nat.lt_or_gt_of_ne pW with bC | bC
    ·have:i0*e+e<=i*e:=by rw[<-Nat.succ_mul];exact Nat.mul_le_mul_right _ bC
     omega
    ·have:i*e+e<=i0*e:=by rw[<-Nat.succ_mul];exact Nat.mul_le_mul_right _ bC
     omega
   rw[if_neg ga];exact h.2.2 i j c x h1 h2
theorem Np {e n:Nat}:∀(ps:List (Nat×AV)) (k:Cx) (g:Gh) (out:List (Nat×List IV)) (h':Hp),
  (M.aG (λp:Nat×AV=>(bh p.2).bind λxs=>(M.ok (xs.length==e&&Nat.blt p.1 n)).bind λ_=>(M.aG (fz true 8) xs).bind λl=>M.ret (p.1,l)) ps).run g.h=some (out,h')->Rel ν k g->
  ∀vs:List (Nat×Value),vs.length=ps.length->(∀(j:Nat) (q:Nat×Value) (p:Nat×AV),vs[j]?=some q->ps[j]?=some p->q.1=p.1/\RA ν g q.2 p.2)->
  ∃I',ej ν k g h' I'/\out.length=vs.length/\∀(j:Nat) (p:Nat×List IV) (q:Nat×Value),out[j]?=some p->vs[j]?=some q->
   q.1=p.1/\p.1<n/\q.2.cells.size=e/\p.2.length=e/\∀(m:Nat) (x:IV),p.2[m]?=some x->∃u,q.2.cells[m]?=some u/\RI ν I' g.w u x:=by
 intro ps
 induction ps with
 |nil=>
  intro k g out h' e' r vs hl _;obtain⟨rfl,rfl⟩:=dS e';have:vs=[]:=List.eq_nil_of_length_eq_zero hl;subst this;exact⟨g.I,.refl r,rfl,λj p q h=>by simp at h⟩
 |cons p ps ih=>
  intro k g out h' e' r vs hl hv;obtain⟨y,h1,zs,e1,e2,rfl⟩:=dx e';cases vs with
  |nil=>simp at hl
  |cons q vs=>
   obtain⟨hq,Sy⟩:=hv 0 q p rfl rfl;obtain⟨xs,h2,e3,e4⟩:=aw e1;obtain⟨rfl,hs,hc⟩:=jX e3 Sy;obtain⟨cg,e6⟩:=M.aL e4;simp only[Bool.and_eq_true,beq_iff_eq,Nat.blt_eq]at cg;obtain⟨l,h4,e7,e8⟩:=aw e6;obtain⟨V,hV⟩:=pick hc;obtain⟨I1,f1,pU,hx⟩:=(nr ν 8).list xs k g l h4 e7 r V λj c h=>(hV j c h).2.2
   obtain⟨rfl,rfl⟩:=ai e8;obtain⟨I2,f2,tB,pX⟩:=ih k _ zs h' e2 f1.rel vs (by simpa using hl) λj q' p' h1 h2=>by
    obtain⟨a1,a2⟩:=hv (j+1) q' p' (by simpa using h1) (by simpa using h2);exact⟨a1,f1.mono _ _ a2⟩
   refine⟨I2,f1.trans f2,by simp[tB],λj p' q' h1 h2=>?_⟩;cases j with
   |zero=>
    simp at h1 h2;subst h1 h2;refine⟨hq,cg.2,by omega,by simp only[];omega,λm x hm=>?_⟩;have bC:=bg hm;simp only[]at bC;have hu:=(hV m _ (List.getElem?_eq_getElem (show m<xs.length by omega))).1;exact⟨V m,hu,(hx m x hm).mono f2.sub λ_ _ _ _ h=>h⟩
   |succ j=>exact pX j p' q' (by simpa using h1) (by simpa using h2)
theorem yS {I:Nat->Prop} {w:World} {e:Nat}:∀(out:List (Nat×List IV)) (vs:List (Nat×Value)) (cells:Array Value) (es:List (List IV)),out.length=vs.length->oZ ν I w cells e es->
  (∀(j:Nat) (p:Nat×List IV) (q:Nat×Value),out[j]?=some p->vs[j]?=some q->
   q.1=p.1/\p.1<es.length/\q.2.cells.size=e/\p.2.length=e/\∀(m:Nat) (x:IV),p.2[m]?=some x->∃u,q.2.cells[m]?=some u/\RI ν I w u x)->
  ∃jA,Instr.fill (λi=>some (i*e,e)) cells vs=some jA/\oZ ν I w jA e (bO es out):=by
 intro out
 induction out with
 |nil=>
  intro vs cells es hl aH _;have:vs=[]:=List.eq_nil_of_length_eq_zero hl.symm;subst this;exact⟨cells,rfl,aH⟩
 |cons p out ih=>
  intro vs cells es hl aH hh;cases vs with
  |nil=>simp at hl
  |cons q vs=>
   obtain⟨h1,h2,h3,h4,h5⟩:=hh 0 p q rfl rfl;have xR:=aH.step (i0:=p.1) (us:=q.2.cells) (l:=p.2) h2 h3 h4 h5;obtain⟨c',dm,jY⟩:=ih vs _ (es.set p.1 p.2) (by simpa using hl) xR λj p' q' a b=>by
    obtain⟨x1,x2,x3⟩:=hh (j+1) p' q' (by simpa using a) (by simpa using b);exact⟨x1,by simpa using x2,x3⟩
   refine⟨c',?_,jY⟩;rw[<-dm];have eR:¬(cells.size<q.1*e+e):=by
    have:p.1*e+e<=es.length*e:=by rw[<-Nat.succ_mul];exact Nat.mul_le_mul_right _ h2
    rw[aH.1,h1];omega
   obtain⟨i,v⟩:=q;simp only at h1 h3 eR;subst h1;simp only[Instr.fill,h3];rw[if_neg (by simp;omega)];congr 1;rw[<-Array.foldl_toList,Array.toList_zipIdx]
def Jd (P:Program) (t:TypeId) (len e:Nat) (z:List IV):Bool:=
 match P.underlying t with
 |some (.slice el)=>qW P el e&&sr P el z&&Nat.ble (len*e) 16777216&&z.length==e&&Nat.blt 0 e
 |_=>false
theorem we {zs:Array Value} {z:List IV} (hz:qU zs.toList z=true) (n:Nat) {I:Nat->Prop} {w:World} :
  oZ ν I w ((Array.range (n*zs.size)).map (zs[· % zs.size]!)) zs.size (List.replicate n z):=by
 obtain⟨h1,h2⟩:=nw hz;refine⟨by simp,λc hc=>by rw[List.eq_of_mem_replicate hc];simpa using h1.symm,λi j c x hi hj=>?_⟩;have cK:=bg hi;simp only[List.length_replicate]at cK;rw[List.getElem?_replicate,if_pos cK]at hi;cases hi;have l7:=bg hj;obtain⟨v,hv,hc⟩:=h2 j x hj;have D7:j<zs.size:=by simp at h1;omega
 have bC:i*zs.size+j<n*zs.size:=by
  have:i*zs.size+zs.size<=n*zs.size:=by rw[<-Nat.succ_mul];exact Nat.mul_le_mul_right _ cK
  omega
 refine⟨v,?_,rD hc _ _⟩;have ux:(i*zs.size+j) % zs.size=j:=by rw[Nat.add_comm,Nat.add_mul_mod_self_right,Nat.mod_eq_of_lt D7]
 simp only[Array.getElem?_map,Array.getElem?_range,if_pos bC,Option.map_some,ux];rw[getElem!_pos zs j D7];have:zs[j]?=some v:=by simpa using hv
 rw[Array.getElem?_eq_getElem D7]at this;exact this
theorem D8 (r:Rel ν k g) {slot:Nat} {t:TypeId} {n e:Nat} {z:List IV} (ht:Jd P t n e z=true) {ps:List (Nat×AV)} {vs:List (Nat×Value)} (hl:vs.length=ps.length)
  (hv:∀(j:Nat) (q:Nat×Value) (p:Nat×AV),vs[j]?=some q->ps[j]?=some p->q.1=p.1/\RA ν g q.2 p.2) {y:AV} {h':Hp}
  (e':((M.ok (z.length==e)).bind λ_=>
   (M.aG (λp:Nat×AV=>(bh p.2).bind λxs=>(M.ok (xs.length==e&&Nat.blt p.1 n)).bind λ_=>(M.aG (fz true 8) xs).bind λl=>M.ret (p.1,l)) ps).bind λl=>
   (M.fresh slot).bind λ_=>(M.write slot (.buf 0 e (bO (List.replicate n z) l))).bind λ_=>M.ret (.own slot 0 n 0)).run g.h=some (y,h')) :
  dj ν k g h' y ((Instr.buildSlice t n vs.toArray).run P g.w):=by
 unfold Jd at ht;split at ht
 case h_2=>cases ht
 rename_i el hu;simp only[Bool.and_eq_true,beq_iff_eq,Nat.ble_eq,Nat.blt_eq]at ht;obtain⟨⟨⟨⟨dZ,hz⟩,Zm⟩,wg⟩,pY⟩:=ht;obtain⟨i,hi,wh⟩:=og dZ;obtain⟨i',v,cK,Ab,mT⟩:=qV hz;rw[hi]at cK;cases cK;subst wh;have kV:v.cells.size=i.size:=by have:=(nw mT).1;simp at this;omega
 obtain⟨-,e2⟩:=M.aL e';obtain⟨out,h2,e3,e4⟩:=aw e2;obtain⟨I1,f1,kr,Je⟩:=Np ps k g out h2 e3 r vs hl hv;obtain⟨_,h3,e5,e6⟩:=aw e4;obtain⟨hf,rfl⟩:=M.fC e5;obtain⟨_,h4,e7,e8⟩:=aw e6;obtain rfl:=bV e7;obtain⟨rfl,rfl⟩:=ai e8;have Ac:=we (ν:=ν) mT n (I:=I1) (w:=g.w);rw[kV]at Ac;obtain⟨cells,jZ,aH⟩:=yS out vs _ _ kr Ac λj p q a b=>by
  obtain⟨x1,x2,x3⟩:=Je j p q a b;exact⟨x1,by simpa using x2,x3⟩
 have hlen:(bO (List.replicate n z) out).length=n:=by
  have:∀(o:List (Nat×List IV)) (l:List (List IV)),(bO l o).length=l.length:=by
   intro o
   induction o with
   |nil=>intro l;rfl
   |cons a o ih=>intro l;simp[bO,ih]
  rw[this];simp
 have cP:(Instr.buildSlice t n vs.toArray).run P g.w = .ok (.slice (some ⟨g.w.heap.size,0,none⟩) n n) (g.w.alloc (.cells cells el)):=by
  have Ad:¬(2 ^ 24<n*i.size):=by omega
  by_cases mO:n=0
  ·subst mO;simp only[Nat.zero_mul,Array.range_zero',List.map_toArray]at jZ;simp only[Instr.buildSlice,Sem.run_bind,run_underlying hu,Result.andThen_ok,run_sizeOf hi];simp at jZ;simp[jZ,newRow,Array.range_zero']
  ·simp only[Instr.buildSlice,Sem.run_bind,run_underlying hu,Result.andThen_ok,run_sizeOf hi];have Sz:¬n*i.size=0:=Nat.mul_ne_zero mO (by omega);simp[Ad,Sz,zeroValue,typeInfo,hi,Ab,kV,jZ,newRow]
 have r1:=f1.rel;have hn:=r1.new (s:=slot) (ob:=.buf 0 i.size (bO (List.replicate n z) out)) (p:=some g.w.heap.size) (w':=g.w.alloc (.cells cells el)) hf (by simp) rfl rfl rfl (λb hb=>alloc_old _ _ _ hb)
  (λb h=>by cases h;exact Nat.le_refl _) λhm=>by
   have eD:∀u x,RI ν I1 g.w u x->RI ν I1 (g.w.alloc (.cells cells el)) u x:=λu x h=>h.mono (λ_ h=>h) λb off w hb hc=>by
    rw[c6 (alloc_old _ _ _ (r1.small b hb))];exact hc
   refine .inr ⟨g.w.heap.size,aU _ _ _,λcK=>Nat.lt_irrefl _ (r1.small _ cK),⟨by simp,λo=>World.frozen?_alloc_new _ _ _ _⟩,aH.2.1,λa b c x h1 h2=>?_⟩;obtain⟨u,jW,hR⟩:=aH.2.2 a b c x h1 h2;exact⟨u,by simp only[];rw[World.cell?_alloc_new];exact jW,eD _ _ hR⟩
 refine⟨_,_,cP,rfl,hn.1,f1.mono.trans hn.2,.own rfl ?_⟩;unfold br;simp only[ar,aU];refine⟨Nat.le_refl _,λ_=>⟨0,n,rfl,by omega,Nat.le_refl _,.inl (by simp),λ_ c hc=>?_⟩⟩;rw[World.cell?_alloc_new,Array.getElem?_eq_getElem (by rw[aH.1,hlen];simpa using hc)];rfl
end
section
variable {ν:Nat->Nat} {P:Program} {k:Cx} {g:Gh}
theorem wi {e m:Nat} {f:Nat->Nat->Value}:∃news:List Value,news.length=m*e/\∀i j,i<m->j<e->news[i*e+j]?=some (f i j):=by
 refine⟨(List.range (m*e)).map λp=>f (p / e) (p % e),by simp,λi j hi hj=>?_⟩;have bC:i*e+j<m*e:=by
  have:i*e+e<=m*e:=by rw[<-Nat.succ_mul];exact Nat.mul_le_mul_right _ hi
  omega
 have hd:(i*e+j) / e=i:=by rw[Nat.mul_comm,Nat.mul_add_div (by omega),Nat.div_eq_of_lt hj,Nat.add_zero]
 have hm:(i*e+j) % e=j:=by rw[Nat.mul_comm,Nat.mul_add_mod,Nat.mod_eq_of_lt hj]
 simp[bC,hd,hm]
theorem qX {e m p:Nat} (h:p<m*e):∃i j,i<m/\j<e/\p=i*e+j:=by
 have he:0<e:=by
  rcases Nat.eq_zero_or_pos e with h0 | h0
  ·subst h0;simp at h
  ·exact h0
 refine⟨p / e,p % e,(Nat.div_lt_iff_lt_mul he).2 h,Nat.mod_lt _ he,?_⟩;rw[Nat.mul_comm];exact(Nat.div_add_mod p e).symm
def o7 (ν:Nat->Nat) (g:Gh) (v:Value) (e:Nat) (ys:List (List IV)) (news:List Value):Prop:=
 (∃a c,v = .slice a ys.length c/\(ys.length=0\/∃b off,a=some ⟨b,off,none⟩/\∀(p:Nat) (u:Value),news[p]?=some u->g.w.cell? ⟨b,off+p,none⟩=some u))/\
 news.length=ys.length*e/\(∀c ∈ ys,c.length=e)/\(∀u ∈ news,u.oneCell'=true)/\
 ∀(i j:Nat) (c:List IV) (x:IV),ys[i]?=some c->c[j]?=some x->∃u,news[i*e+j]?=some u/\RI ν g.I g.w u x
theorem o8 {b off a0 e m cap:Nat} {ys:List (List IV)} (hm:m=ys.length) (hl:∀c ∈ ys,c.length=e)
  (hc:∀(i j:Nat) (c:List IV) (x:IV),ys[i]?=some c->c[j]?=some x->∃u,g.w.cell? ⟨b,off+i*e+j,none⟩=some u/\RI ν g.I g.w u x) (ha:off=a0) :
  ∃news,o7 ν g (.slice (some ⟨b,a0,none⟩) m cap) e ys news:=by
 subst hm ha;have ez:∀i j,i<ys.length->j<e->∃u:Value,∀c x,ys[i]?=some c->c[j]?=some x->g.w.cell? ⟨b,off+i*e+j,none⟩=some u/\RI ν g.I g.w u x:=by
  intro i j hi hj;have qJ:ys[i]?=some ys[i]:=List.getElem?_eq_getElem hi;have hle:=hl _ (List.getElem_mem hi);obtain⟨u,h1,h2⟩:=hc i j _ _ qJ (List.getElem?_eq_getElem (by omega));exact⟨u,λc x h3 h4=>by
   rw[qJ]at h3;cases h3;rw[List.getElem?_eq_getElem (by omega)]at h4;cases h4;exact⟨h1,h2⟩⟩
 obtain⟨f,hf⟩:∃f:Nat->Nat->Value,∀i j,i<ys.length->j<e->∀c x,ys[i]?=some c->c[j]?=some x->g.w.cell? ⟨b,off+i*e+j,none⟩=some (f i j)/\RI ν g.I g.w (f i j) x:=by
  refine⟨λi j=>if h:i<ys.length/\j<e then Classical.choose (ez i j h.1 h.2) else .bool true,λi j hi hj=>?_⟩;have h:i<ys.length/\j<e:=⟨hi,hj⟩;simp only[dif_pos h];exact Classical.choose_spec (ez i j hi hj)
 obtain⟨news,hn,Ae⟩:=wi (e:=e) (m:=ys.length) (f:=f);have dt:∀(p:Nat) (u:Value),news[p]?=some u->∃i j c x,i<ys.length/\j<e/\p=i*e+j/\u=f i j/\ys[i]?=some c/\c[j]?=some x:=by
  intro p u hu;have hp:=bg hu;rw[hn]at hp;obtain⟨i,j,hi,hj,rfl⟩:=qX hp;rw[Ae i j hi hj]at hu;cases hu;have hle:=hl _ (List.getElem_mem hi);exact⟨i,j,_,_,hi,hj,rfl,rfl,List.getElem?_eq_getElem hi,List.getElem?_eq_getElem (by omega)⟩
 refine⟨news,⟨_,cap,rfl,.inr ⟨b,off,rfl,λp u hu=>?_⟩⟩,hn,hl,λu hu=>?_,λi j c x h1 h2=>?_⟩
 ·obtain⟨i,j,c,x,hi,hj,rfl,rfl,h3,h4⟩:=dt p u hu;rw[<-Nat.add_assoc];exact(hf i j hi hj c x h3 h4).1
 ·obtain⟨p,hp,rfl⟩:=List.getElem_of_mem hu;obtain⟨i,j,c,x,hi,hj,_,h5,h3,h4⟩:=dt p _ (List.getElem?_eq_getElem hp);rw[h5];exact(hf i j hi hj c x h3 h4).2.one
 ·have hi:=bg h1;have hj:j<e:=by have:=bg h2;rwa [hl c (List.mem_of_getElem? h1)]at this
  exact⟨_,Ae i j hi hj,(hf i j hi hj c x h1 h2).2⟩
theorem lj {v:Value} {e:Nat} {a:Option Addr} {c:Nat} (hv:v = .slice a 0 c):o7 ν g v e [] []:=
 ⟨⟨a,c,hv,.inl rfl⟩,by simp,λc h=>by simp at h,λu h=>by simp at h,λi j c x h=>by simp at h⟩
theorem rJ (r:Rel ν k g) {e:Nat} {x:AV} {ys:List (List IV)} {h':Hp} (e':(elems e x).run g.h=some (ys,h')) {v:Value} (hv:RA ν g v x):h'=g.h/\∃news,o7 ν g v e ys news:=by
 cases hv with
 |undef=>exact(ah e').elim
 |agg=>exact(ah e').elim
 |bD=>exact(ah e').elim
 |ref=>exact(ah e').elim
 |dg=>exact(ah e').elim
 |iv hr=>
  cases hr with
  |aV a _=>obtain⟨rfl,rfl⟩:=ai e';exact⟨rfl,_,lj rfl⟩
  |jg a cap _=>
   obtain⟨-,e2⟩:=M.aL e';obtain⟨rfl,rfl⟩:=ai e2;exact⟨rfl,_,lj rfl⟩
  |sl b off n cap bq es f hI hn jx pU hc hr=>
   obtain⟨he,e2⟩:=M.aL e';obtain⟨rfl,rfl⟩:=ai e2;have fB:bq=e:=by simpa using he
   subst fB;exact⟨rfl,o8 hn pU (λi j c x h1 h2=>⟨_,hc i j c x h1 h2,hr i j c x h1 h2⟩) rfl⟩
  |_=>exact(ah e').elim
 |@own _ id o m aC jV ho=>
  obtain⟨ob,hg,e2⟩:=M.cf e';unfold br at ho;rw[hg]at ho;have fin:∀{bq:Nat} {es:List (List IV)},(∀b,g.φ id=some b->Row ν g.I g.w b bq es)->bq=e->fq g.w (g.φ id) bq es o m v->∃news,o7 ν g v e ((es.drop o).take m) news:=by
   intro bq es aH he hs;subst he;cases aB:g.φ id with
   |none=>
    rw[aB]at hs;obtain⟨⟨a,rfl⟩,rfl⟩:=hs;exact⟨[],by simpa using lj (ν:=ν) (g:=g) (e:=bq) (v:=.slice a 0 0) rfl⟩
   |some b=>
    rw[aB]at hs;obtain⟨x,cap,rfl,h2,h3,h4,_⟩:=hs;by_cases hm:m=0
    ·subst hm;exact⟨[],by simpa using lj (ν:=ν) (g:=g) (e:=bq) (a:=some ⟨b,x,none⟩) (c:=cap) rfl⟩
    ·have hx:x=o*bq:=h4.resolve_right λh=>hm h.1
     have aH:=aH b aB;have eK:∀(i:Nat) (c:List IV),((es.drop o).take m)[i]?=some c->es[o+i]?=some c:=by
      intro i c hi;rw[List.getElem?_take]at hi;split at hi
      ·rwa [List.getElem?_drop]at hi
      ·cases hi
     exact o8 (by simp;omega) (λc hc=>aH.1 c (List.mem_of_mem_drop (List.mem_of_mem_take hc))) (λi j c y h1 h2=>by
      obtain⟨u,hu,hR⟩:=aH.2 (o+i) j c y (eK i c h1) h2;exact⟨u,by rwa [Nat.add_mul]at hu,hR⟩) hx.symm
  cases ob with
  |cells cs=>exact ho.elim
  |buf v' bq es=>
   obtain⟨eQ,gV⟩:=M.aL e2;obtain⟨rfl,rfl⟩:=ai gV;simp only[Bool.and_eq_true,beq_iff_eq]at eQ;refine⟨rfl,fin (λb aB=>?_) eQ.2 (ho.2 eQ.1)⟩;rcases r.ob id _ hg with⟨h1,_⟩|⟨b',h1,_,_,aH⟩
   ·rw[aB]at h1;cases h1
   ·rw[aB]at h1;cases h1;exact aH
  |cm v' bq es=>
   obtain⟨eQ,gV⟩:=M.aL e2;obtain⟨rfl,rfl⟩:=ai gV;simp only[Bool.and_eq_true,beq_iff_eq]at eQ;refine⟨rfl,fin (λb aB=>?_) eQ.2 (ho.2 eQ.1)⟩;rcases r.ob id _ hg with⟨h1,_⟩|⟨b',h1,_,aH⟩
   ·rw[aB]at h1;cases h1
   ·rw[aB]at h1;cases h1;exact aH
  |map _=>exact ho.elim
def wj (P:Program) (t u:TypeId) (e:Nat):Bool:=
 match P.underlying t,P.underlying u with
 |some (.slice el),some d=>(match d with | .int _=>false | _=>true)&&Nat.blt 0 e&&(match P.info? el with
  |some i=>i.size==e&&Nat.ble i.bytes 4096&&(match i.zero with | some z=>z.cells.size==e | none=>false)
  |none=>false)
 |_,_=>false
theorem Cj {t u:TypeId} {e:Nat} (h:wj P t u e=true):∃el d i z,P.underlying t=some (.slice el)/\P.underlying u=some d/\(∀kk,d≠.int kk)/\P.info? el=some i/\i.size=e/\i.bytes<=4096/\i.zero=some z/\z.cells.size=e/\0<e:=by
 unfold wj at h;split at h
 case h_2=>cases h
 rename_i el d hu hd;simp only[Bool.and_eq_true,Nat.blt_eq]at h;obtain⟨⟨h1,h2⟩,h3⟩:=h;split at h3
 case h_2=>cases h3
 rename_i i hi;simp only[Bool.and_eq_true,beq_iff_eq,Nat.ble_eq]at h3;obtain⟨⟨h4,h5⟩,h6⟩:=h3;split at h6
 case h_2=>cases h6
 rename_i z hz;exact⟨el,d,i,z,hu,hd,(λkk he=>by subst he;cases h1),hi,h4,h5,hz,by simpa using h6,h2⟩
theorem su {v:Value} {e:Nat} {ys:List (List IV)} {news:List Value} (h:o7 ν g v e ys news) {w:World} (hw:∀b off u,g.w.cell? ⟨b,off,none⟩=some u->w.cell? ⟨b,off,none⟩=some u) :
  (Builtin.lenOf v).run P w = .ok ys.length w/\(Builtin.firstCells e ys.length v).run P w = .ok news.toArray w:=by
 obtain⟨⟨a,c,rfl,ha⟩,hn,_⟩:=h;refine⟨by simp[Builtin.lenOf],?_⟩;rcases ha with h0 | ⟨b,off,rfl,hc⟩
 ·have:news=[]:=List.eq_nil_of_length_eq_zero (by rw[hn,h0];simp);subst this;cases a with
  |none=>simp[Builtin.firstCells]
  |some a=>simp[Builtin.firstCells,h0,loadCells,loadCellsFrom]
 ·exact run_firstCells_some w e ys.length _ _ _ news hn λj u hu=>by rw[Addr.add_lit];exact hw _ _ _ (hc j u hu)
theorem rK {need cap bytes:Nat} (h:cap<need) (hn:need<=1073741824) (hb:bytes<=4096):Builtin.nextslicecap need cap*bytes<=281474976710656:=by
 refine growslice_fits h ?_;exact Nat.le_trans (Nat.mul_le_mul hn hb) (by decide)
theorem j0 {t u ty:TypeId} {e:Nat} (ht:wj P t u e=true) {base:Option Addr} {n cap:Nat} {olds:List Value} (kr:olds.length=n*e)
  (ho:n=0\/∃b,base=some ⟨b,0,none⟩/\∀(p:Nat) (x:Value),olds[p]?=some x->g.w.cell? ⟨b,p,none⟩=some x) {y:Value} {ys:List (List IV)} {news:List Value} (hy:o7 ν g y e ys news)
  (iM:n+ys.length<=1073741824) :
  (n+ys.length<=cap/\∀R,(match base with | some a=>(storeCells (a.add (n*e)) news).run P g.w | none=>.ok () g.w) = .ok () R->
    (Builtin.append_ #[t,u] ty #[.slice base n cap,y]).run P g.w = .ok (.slice base (n+ys.length) cap) R)\/
  (cap<n+ys.length/\∃(el gC:Nat) (arr:Array Value),n+ys.length<=gC/\arr.size=gC*e/\(∀(p:Nat) (x:Value),(olds++news)[p]?=some x->arr[p]?=some x)/\
    (Builtin.append_ #[t,u] ty #[.slice base n cap,y]).run P g.w = .ok (.slice (some ⟨g.w.heap.size,0,none⟩) (n+ys.length) gC) (g.w.drew.alloc (.cells arr el))):=by
 obtain⟨el,d,i,z,hu,hd,Lm,hi,rfl,hb,hz,wk,pY⟩:=Cj ht;obtain⟨f1,f2⟩:=su (P:=P) hy (w:=g.w) λ_ _ _ h=>h
 by_cases hc:n+ys.length<=cap
 ·refine .inl ⟨hc,λR hR=>?_⟩;cases base with
  |none=>
   simp only[Result.ok.injEq,true_and]at hR;subst hR;simp[Builtin.append_,run_underlying hu,run_underlying hd,run_sizeOf hi,f1,f2,hc]
  |some a=>
   simp only[]at hR;simp[Builtin.append_,run_underlying hu,run_underlying hd,run_sizeOf hi,f1,f2,hc,hR]
 ·refine .inr ⟨by omega,el,grownCap g.w (n+ys.length) cap el,olds.toArray++news.toArray++Builtin.zeroCells z.cells (grownCap g.w (n+ys.length) cap el - (n+ys.length)),grownCap_ge _ _ _ _,?_,?_,?_⟩
  ·have:=grownCap_ge g.w (n+ys.length) cap el;simp only[Array.size_append,List.size_toArray];rw[size_zeroCells,wk,kr,hy.2.1,<-Nat.add_mul,<-Nat.add_mul];congr 1;omega
  ·intro p x hx;have hp:=bg hx;rw[Array.getElem?_append_left (by simpa using hp)];simpa using hx
  ·obtain⟨-,SA⟩:=su (P:=P) hy (w:=g.w.drew) λ_ _ _ h=>h
   have hold:(Builtin.firstCells i.size n (.slice base n cap)).run P g.w.drew = .ok olds.toArray g.w.drew:=by
    rcases ho with h0 | ⟨b,rfl,mH⟩
    ·have:olds=[]:=List.eq_nil_of_length_eq_zero (by rw[kr,h0];simp);subst this;cases base with
     |none=>simp[Builtin.firstCells]
     |some a=>simp[Builtin.firstCells,h0,loadCells,loadCellsFrom]
    ·exact run_firstCells_some g.w.drew i.size n _ _ _ olds kr λj x hx=>by rw[Addr.add_lit];simpa using mH j x hx
   have jx:=rK (need:=n+ys.length) (cap:=cap) (bytes:=i.bytes) (by omega) iM hb;have h48:¬(281474976710656<Builtin.nextslicecap (n+ys.length) cap*i.bytes):=by omega
   have vD:¬((9223372036854775807:Int)<(n:Int)+ys.length):=by omega
   simp[Builtin.append_,run_underlying hu,run_underlying hd,run_sizeOf hi,f1,hc,vD,typeInfo,hi,h48,Question.forced,hold,SA,zeroValue,hz,newRow,grownCap];congr 2;apply Array.ext';simp
theorem D9 (r:Rel ν k g) {slot:Nat} {t u ty:TypeId} {e:Nat} (ht:wj P t u e=true) {v yv:Value} {x y z:AV} (hv:RA ν g v x) (Ln:RA ν g yv y) {h':Hp}
  (e':(app e slot x y).run g.h=some (z,h')):dj ν k g h' z ((Builtin.append_ #[t,u] ty #[v,yv]).run P g.w):=by
 obtain⟨ys,h1,e1,e2⟩:=aw e';obtain⟨rfl,news,hy⟩:=rJ r e1 Ln;have tC:=hy.2.1;have tD:=hy.2.2.1;have tE:=hy.2.2.2.2;cases hv with
 |undef=>exact(ah e2).elim
 |agg=>exact(ah e2).elim
 |bD=>exact(ah e2).elim
 |ref=>exact(ah e2).elim
 |dg=>exact(ah e2).elim
 |iv hr=>
  cases hr with
  |aV a _=>
   obtain⟨iM,e4⟩:=M.aL e2;obtain⟨_,h3,e5,e6⟩:=aw e4;obtain⟨hf,rfl⟩:=M.fC e5;obtain⟨_,h4,e7,e8⟩:=aw e6;obtain rfl:=bV e7;obtain⟨rfl,rfl⟩:=ai e8;have l9:0+ys.length<=1073741824:=by simpa[roomy]using iM
   rcases j0 (ty:=ty) (base:=a) (n:=0) (cap:=0) (olds:=[]) ht (by simp) (.inl rfl) hy l9 with⟨hc,cP⟩|⟨hc,el,gC,arr,h1,h2,h3,cP⟩
   ·have h0:ys=[]:=List.eq_nil_of_length_eq_zero (by omega);subst h0;have mO:news=[]:=List.eq_nil_of_length_eq_zero (by simpa using tC);subst mO;have:=cP g.w (by cases a<;>simp[storeCells]);have hn:=r.new (s:=slot) (ob:=.buf 0 e []) (p:=none) (w':=g.w) hf (Nat.le_refl _) rfl rfl rfl (λ_ _=>rfl) (λb h=>by cases h) λ_=>.inl ⟨aU _ _ _,rfl⟩
    refine⟨{ g with φ:=cG g.φ slot none,h:=set g.h slot (.buf 0 e []) },_,this,rfl,hn.1,hn.2,.own rfl ?_⟩;unfold br;simp only[ar,aU];exact⟨Nat.le_refl _,λ_=>⟨⟨a,rfl⟩,rfl⟩⟩
   ·simp only[Nat.zero_add]at *;have hn:=r.new (s:=slot) (ob:=.buf 0 e ys) (p:=some g.w.heap.size) (w':=g.w.drew.alloc (.cells arr el)) hf (by simp) rfl rfl rfl (λb hb=>alloc_old g.w.drew _ _ hb)
     (λb h=>by cases h;exact Nat.le_refl _) λ_=>by
      have eD:∀u x,RI ν g.I g.w u x->RI ν g.I (g.w.drew.alloc (.cells arr el)) u x:=λu x h=>h.mono (λ_ h=>h) λb off w hb hc=>by
       rw[c6 (alloc_old g.w.drew _ _ (r.small b hb))];exact hc
      refine .inr ⟨g.w.heap.size,aU _ _ _,λcK=>Nat.lt_irrefl _ (r.small _ cK),⟨by simp,λo=>World.frozen?_alloc_new g.w.drew _ _ _⟩,tD,λi j c x hi hj=>?_⟩;obtain⟨u,hu,hR⟩:=tE i j c x hi hj;exact⟨u,by simp only[];rw[show(g.w.drew.alloc (.cells arr el)).cell? ⟨g.w.heap.size,i*e+j,none⟩=arr[i*e+j]? from World.cell?_alloc_new g.w.drew _ _ _];exact h3 _ _ (by simpa using hu),eD _ _ hR⟩
    refine⟨_,_,cP,rfl,hn.1,hn.2,.own rfl ?_⟩;unfold br;simp only[ar,aU];refine⟨Nat.le_refl _,λ_=>⟨0,gC,rfl,by omega,h1,.inl (by simp),λ_ c hc=>?_⟩⟩;rw[show(g.w.drew.alloc (.cells arr el)).cell? ⟨g.w.heap.size,c,none⟩=arr[c]? from World.cell?_alloc_new g.w.drew _ _ _,Array.getElem?_eq_getElem (by rw[h2];simpa using hc)];rfl
  |_=>exact(ah e2).elim
 |@own _ id o n aC jV ho=>
  obtain⟨ob,hg,e4⟩:=M.cf e2;unfold br at ho;rw[hg]at ho;cases ob with
  |cells _=>exact ho.elim
  |cm _ _ _=>exact(ah e4).elim
  |map _=>exact(ah e4).elim
  |buf v' bq es=>
   obtain⟨cg,e6⟩:=M.aL e4;simp only[Bool.and_eq_true,beq_iff_eq]at cg;obtain⟨⟨⟨rfl,rfl⟩,rfl⟩,iM⟩:=cg;obtain⟨_,h4,e7,e8⟩:=aw e6;obtain rfl:=bV e7;obtain⟨rfl,rfl⟩:=ai e8;have l9:n+ys.length<=1073741824:=by simpa[roomy]using iM
   have hs:=ho.2 rfl;have grow:∀{cap:Nat} {base:Option Addr} {olds:List Value} {el gC:Nat} {arr:Array Value},v = .slice base n cap->olds.length=n*bq->(∀c ∈ es.take n,c.length=bq)->n<=es.length->
     (∀(i j:Nat) (c:List IV) (x:IV),(es.take n)[i]?=some c->c[j]?=some x->∃u,olds[i*bq+j]?=some u/\RI ν g.I g.w u x)->
     n+ys.length<=gC->arr.size=gC*bq->(∀(p:Nat) (x:Value),(olds++news)[p]?=some x->arr[p]?=some x)->
     (Builtin.append_ #[t,u] ty #[v,yv]).run P g.w = .ok (.slice (some ⟨g.w.heap.size,0,none⟩) (n+ys.length) gC) (g.w.drew.alloc (.cells arr el))->
     dj ν k g (set g.h id (.buf (v'+1) bq (es.take n++ys))) (.own id 0 (n+ys.length) (v'+1)) ((Builtin.append_ #[t,u] ty #[v,yv]).run P g.w):=by
    intro cap base olds el gC arr _ kr tF hn hold h1 h2 h3 cP;have eU:∀b,g.φ id=some b->¬g.I b:=by
     intro b aB;rcases r.ob id _ hg with⟨h1,_⟩|⟨b',h1,h2,_⟩
     ·rw[aB]at h1;cases h1
     ·rw[aB]at h1;cases h1;exact h2
    have eD:∀u x,RI ν g.I g.w u x->RI ν g.I (g.w.drew.alloc (.cells arr el)) u x:=λu x h=>h.mono (λ_ h=>h) λb off w hb hc=>by
     rw[c6 (alloc_old g.w.drew _ _ (r.small b hb))];exact hc
    have ht:=r.nq (s:=id) (ob:=.buf (v'+1) bq (es.take n++ys)) (p:=some g.w.heap.size) (w':=g.w.drew.alloc (.cells arr el)) (I':=g.I) hg eU (by simp) rfl rfl rfl
     (λb hb _=>alloc_old g.w.drew _ _ hb) (λ_ h=>h) (λ_ h=>.inl h) (.inr ⟨_,rfl,Nat.le_refl _⟩)
     (λw o n aC h=>by
      unfold br at h ⊢;rw[hg]at h;simp only[ar,aU];have:=h.1;exact⟨by omega,λhe=>by omega⟩)
     (λw aC i j h=>by
      unfold bA at h ⊢;rw[hg]at h;simp only[ar,aU];have:=h.1;exact⟨by omega,λhe=>by omega⟩)
     (λ_ _=>by
      refine .inr ⟨g.w.heap.size,aU _ _ _,λcK=>Nat.lt_irrefl _ (r.small _ cK),⟨by simp,λo=>World.frozen?_alloc_new g.w.drew _ _ _⟩,λc hc=>?_,λi j c x hi hj=>?_⟩
      ·rcases List.mem_append.1 hc with h | h
       ·exact tF c h
       ·exact tD c h
      ·rw[List.getElem?_append]at hi;simp only[List.length_take,Nat.min_eq_left hn]at hi;have key:∃u,(olds++news)[i*bq+j]?=some u/\RI ν g.I g.w u x:=by
        split at hi
        ·obtain⟨u,hu,hR⟩:=hold i j c x hi hj;exact⟨u,by rw[List.getElem?_append_left (bg hu)];exact hu,hR⟩
        ·rename_i eV;obtain⟨u,hu,hR⟩:=tE (i - n) j c x hi hj;refine⟨u,?_,hR⟩;have:n*bq+(i - n)*bq=i*bq:=by rw[<-Nat.add_mul];congr 1;omega
         rw[List.getElem?_append_right (by omega),show i*bq+j - olds.length=(i - n)*bq+j by omega];exact hu
       obtain⟨u,hu,hR⟩:=key;exact⟨u,by simp only[];rw[show(g.w.drew.alloc (.cells arr el)).cell? ⟨g.w.heap.size,i*bq+j,none⟩=arr[i*bq+j]? from World.cell?_alloc_new g.w.drew _ _ _];exact h3 _ _ hu,eD _ _ hR⟩)
    refine⟨_,_,cP,rfl,ht.1,ht.2,.own rfl ?_⟩;unfold br;simp only[ar,aU];refine⟨Nat.le_refl _,λ_=>⟨0,gC,rfl,by simp;omega,h1,.inl (by simp),λ_ c hc=>?_⟩⟩;rw[show(g.w.drew.alloc (.cells arr el)).cell? ⟨g.w.heap.size,c,none⟩=arr[c]? from World.cell?_alloc_new g.w.drew _ _ _,Array.getElem?_eq_getElem (by rw[h2];simpa using hc)];rfl
   cases aB:g.φ id with
   |none=>
    rw[aB]at hs;obtain⟨⟨a,rfl⟩,rfl⟩:=hs;rcases j0 (ty:=ty) (base:=a) (n:=0) (cap:=0) (olds:=[]) ht (by simp) (.inl rfl) hy l9 with⟨hc,cP⟩|⟨hc,el,gC,arr,h1,h2,h3,cP⟩
    ·have h0:ys=[]:=List.eq_nil_of_length_eq_zero (by omega);subst h0;have mO:news=[]:=List.eq_nil_of_length_eq_zero (by simpa using tC);subst mO;have qY:=cP g.w (by cases a<;>simp[storeCells]);have fU:=r.nq (s:=id) (ob:=.buf (v'+1) bq []) (p:=g.φ id) (w':=g.w) (I':=g.I) hg (λb h=>by rw[aB]at h;cases h) (Nat.le_refl _) rfl rfl rfl
      (λ_ _ _=>rfl) (λ_ h=>h) (λ_ h=>.inl h) (.inl rfl)
      (λw o n aC h=>by
       unfold br at h ⊢;rw[hg]at h;simp only[ar,aU];have:=h.1;exact⟨by omega,λhe=>by omega⟩)
      (λw aC i j h=>by
       unfold bA at h ⊢;rw[hg]at h;simp only[ar,aU];have:=h.1;exact⟨by omega,λhe=>by omega⟩)
      (λ_ _=>.inl ⟨(aU _ _ _).trans aB,rfl⟩)
     simp only[List.take_zero,List.append_nil]at *;refine⟨⟨g.I,cG g.φ id (g.φ id),g.w,set g.h id (.buf (v'+1) bq [])⟩,_,qY,rfl,fU.1,fU.2,.own rfl ?_⟩;unfold br;simp only[ar,aU,aB];exact⟨Nat.le_refl _,λ_=>⟨⟨a,rfl⟩,rfl⟩⟩
    ·exact grow rfl (olds:=[]) (by simp) (λc h=>by simp at h) (Nat.zero_le _) (λi j c x h=>by simp at h) h1 h2 h3 cP
   |some b=>
    rw[aB]at hs;obtain⟨x,cap,rfl,q2,q3,q4,q5⟩:=hs;have hx:x=0:=by
     rcases q4 with h | h
     ·simpa using h
     ·exact absurd rfl h.2
    subst hx;have q5:=q5 (by simp);rcases r.ob id _ hg with⟨h1,_⟩|⟨b',h1,eU,dP,aH⟩
    ·rw[aB]at h1;cases h1
    rw[aB]at h1;cases h1;have Wi:=o8 (ν:=ν) (g:=g) (b:=b) (off:=0) (a0:=0) (e:=bq) (m:=n) (cap:=cap) (ys:=es.take n) (by simp;omega) (λc hc=>aH.1 c (List.mem_of_mem_take hc)) (λi j c x h1 h2=>by
     rw[List.getElem?_take]at h1;split at h1
     ·obtain⟨w,hw,hR⟩:=aH.2 i j c x h1 h2;exact⟨w,by rw[Nat.zero_add];exact hw,hR⟩
     ·cases h1) rfl
    obtain⟨olds,⟨a,c,ha,tG⟩,kr,tF,da,hold⟩:=Wi;simp only[Value.slice.injEq]at ha;obtain⟨rfl, -,rfl⟩:=ha;have Ck:(es.take n).length=n:=by simp;omega
    rw[Ck]at kr;have mH:n=0\/∃b',some (⟨b,0,none⟩:Addr)=some ⟨b',0,none⟩/\∀(p:Nat) (x:Value),olds[p]?=some x->g.w.cell? ⟨b',p,none⟩=some x:=by
     rcases tG with h | ⟨Sk,off,hb,hh⟩
     ·exact .inl (by omega)
     ·cases hb;exact .inr ⟨b,rfl,λp x hp=>by have:=hh p x hp;rwa [Nat.zero_add]at this⟩
    rcases j0 (ty:=ty) (base:=some ⟨b,0,none⟩) (n:=n) (cap:=cap) (olds:=olds) ht kr mH hy l9 with⟨hc,cP⟩|⟨hc,el,gC,arr,h1,h2,h3,cP⟩
    ·
     have hex:∀j,j<news.length->(g.w.cell? ⟨b,n*bq+j,none⟩).isSome=true:=λj hj=>q5 _ (by
      have:n*bq+ys.length*bq<=cap*bq:=by rw[<-Nat.add_mul];exact Nat.mul_le_mul_right _ hc
      rw[Nat.zero_add];omega)
     have oR:=run_storeCells_cells (P:=P) b (n*bq) news 0 g.w (by simpa using hex) (λ_ _=>dP.2 _) hy.2.2.2.1;have qY:=cP (g.w.setCells b (n*bq) news) (by simpa[Addr.add_lit]using oR);have jz:=r.put (id:=id) (v:=v') (e:=bq) (b:=b) (off:=n*bq) (v':=v'+1) (es:=es) (es':=es.take n++ys) (vs:=news) hg aB hex (.inr rfl) (λeD=>by
      refine⟨λc hc=>?_,λi j c x hi hj=>?_⟩
      ·rcases List.mem_append.1 hc with h | h
       ·exact aH.1 c (List.mem_of_mem_take h)
       ·exact tD c h
      ·rw[gn _ _ _ _ hex];rw[List.getElem?_append]at hi;simp only[Ck]at hi;split at hi
       ·rename_i eV;rw[List.getElem?_take,if_pos eV]at hi;have wm:j<bq:=by have:=bg hj;rwa [aH.1 c (List.mem_of_getElem? hi)]at this
        have:i*bq+bq<=n*bq:=by rw[<-Nat.succ_mul];exact Nat.mul_le_mul_right _ eV
        rw[if_neg (by omega)];obtain⟨w,hw,hR⟩:=aH.2 i j c x hi hj;exact⟨w,hw,eD _ _ hR⟩
       ·rename_i eV;obtain⟨w,hw,hR⟩:=tE (i - n) j c x hi hj;have bC:=bg hw;have:n*bq+(i - n)*bq=i*bq:=by rw[<-Nat.add_mul];congr 1;omega
        rw[if_pos (by omega),show i*bq+j - n*bq=(i - n)*bq+j by omega];exact⟨w,hw,eD _ _ hR⟩)
     refine⟨_,_,qY,rfl,jz.1,jz.2,.own rfl ?_⟩;unfold br;simp only[ar,aB];refine⟨Nat.le_refl _,λ_=>⟨0,cap,rfl,by simp;omega,hc,.inl (by simp),λ_ c hc=>jR _ _ _ _ hex _ (q5 c hc)⟩⟩
    ·exact grow rfl kr (λc hc=>aH.1 c (List.mem_of_mem_take hc)) (by omega) hold h1 h2 h3 cP
def Nq (P:Program) (t:TypeId) (e:Nat) (z:List IV):Bool:=
 match P.underlying t with
 |some (.slice el)=>qW P el e&&sr P el z
 |_=>false
theorem SB (r:Rel ν k g) {t ty:TypeId} {e:Nat} {z:List IV} (ht:Nq P t e z=true) {v:Value} {x y:AV} (hv:RA ν g v x) {h':Hp} (e':(qG e z x).run g.h=some (y,h')) :
  dj ν k g h' y ((Builtin.clear_ #[t] ty #[v]).run P g.w):=by
 unfold Nq at ht;split at ht
 case h_2=>cases ht
 rename_i el hu;simp only[Bool.and_eq_true]at ht;obtain⟨dZ,hz⟩:=ht;obtain⟨i,hi,rfl⟩:=og dZ;obtain⟨i',zv,cK,Ab,mT⟩:=qV hz;rw[hi]at cK;cases cK;cases hv with
 |undef=>exact(ah e').elim
 |agg=>exact(ah e').elim
 |bD=>exact(ah e').elim
 |ref=>exact(ah e').elim
 |dg=>exact(ah e').elim
 |iv=>exact(ah e').elim
 |@own _ id o n aC jV ho=>
  obtain⟨ob,hg,e4⟩:=M.cf e';unfold br at ho;rw[hg]at ho;cases ob with
  |cells _=>exact ho.elim
  |cm _ _ _=>exact(ah e4).elim
  |map _=>exact(ah e4).elim
  |buf v' bq es=>
   obtain⟨cg,e6⟩:=M.aL e4;simp only[Bool.and_eq_true,beq_iff_eq]at cg;obtain⟨⟨rfl,rfl⟩,wg⟩:=cg;obtain⟨_,h4,e7,e8⟩:=aw e6;obtain rfl:=bV e7;obtain⟨rfl,rfl⟩:=ai e8;have hs:=ho.2 rfl;have wk:zv.cells.size=i.size:=by have:=(nw mT).1;simp at this;omega
   have X2:RA ν g (.tuple #[]) (.bD []):=.bD rfl λj v c h=>by simp at h
   cases aB:g.φ id with
   |none=>
    rw[aB]at hs;obtain⟨⟨a,rfl⟩,rfl⟩:=hs;have X3:es=[]:=by
     rcases r.ob id _ hg with⟨_,h2⟩|⟨b',h1,_⟩
     ·exact h2
     ·rw[aB]at h1;cases h1
    subst X3;have Nr:set g.h id (.buf v' i.size ([].take o++List.replicate 0 z++[].drop (o+0)))=set g.h id (.buf v' i.size []):=by simp
    rw[Nr];have cP:(Builtin.clear_ #[t] ty #[.slice a 0 0]).run P g.w = .ok (.tuple #[]) g.w:=by
     cases a<;>simp[Builtin.clear_,run_underlying hu]
    have fU:=r.nq (s:=id) (ob:=.buf v' i.size []) (p:=g.φ id) (w':=g.w) (I':=g.I) hg (λb h=>by rw[aB]at h;cases h) (Nat.le_refl _) rfl rfl rfl
     (λ_ _ _=>rfl) (λ_ h=>h) (λ_ h=>.inl h) (.inl rfl)
     (λw o n aC h=>by
      unfold br at h ⊢;rw[hg]at h;simp only[ar,aU];exact h)
     (λw aC i j h=>by
      unfold bA at h ⊢;rw[hg]at h;simp only[ar,aU];exact h)
     (λ_ _=>.inl ⟨(aU _ _ _).trans aB,rfl⟩)
    exact⟨⟨g.I,cG g.φ id (g.φ id),g.w,set g.h id (.buf v' i.size [])⟩,_,cP,rfl,fU.1,fU.2,fU.2 _ _ X2⟩
   |some b=>
    rw[aB]at hs;obtain⟨x,cap,rfl,q2,q3,q4,q5⟩:=hs;rcases r.ob id _ hg with⟨h1,_⟩|⟨b',h1,eU,dP,aH⟩
    ·rw[aB]at h1;cases h1
    rw[aB]at h1;cases h1;generalize kV:(Builtin.zeroCells zv.cells n).toList=vs;have SC:vs.length=n*i.size:=by rw[<-kV];simp[size_zeroCells,wk]
    have da:∀u ∈ vs,u.oneCell'=true:=by
     intro u jW;rw[<-kV]at jW;simp only[Builtin.zeroCells,Array.toList_map,List.mem_map]at jW;obtain⟨p,hp,rfl⟩:=jW;simp only[Array.toList_range,List.mem_range]at hp;have bC:p % zv.cells.size<zv.cells.size:=Nat.mod_lt _ (by
      rcases Nat.eq_zero_or_pos zv.cells.size with h0 | h0
      ·rw[h0]at hp;simp at hp
      ·exact h0)
     rw[getElem!_pos zv.cells _ bC];obtain⟨hl,dt⟩:=nw mT;obtain⟨w,hw,hc⟩:=dt (p % zv.cells.size) _ (List.getElem?_eq_getElem (by simp at hl;omega));have:w=zv.cells[p % zv.cells.size]:=by
      have h':zv.cells[p % zv.cells.size]?=some w:=by simpa using hw
      rw[Array.getElem?_eq_getElem bC]at h';exact(Option.some.inj h').symm
     rw[<-this];exact(rD (ν:=ν) hc g.I g.w).one
    have hex:∀j,j<vs.length->(g.w.cell? ⟨b,o*i.size+j,none⟩).isSome=true:=by
     intro j hj;have mO:n≠0:=λh=>by rw[SC,h]at hj;simp at hj
     have hx:x=o*i.size:=q4.resolve_right λh=>mO h.1
     refine q5 hx _ ?_;have:n*i.size<=cap*i.size:=Nat.mul_le_mul_right _ q3;rw[Nat.add_mul];omega
    have cP:(Builtin.clear_ #[t] ty #[.slice (some ⟨b,x,none⟩) n cap]).run P g.w = .ok (.tuple #[]) (g.w.setCells b (o*i.size) vs):=by
     by_cases mO:n=0
     ·subst mO;have:vs=[]:=List.eq_nil_of_length_eq_zero (by simpa using SC);subst this;simp[Builtin.clear_,run_underlying hu,World.setCells]
     ·have hx:x=o*i.size:=q4.resolve_right λh=>mO h.1
      subst hx;have oR:=run_storeCells_cells (P:=P) b (o*i.size) vs 0 g.w (by simpa using hex) (λ_ _=>dP.2 _) da;simp only[Nat.add_zero]at oR;have Sm:∀m,n=m+1->(Builtin.clear_ #[t] ty #[.slice (some ⟨b,o*i.size,none⟩) n cap]).run P g.w = .ok (.tuple #[]) (g.w.setCells b (o*i.size) vs):=by
       intro m hm;subst hm;simp[Builtin.clear_,run_underlying hu,zeroValue,typeInfo,hi,Ab,kV,oR]
      exact Sm (n - 1) (by omega)
    have jz:=r.put (id:=id) (v:=v') (e:=i.size) (b:=b) (off:=o*i.size) (v':=v') (es:=es) (es':=es.take o++List.replicate n z++es.drop (o+n)) (vs:=vs) hg aB hex (.inl ⟨rfl,by simp;omega⟩) (λeD=>by
     have hto:(es.take o).length=o:=by simp;omega
     refine⟨λc hc=>?_,λa j c y ha hj=>?_⟩
     ·simp only[List.mem_append]at hc;rcases hc with(h | h) | h
      ·exact aH.1 c (List.mem_of_mem_take h)
      ·rw[List.eq_of_mem_replicate h];exact wg
      ·exact aH.1 c (List.mem_of_mem_drop h)
     ·rw[gn _ _ _ _ hex,SC];rw[List.getElem?_append,List.getElem?_append]at ha;simp only[List.length_append,List.length_replicate,hto]at ha;have SD:∀{p q:Nat},p<q->p*i.size+i.size<=q*i.size:=λh=>by rw[<-Nat.succ_mul];exact Nat.mul_le_mul_right _ h
      split at ha
      ·rename_i h1;split at ha
       ·rename_i h2;rw[List.getElem?_take,if_pos h2]at ha;have wm:j<i.size:=by have:=bg hj;rwa [aH.1 c (List.mem_of_getElem? ha)]at this
        have:=SD h2;rw[if_neg (by omega)];obtain⟨w,hw,hR⟩:=aH.2 a j c y ha hj;exact⟨w,hw,eD _ _ hR⟩
       ·rename_i h2;rw[List.getElem?_replicate,if_pos (by omega)]at ha;cases ha;have wm:j<i.size:=by have:=bg hj;omega
        have e1:o*i.size+(a - o)*i.size=a*i.size:=by rw[<-Nat.add_mul];congr 1;omega
        have e2:(a - o)*i.size+i.size<=n*i.size:=SD (by omega);rw[if_pos (by omega),show a*i.size+j - o*i.size=(a - o)*i.size+j by omega];obtain⟨hl,dt⟩:=nw mT;obtain⟨w,hw,hc⟩:=dt j y hj;refine⟨w,?_,rD hc _ _⟩;rw[<-kV];have hp:(a - o)*i.size+j<n*i.size:=by omega
        have ux:((a - o)*i.size+j) % i.size=j:=by rw[Nat.add_comm,Nat.add_mul_mod_self_right,Nat.mod_eq_of_lt wm]
        simp only[Builtin.zeroCells,Array.getElem?_toList,Array.getElem?_map,Array.getElem?_range,if_pos hp,Option.map_some,wk,ux];rw[getElem!_pos zv.cells j (by omega)];have h':zv.cells[j]?=some w:=by simpa using hw
        rw[Array.getElem?_eq_getElem (by omega)]at h';exact h'
      ·rename_i h1;rw[List.getElem?_drop,show o+n+(a - (o+n))=a by omega]at ha;have wm:j<i.size:=by have:=bg hj;rwa [aH.1 c (List.mem_of_getElem? ha)]at this
       have:o*i.size+n*i.size<=a*i.size:=by rw[<-Nat.add_mul];exact Nat.mul_le_mul_right _ (by omega)
       rw[if_neg (by omega)];obtain⟨w,hw,hR⟩:=aH.2 a j c y ha hj;exact⟨w,hw,eD _ _ hR⟩)
    exact⟨_,_,cP,rfl,jz.1,jz.2,jz.2 _ _ X2⟩
end
def wo (P:Program) (t:TypeId) (qs:List Nat):Bool:=
 match P.underlying t with
 |some (.array n e)=>qs.length==n&&qs.length != 1&&lQ P e 1 false&&qs.all λq=>kj q (P.underlying e)
 |d=>(match qs with | [q]=>kj q d | _=>false)
section
variable {ν:Nat->Nat} {P:Program} {k:Cx} {g:Gh}
def pF (es:List MapEntry) (i:Nat):Option (Nat×AV)->Option (Nat×Value)->Prop
 |none,r=>r=none
 |some p,r=>∃e,i<=p.1/\es[p.1 - i]?=some e/\r=some (p.1,e.val)
theorem pF.up {es:List MapEntry} {e:MapEntry} {i:Nat} {a:Option (Nat×AV)} {r:Option (Nat×Value)} (h:pF es (i+1) a r):pF (e::es) i a r:=by
 cases a with
 |none=>exact h
 |some p=>
  obtain⟨e',h1,h2,h3⟩:=h;refine⟨e',by omega,?_,h3⟩;rw[show p.1 - i=(p.1 - (i+1))+1 by omega];simpa using h2
def oh (ν:Nat->Nat) (g:Gh) (es:List MapEntry) (dh:List (AV×AV)):Prop:=es.length=dh.length/\∀(j:Nat) (e:MapEntry) (p:AV×AV),es[j]?=some e->dh[j]?=some p->RA ν g e.key p.1
theorem oh.cons {e:MapEntry} {es:List MapEntry} {p:AV×AV} {dh:List (AV×AV)} (h:oh ν g (e::es) (p::dh)):RA ν g e.key p.1/\oh ν g es dh:=
 ⟨h.2 0 e p rfl rfl,by have:=h.1;simpa using this,λj e p h1 h2=>h.2 (j+1) e p (by simpa using h1) (by simpa using h2)⟩
end
def yT (P:Program) (t:TypeId) (qs:List Nat):Bool:=match P.underlying t with | some (.map kt _)=>wo P kt qs | _=>false
theorem Cl {P:Program} {t:TypeId} {qs:List Nat} (h:yT P t qs=true):∃kt et,P.underlying t=some (.map kt et)/\wo P kt qs=true:=by
 unfold yT at h;split at h
 ·exact⟨_,_,by assumption,h⟩
 ·cases h
section
variable {ν:Nat->Nat} {P:Program} {k:Cx} {g:Gh}
end
def cp (ν:Nat->Nat):Operand->bf->Bool
 |.tmp t,.t n=>t==n
 |.const v,.c x=>BH v x
 |.func f,.c (.fn h [])=>f==ν h
 |_,_=>false
def gP (ν:Nat->Nat):List Operand->List bf->Bool
 |[],[]=>true
 |x::xs,y::ys=>cp ν x y&&gP ν xs ys
 |_,_=>false
def uy (ν:Nat->Nat):Option Operand->Option bf->Bool
 |none,none=>true
 |some x,some y=>cp ν x y
 |_,_=>false
def kK (ν:Nat->Nat):List (Nat×Operand)->List (Nat×bf)->Bool
 |[],[]=>true
 |x::xs,y::ys=>x.1==y.1&&cp ν x.2 y.2&&kK ν xs ys
 |_,_=>false
def placesOf (P:Program) (t:TypeId):Option (Nat->Option (Nat×Nat)):=
 match P.underlying t with
 |some (.array _ e)=>(P.info? e).map λie=>λi=>some (i*ie.size,ie.size)
 |some (.struct fields)=>(fields.toList.mapM (λf=>(P.info? f.type).map λi=>(f.offset,i.size))).map λLo=>(Lo.toArray[·]?)
 |_=>none
def iE (ν:Nat->Nat) (pl:Nat->Option (Nat×Nat)):List (Nat×Operand)->List (Nat×Nat×bf)->Bool
 |[],[]=>true
 |x::xs,y::ys=>pl x.1==some (y.1,y.2.1)&&cp ν x.2 y.2.2&&iE ν pl xs ys
 |_,_=>false
def isStr (P:Program) (t:TypeId):Bool:=match P.underlying t with | some .string=>true | _=>false
theorem Af {P:Program} {t:TypeId} (h:isStr P t=true):P.underlying t=some .string:=by
 unfold isStr at h;split at h<;>first | assumption | cases h
def Ag (P:Program) (t:TypeId):Bool:=match P.underlying t with | some (.slice e)=>(match P.underlying e with | some (.int .u8)=>true | _=>false) | _=>false
def Ah (P:Program) (ν:Nat->Nat) (op:Op) (io:jt):Bool:=
 match io with
 |.eM y=>(match op with | .move x | .assign x=>cp ν x y | _=>false)
 |.Iv _=>(match op with | .move (.const (.slice none 0 0)) | .assign (.const (.slice none 0 0))=>true | _=>false)
 |.pick c' a' b'=>(match op with | .pick c a b=>cp ν c c'&&cp ν a a'&&cp ν b b' | _=>false)
 |.alloc z=>(match op with | .alloc t=>sr P t z | _=>false)
 |.box y=>(match op with | .box _ x=>cp ν x y | _=>false)
 |.build z qs=>(match op with | .build t ps=>sr P t z&&(match placesOf P t with | some pl=>iE ν pl ps.toList qs | none=>false) | _=>false)
 |.qF e z n' qs=>(match op with | .buildSlice t n ps=>n==n'&&Jd P t n e z&&kK ν ps.toList qs | _=>false)
 |.load agg sz a'=>(match op with | .load t a=>lQ P t sz agg&&cp ν a a' | _=>false)
 |.store sz a' x'=>(match op with | .store t a x=>qW P t sz&&cp ν a a'&&cp ν x x' | _=>false)
 |.di off x'=>(match op with | .fieldAddr s x f=>xP P s f off&&cp ν x x' | _=>false)
 |.ep _ _ _ _=>false
 |.dn len e x' i'=>(match op with | .indexAddr t x i=>Dt P t len e&&cp ν x x'&&cp ν i i' | _=>false)
 |.dQ e x' i'=>(match op with | .indexAddr t x i=>sliceB P t e&&cp ν x x'&&cp ν i i' | _=>false)
 |.dB agg len e x' i'=>(match op with | .index t x i=>I8 P t agg len e&&cp ν x x'&&cp ν i i' | _=>false)
 |.jN x' i'=>(match op with | .index t x i=>isStr P t&&cp ν x x'&&cp ν i i' | _=>false)
 |.bin bo q x' y'=>(match op with | .binOp b t x y _=>b==bo&&PD P b t q&&cp ν x x'&&cp ν y y' | _=>false)
 |.sj neg qs x' y'=>(match op with | .binOp b t x y _=>b==(if neg then .neq else .eql)&&Nn P t qs&&cp ν x x'&&cp ν y y' | _=>false)
 |.un uo x'=>(match op with | .unOp u _ x=>u==uo&&cp ν x x' | _=>false)
 |.tt kk x'=>(match op with | .convert s d x=>BF P s d kk&&cp ν x x' | _=>false)
 |.Cf _=>false
 |.eu e x' SF cK=>(match op with | .slice t x lo hi none=>sliceB P t e&&cp ν x x'&&uy ν lo SF&&uy ν hi cK | _=>false)
 |.nj _ _ _=>false
 |.tu _ _=>false
 |.qG e z x'=>(match op with | .call { callee:=.builtin .clear,args,argTypes }=>(match args.toList,argTypes.toList with | [x],[t]=>Nq P t e z&&cp ν x x' | _,_=>false) | _=>false)
 |.len str x'=>(match op with | .call { callee:=.builtin .len,args,argTypes }=>(match args.toList,argTypes.toList with | [x],[t]=>BG P t str&&cp ν x x' | _,_=>false) | _=>false)
 |.app e x' y'=>(match op with | .call { callee:=.builtin .append,args,argTypes }=>(match args.toList,argTypes.toList with | [x,y],[t,u]=>wj P t u e&&cp ν x x'&&cp ν y y' | _,_=>false) | _=>false)
 |.mn x' ys=>(match op with | .call { callee:=.builtin .min,args,.. }=>gP ν args.toList (x'::ys) | _=>false)
 |.mx x' ys=>(match op with | .call { callee:=.builtin .max,args,.. }=>gP ν args.toList (x'::ys) | _=>false)
 |.ext x' i'=>(match op with | .extract x i=>i==i'&&cp ν x x' | _=>false)
 |.oY x'=>(match op with | .nilCheck x=>cp ν x x' | _=>false)
 |.sk f' Ai=>(match op with | .makeFunc (.func f) first caps=>f==ν f'&&first.isEmpty&&gP ν caps.toList Ai | _=>false)
 |.call _ f' pG=>(match op with | .call { callee:=.value f,args,.. }=>cp ν f f'&&gP ν args.toList pG | _=>false)
 |.Cg x'=>(match op with | .convert s d x=>Ag P s&&isStr P d&&cp ν x x' | _=>false)
 |.Ch=>false
 |.jb _ _ _ _ _ _=>false
 |.kh _ _ _ _=>false
 |.nk _ _ _=>false
 |.yN _=>false
def jB (ν:Nat->Nat) (g:Gh) (tmps:Array Value) (fr:Fr):Prop:=∀(t:Nat) (x:AV),get fr t=some x->∃v,tmps[t]?=some v/\RA ν g v x
theorem jB.mono {ν:Nat->Nat} {g g':Gh} {tmps:Array Value} {fr:Fr} (h:jB ν g tmps fr) (hm:bY ν g g'):jB ν g' tmps fr:=
 λt x ht=>let⟨v,h1,h2⟩:=h t x ht;⟨v,h1,hm _ _ h2⟩
section
variable {ν:Nat->Nat} {P:Program} {k:Cx} {g:Gh}
theorem aY {a:Act} {fr:Fr} (hf:jB ν g a.tmps fr) {x:Operand} {y:bf} (h:cp ν x y=true):RA ν g (a.eval x) (ev fr y):=by
 unfold cp at h;split at h
 ·rename_i t n;have:=beq_iff_eq.1 h;subst this;simp only[ev];cases hg:get fr t with
  |none=>exact .undef _
  |some z=>
   obtain⟨v,hv,hR⟩:=hf t z hg;have:a.eval (.tmp t)=v:=by simp[Act.eval,Array.getD,(Array.getElem?_eq_some_iff.1 hv).1,(Array.getElem?_eq_some_iff.1 hv).2]
   rw[this];exact hR
 ·rename_i v x;exact .iv (rD h _ _)
 ·rename_i f h';have:=beq_iff_eq.1 h;subst this;exact .iv (.fn h' #[] [] rfl λj v x h=>by simp at h)
 ·cases h
theorem rL {a:Act} {fr:Fr} (hf:jB ν g a.tmps fr):∀{xs:List Operand} {ys:List bf},gP ν xs ys=true->
  (xs.map a.eval).length=(ys.map (ev fr)).length/\∀(j:Nat) (v:Value) (x:AV),(xs.map a.eval)[j]?=some v->(ys.map (ev fr))[j]?=some x->RA ν g v x
 |[],[],_=>⟨rfl,λj v x h=>by simp at h⟩
 |x::xs,y::ys,h=>by
  simp only[gP,Bool.and_eq_true]at h;obtain⟨h1,h2⟩:=rL hf h.2;refine⟨by simpa using h1,λj v z hv hz=>?_⟩;cases j with
  |zero=>simp at hv hz;subst hv hz;exact aY hf h.1
  |succ j=>exact h2 j v z (by simpa using hv) (by simpa using hz)
 |[],_::_,h=>by simp[gP]at h
 |_::_,[],h=>by simp[gP]at h
theorem rM {a:Act} {fr:Fr} (hf:jB ν g a.tmps fr) {x:Option Operand} {y:Option bf} (h:uy ν x y=true):RO ν g (x.map a.eval) (y.map (ev fr)):=by
 cases x<;>cases y<;>simp[uy]at h
 ·trivial
 ·exact aY hf h
theorem tb {a:Act} {fr:Fr} (hf:jB ν g a.tmps fr) {pl:Nat->Option (Nat×Nat)}:∀(ps:List (Nat×Operand)) (qs:List (Nat×Nat×bf)) (cells:Array Value) (cs:List AV) (n:Nat) (l:List (Nat×List AV)) (h h':Hp),
  iE ν pl ps qs=true->RC ν g cells cs->cs.length=n->
  (M.aG (λp:Nat×Nat×bf=>(bh (ev fr p.2.2)).bind λl=>(M.ok (l.length==p.2.1&&Nat.ble (p.1+p.2.1) n)).bind λ_=>M.ret (p.1,l)) qs).run h=some (l,h')->
  h'=h/\∃jA,Instr.fill pl cells (ps.map λp=>(p.1,a.eval p.2))=some jA/\RC ν g jA (cz cs l):=by
 intro ps
 induction ps with
 |nil=>
  intro qs cells cs n l h h' hc hr _ e;cases qs with
  |cons=>simp[iE]at hc
  |nil=>
   obtain⟨rfl,rfl⟩:=dS e;exact⟨rfl,cells,rfl,hr⟩
 |cons p ps ih=>
  intro qs cells cs n l h h' hc hr hn e;cases qs with
  |nil=>simp[iE]at hc
  |cons q qs=>
   simp only[iE,Bool.and_eq_true,beq_iff_eq]at hc;obtain⟨⟨ma,hq⟩,gl⟩:=hc;obtain⟨y,h1,zs,e1,e2,rfl⟩:=dx e;obtain⟨xs,h2,e3,e4⟩:=aw e1;obtain⟨rfl,hs,wc⟩:=jX e3 (aY hf hq);obtain⟨cg,e6⟩:=M.aL e4;obtain⟨rfl,rfl⟩:=ai e6;simp only[Bool.and_eq_true,beq_iff_eq,Nat.ble_eq]at cg;have eR:q.1+xs.length<=cs.length:=by omega
   have Cm:=hr.bl (us:=(a.eval p.2).cells) (l:=xs) (o:=q.1) ⟨hs,wc⟩ eR;obtain⟨rfl,c',jZ,hR⟩:=ih qs _ _ n zs h1 h' gl Cm (by rw[gm _ _ _ eR];exact hn) e2;refine⟨rfl,c',?_,hR⟩;rw[<-jZ];simp only[List.map_cons,Instr.fill,ma];have z8:¬(((a.eval p.2).cells.size≠q.2.1||q.1+(a.eval p.2).cells.size > cells.size)=true):=by
    have:=hr.1;simp;omega
   rw[if_neg z8,<-Array.foldl_toList,Array.toList_zipIdx]
theorem Ea {t:TypeId} {pl:Nat->Option (Nat×Nat)} (hp:placesOf P t=some pl) {parts:List (Nat×Value)} {zs:Array Value} {i:TypeInfo} {v:Value}
  (hi:P.info? t=some i) (hv:i.zero=some v) (wk:zs=v.cells):P.built t parts=Instr.fill pl zs parts:=by
 subst wk;unfold placesOf at hp;unfold Program.built;split at hp
 ·rename_i n e hu;simp only[Option.map_eq_some_iff]at hp;obtain⟨ie,wh,rfl⟩:=hp;simp[hi,hu,hv,wh]
 ·rename_i fields hu;simp only[Option.map_eq_some_iff]at hp;obtain⟨Lo,ma,rfl⟩:=hp;simp[hi,hu,hv,ma]
 ·cases hp
theorem yU (r:Rel ν k g) {a:Act} {fr:Fr} (hf:jB ν g a.tmps fr) {t:TypeId} {z:List IV} {ps:Array (Nat×Operand)} {qs:List (Nat×Nat×bf)} {pl:Nat->Option (Nat×Nat)}
  (hz:sr P t z=true) (hp:placesOf P t=some pl) (hc:iE ν pl ps.toList qs=true) {y:AV} {h':Hp}
  (e:((M.aG (λp:Nat×Nat×bf=>(bh (ev fr p.2.2)).bind λl=>(M.ok (l.length==p.2.1&&Nat.ble (p.1+p.2.1) z.length)).bind λ_=>M.ret (p.1,l)) qs).bind λl=>M.ret (.agg (cz (z.map .iv) l))).run g.h=some (y,h')) :
  dj ν k g h' y ((Instr.build t (ps.map fun(i,x)=>(i,a.eval x))).run P g.w):=by
 obtain⟨l,h1,e1,e2⟩:=aw e;obtain⟨rfl,rfl⟩:=ai e2;obtain⟨i,v,hi,Ab,mT⟩:=qV hz;have SG:=D4 (ν:=ν) (g:=g) mT;obtain⟨rfl,jA,jZ,hR⟩:=tb hf ps.toList qs v.cells (z.map .iv) z.length l _ _ hc SG (by simp) e1;refine .same r (run_build g.w t _ jA ?_) hR.agg;rw[Ea hp hi Ab rfl];simpa using jZ
theorem Aj:∀{ys:List (List IV)} {b:List Int},bytesOf ys=some b->b.length=ys.length/\∀i,i<ys.length->ys[i]?=some [.int .u8 (b.getD i 0)]
 |[],b,h=>by simp[bytesOf]at h;subst h;exact⟨rfl,λi hi=>absurd hi (Nat.not_lt_zero _)⟩
 |y::ys,b,h=>by
  unfold bytesOf at h;split at h
  ·rename_i heq;cases heq
  ·rename_i n r heq;cases heq;simp only[Option.map_eq_some_iff]at h;obtain⟨b',hb,rfl⟩:=h;obtain⟨h1,h2⟩:=Aj hb;refine⟨by simp[h1],λi hi=>?_⟩;cases i with
   |zero=>rfl
   |succ i=>simpa using h2 i (by simpa using hi)
  ·cases h
theorem GF {P:Program} {t:TypeId} (h:Ag P t=true):∃e,P.underlying t=some (.slice e)/\P.underlying e=some (.int .u8):=by
 unfold Ag at h;split at h
 ·split at h
  ·exact⟨_,by assumption,by assumption⟩
  ·cases h
 ·cases h
theorem SH (r:Rel ν k g) {s d:TypeId} (hs:Ag P s=true) (hd:isStr P d=true) {v:Value} {x y:AV} {h':Hp} (hv:RA ν g v x)
  (e:((elems 1 x).bind λys=>(M.lift (bytesOf ys)).bind λb=>M.ret (.iv (.str (iP b)))).run g.h=some (y,h')):dj ν k g h' y ((convert s d v).run P g.w):=by
 obtain⟨ys,h1,e1,e2⟩:=aw e;obtain⟨rfl,news,⟨a,c,iI,Zn⟩,hlen,oi, -,dc⟩:=rJ r e1 hv;obtain⟨b,hb,e4⟩:=M.lift_bind e2;obtain⟨rfl,rfl⟩:=ai e4;obtain⟨vE,Zo⟩:=Aj hb;obtain⟨el,rN,Eb⟩:=GF hs;have yf:=Af hd;subst iI;refine .same r (v:=.string (iP b)) ?_ mkStr;rcases Zn with h0 | ⟨SI,off,rfl,iu⟩
 ·have:b=[]:=List.eq_nil_of_length_eq_zero (by omega);subst this;rw[h0];cases a with
  |none=>rw[run_convert_bytes_nil g.w s el rN Eb 0 c d yf];rfl
  |some a=>
   rw[run_convert_bytes_string g.w s d el _ 0 c rN Eb yf,run_bytesToString g.w a 0 c [] (by simp[loadCells,loadCellsFrom])];rfl
 ·refine run_convert_bytes_arg g.w s el rN Eb SI off ys.length c b vE (λi hi=>?_) d yf;obtain⟨u,hu,hR⟩:=dc i 0 _ _ (Zo i hi) rfl;have:=iu (i*1+0) u hu;rw[Nat.mul_one,Nat.add_zero]at this;rw[this];cases hR;rfl
end
def oj (ν:Nat->Nat) (I:Nat->Prop) (w:World) (v:Value) (x:AV):Prop:=RA ν ⟨I,λ_=>none,w,[]⟩ v x
theorem oj.up {ν:Nat->Nat} {I:Nat->Prop} {w:World} {v:Value} {x:AV} (h:oj ν I w v x) {g:Gh} (hR:∀v x,RI ν I w v x->RI ν g.I g.w v x):RA ν g v x:=
 RA.mono (g:=⟨I,λ_=>none,w,[]⟩) hR (λv id o n aC ho=>by simp[br,get]at ho) (λv id aC i j hr=>by simp[bA,get]at hr) h
theorem oj.mono {ν:Nat->Nat} {I J:Nat->Prop} {w w':World} {v:Value} {x:AV} (h:oj ν I w v x) (hR:∀v x,RI ν I w v x->RI ν J w' v x):oj ν J w' v x:=h.up hR
theorem Ec {w:Bool}:∀(cs:List AV) (h h':Hp) (l:List AV),(M.aG (cE w) cs).run h=some (l,h')->∃xs,(M.aG (fz w 8) cs).run h=some (xs,h')/\l=xs.map .iv:=by
 intro cs
 induction cs with
 |nil=>
  intro h h' l e;obtain⟨rfl,rfl⟩:=dS e;exact⟨[],rfl,rfl⟩
 |cons c cs ih=>
  intro h h' l e;obtain⟨y,h1,zs,e1,e2,rfl⟩:=dx e;obtain⟨x,h2,e3,e4⟩:=aw e1;obtain⟨rfl,rfl⟩:=ai e4;obtain⟨xs,e5,rfl⟩:=ih _ _ _ e2;refine⟨x::xs,?_,rfl⟩;simp only[M.aG,az,e3,e5,M.run]
theorem sv {ν:Nat->Nat} {I:Nat->Prop} {w:World} {vs:Array Value} {xs:List IV} (hn:vs.size=xs.length) (hr:∀(j:Nat) (v:Value) (x:IV),vs[j]?=some v->xs[j]?=some x->RI ν I w v x) :
  oj ν I w (.agg vs) (.agg (xs.map .iv)):=by
 refine .agg (by simpa using hn) (λj v hv=>?_) λj v c hv hc=>?_
 ·have hj:=(Array.getElem?_eq_some_iff.1 hv).1;exact(hr j v _ hv (List.getElem?_eq_getElem (by omega))).one
 ·simp only[List.getElem?_map,Option.map_eq_some_iff]at hc;obtain⟨x,hx,rfl⟩:=hc;exact .iv (hr j v x hv hx)
section
variable {ν:Nat->Nat} {P:Program} {k:Cx} {g:Gh}
theorem rO (r:Rel ν k g) {a y:AV} {h':Hp} (e:(bZ true a).run g.h=some (y,h')) {v:Value} (hv:RA ν g v a):∃I',ej ν k g h' I'/\oj ν I' g.w v y:=by
 have plain:∀{a:AV},(cE true a).run g.h=some (y,h')->RA ν g v a->∃I',ej ν k g h' I'/\oj ν I' g.w v y:=by
  intro a e hv;obtain⟨x,h1,e1,e2⟩:=aw e;obtain⟨rfl,rfl⟩:=ai e2;obtain⟨I',f,hR⟩:=nr ν 8 k g a x _ e1 r v hv;exact⟨I',f,.iv hR⟩
 cases a with
 |agg cs=>
  obtain⟨l,h1,e1,e2⟩:=aw e;obtain⟨rfl,rfl⟩:=ai e2;obtain⟨xs,e3,rfl⟩:=Ec cs _ _ _ e1;obtain⟨vs,rfl⟩:=hv.lg;obtain⟨V,hV⟩:=pick λj c hc=>hv.jQ j c hc
  obtain⟨I',f,hl,hx⟩:=(nr ν 8).list cs k g xs _ e3 r V λj c hc=>(hV j c hc).2
  refine⟨I',f,sv ?_ λj v x h1 h2=>?_⟩
  ·cases hv with
   |agg hn _ _=>omega
  ·have bC:=bg h2;have:=(hV j _ (List.getElem?_eq_getElem (show j<cs.length by omega))).1;rw[h1]at this;cases this;exact hx j x h2
 |undef=>exact plain e hv
 |iv x=>exact plain e hv
 |bD vs=>exact plain e hv
 |own id o n v=>exact plain e hv
 |ref id v i j=>exact plain e hv
 |dg f caps=>exact plain e hv
theorem Ns (r:Rel ν k g) {a y:AV} {h':Hp} (e:(bZ false a).run g.h=some (y,h')) {v:Value} (hv:RA ν g v a) :
  h'=g.h/\∀J:Nat->Prop,(∀b,g.I b->J b)->(∀id o b,get g.h id=some o->g.φ id=some b->J b)->oj ν J g.w v y:=by
 have plain:∀{a:AV},(cE false a).run g.h=some (y,h')->RA ν g v a->h'=g.h/\∀J:Nat->Prop,(∀b,g.I b->J b)->(∀id o b,get g.h id=some o->g.φ id=some b->J b)->oj ν J g.w v y:=by
  intro a e hv;obtain⟨x,h1,e1,e2⟩:=aw e;obtain⟨rfl,rfl⟩:=ai e2;obtain⟨rfl,hR⟩:=rH ν 8 k g a x _ e1 r v hv;exact⟨rfl,λJ h1 h2=>.iv (hR J h1 h2)⟩
 cases a with
 |agg cs=>
  obtain⟨l,h1,e1,e2⟩:=aw e;obtain⟨rfl,rfl⟩:=ai e2;obtain⟨xs,e3,rfl⟩:=Ec cs _ _ _ e1;obtain⟨vs,rfl⟩:=hv.lg;obtain⟨V,hV⟩:=pick λj c hc=>hv.jQ j c hc
  obtain⟨rfl,hl,hx⟩:=(rH ν 8).list k g r cs xs _ e3 V λj c hc=>(hV j c hc).2
  refine⟨rfl,λJ h1 h2=>sv ?_ λj v x h3 h4=>?_⟩
  ·cases hv with
   |agg hn _ _=>omega
  ·have bC:=bg h4;have:=(hV j _ (List.getElem?_eq_getElem (show j<cs.length by omega))).1;rw[h3]at this;cases this;exact hx J h1 h2 j x h4
 |undef=>exact plain e hv
 |iv x=>exact plain e hv
 |bD vs=>exact plain e hv
 |own id o n v=>exact plain e hv
 |ref id v i j=>exact plain e hv
 |dg f caps=>exact plain e hv
def RL (ν:Nat->Nat) (g:Gh) (vs:List Value) (xs:List AV):Prop:=vs.length=xs.length/\∀(j:Nat) (v:Value) (x:AV),vs[j]?=some v->xs[j]?=some x->RA ν g v x
theorem RL.nil:RL ν g [] []:=⟨rfl,λj v x h=>by simp at h⟩
theorem RL.cons {v:Value} {x:AV} {vs:List Value} {xs:List AV} (h:RA ν g v x) (hl:RL ν g vs xs):RL ν g (v::vs) (x::xs):=
 ⟨by simp[hl.1],λj v' x' h1 h2=>by
  cases j with
  |zero=>simp at h1 h2;subst h1 h2;exact h
  |succ j=>exact hl.2 j v' x' (by simpa using h1) (by simpa using h2)⟩
theorem RL.tail {v:Value} {x:AV} {vs:List Value} {xs:List AV} (h:RL ν g (v::vs) (x::xs)):RA ν g v x/\RL ν g vs xs:=
 ⟨h.2 0 v x rfl rfl,by have:=h.1;simpa using this,λj v' x' h1 h2=>h.2 (j+1) v' x' (by simpa using h1) (by simpa using h2)⟩
theorem RL.mono {g':Gh} {vs:List Value} {xs:List AV} (h:RL ν g vs xs) (hm:∀v x,RA ν g v x->RA ν g' v x):RL ν g' vs xs:=⟨h.1,λj v x h1 h2=>hm _ _ (h.2 j v x h1 h2)⟩
theorem RL.append {vs us:List Value} {xs ys:List AV} (h:RL ν g vs xs) (h':RL ν g us ys):RL ν g (vs++us) (xs++ys):=
 ⟨by simp[h.1,h'.1],λj v x h1 h2=>by
  rw[List.getElem?_append]at h1 h2;rw[<-h.1]at h2;split at h1
  ·rename_i hj;rw[if_pos hj]at h2;exact h.2 j v x h1 h2
  ·rename_i hj;rw[if_neg hj]at h2;exact h'.2 _ v x h1 h2⟩
theorem pZ:∀(U:List AV) (k:Cx) (g:Gh) (ys:List AV) (h':Hp),(M.aG (bZ true) U).run g.h=some (ys,h')->Rel ν k g->∀vs:List Value,RL ν g vs U->
  ∃I',ej ν k g h' I'/\RL ν ⟨I',λ_=>none,g.w,[]⟩ vs ys:=by
 intro U
 induction U with
 |nil=>
  intro k g ys h' e r vs hv;obtain⟨rfl,rfl⟩:=dS e;have:vs=[]:=List.eq_nil_of_length_eq_zero hv.1;subst this;exact⟨g.I,.refl r,.nil⟩
 |cons a U ih=>
  intro k g ys h' e r vs hv;cases vs with
  |nil=>have:=hv.1;simp at this
  |cons v vs=>
   obtain⟨y,h1,zs,e1,e2,rfl⟩:=dx e;obtain⟨I1,f1,hR⟩:=rO r e1 hv.tail.1;obtain⟨I2,f2,gM⟩:=ih k _ zs h' e2 f1.rel vs (hv.tail.2.mono f1.mono);exact⟨I2,f1.trans f2,.cons (hR.mono λv x h=>h.mono f2.sub λ_ _ _ _ h=>h) gM⟩
theorem wq (r:Rel ν k g):∀(U:List AV) (ys:List AV) (h':Hp),(M.aG (bZ false) U).run g.h=some (ys,h')->∀vs:List Value,RL ν g vs U->
  h'=g.h/\∀J:Nat->Prop,(∀b,g.I b->J b)->(∀id o b,get g.h id=some o->g.φ id=some b->J b)->RL ν ⟨J,λ_=>none,g.w,[]⟩ vs ys:=by
 intro U
 induction U with
 |nil=>
  intro ys h' e vs hv;obtain⟨rfl,rfl⟩:=dS e;have:vs=[]:=List.eq_nil_of_length_eq_zero hv.1;subst this;exact⟨rfl,λ_ _ _=>.nil⟩
 |cons a U ih=>
  intro ys h' e vs hv;cases vs with
  |nil=>have:=hv.1;simp at this
  |cons v vs=>
   obtain⟨y,h1,zs,e1,e2,rfl⟩:=dx e;obtain⟨rfl,hR⟩:=Ns r e1 hv.tail.1;obtain⟨rfl,gM⟩:=ih zs h' e2 vs hv.tail.2;exact⟨rfl,λJ h1 h2=>.cons (hR J h1 h2) (gM J h1 h2)⟩
theorem Lp {x:IV} (hx:eZ x=true) {v:Value} {I J:Nat->Prop} {w w':World} (h:RI ν I w v x):RI ν J w' v x:=by
 cases h with
 |bool b=>exact .bool b
 |int kk n=>exact .int kk n
 |str s=>exact .str s
 |dM=>exact .dM
 |_=>simp[eZ]at hx
theorem Cn {x:AV} (hx:eI x=true) {v:Value} {g':Gh} (h:RA ν g v x):RA ν g' v x:=by
 cases h with
 |iv h=>exact .iv (Lp hx h)
 |_=>simp[eI]at hx
theorem wu {x:AV} (hx:ew x=true) {v:Value} {g':Gh} (h:RA ν g v x):RA ν g' v x:=by
 cases h with
 |agg hn h1 hr=>
  simp only[ew,List.all_eq_true]at hx;exact .agg hn h1 λj v c hv hc=>Cn (hx c (List.mem_of_getElem? hc)) (hr j v c hv hc)
 |iv h=>exact Cn (by simpa[ew]using hx) (.iv h)
 |_=>simp[ew,eI]at hx
theorem yV {x:AV} (hx:flat x=true) {v:Value} {g':Gh} (h:RA ν g v x):RA ν g' v x:=by
 cases h with
 |bD hn hr=>
  simp only[flat,List.all_eq_true]at hx;exact .bD hn λj v c hv hc=>wu (hx c (List.mem_of_getElem? hc)) (hr j v c hv hc)
 |agg hn h1 hr=>exact wu (by simpa[flat]using hx) (.agg hn h1 hr)
 |iv h=>exact wu (by simpa[flat]using hx) (.iv h)
 |_=>simp[flat,ew,eI]at hx
theorem Ed:∀(vs:List AV) (k:Cx) (g:Gh) (ys:List AV) (h':Hp),(M.aG (bZ true) vs).run g.h=some (ys,h')->Rel ν k g->∀us:Array Value,RA ν g (.tuple us) (.bD vs)->
  ∃I',ej ν k g h' I'/\oj ν I' g.w (.tuple us) (.bD ys):=by
 intro vs k g ys h' e r us hu;have gM:RL ν g us.toList vs:=by
  cases hu with
  |bD hn hr=>exact⟨by simpa using hn,λj v x h1 h2=>hr j v x (by simpa using h1) h2⟩
 obtain⟨I',f,hR⟩:=pZ vs k g ys h' e r us.toList gM;exact⟨I',f,.bD (by have:=hR.1;simpa using this) λj v c h1 h2=>hR.2 j v c (by simpa using h1) h2⟩
theorem xS (r:Rel ν k g) {p y:AV} (e:shut (p,g.h)=some y) {v:Value} (hv:RA ν g v p):∃I' h',ej ν k g h' I'/\oj ν I' g.w v y:=by
 unfold shut at e;simp only[Option.map_eq_some_iff]at e;obtain⟨⟨y',h'⟩,e,rfl⟩:=e;cases p with
 |bD vs=>
  obtain⟨l,h1,e1,e2⟩:=aw e;obtain⟨rfl,rfl⟩:=ai e2;obtain⟨us,rfl⟩:∃us,v = .tuple us:=by cases hv;exact⟨_,rfl⟩
  obtain⟨I',f,hR⟩:=Ed vs k g l _ e1 r us hv;exact⟨I',_,f,hR⟩
 |undef=>obtain⟨I',f',hR⟩:=rO (a:=.undef) r e hv;exact⟨I',_,f',hR⟩
 |iv x=>obtain⟨I',f',hR⟩:=rO (a:=(.iv x)) r e hv;exact⟨I',_,f',hR⟩
 |agg cs=>obtain⟨I',f',hR⟩:=rO (a:=(.agg cs)) r e hv;exact⟨I',_,f',hR⟩
 |own id o n v=>obtain⟨I',f',hR⟩:=rO (a:=(.own id o n v)) r e hv;exact⟨I',_,f',hR⟩
 |ref id v i j=>obtain⟨I',f',hR⟩:=rO (a:=(.ref id v i j)) r e hv;exact⟨I',_,f',hR⟩
 |dg f caps=>obtain⟨I',f',hR⟩:=rO (a:=(.dg f caps)) r e hv;exact⟨I',_,f',hR⟩
structure lk (g g':Gh):Prop where
 own:∀v id o n aC,id<1000->v.oneCell'=true->br g v id o n aC->br g' v id o n aC
 ref:∀v id aC i j,id<1000->v.oneCell'=true->bA g v id aC i j->bA g' v id aC i j
theorem lk.refl (g:Gh):lk g g:=⟨λ_ _ _ _ _ _ _ h=>h,λ_ _ _ _ _ _ _ h=>h⟩
theorem lk.trans {a b c:Gh} (h:lk a b) (h':lk b c):lk a c:=⟨λ_ _ _ _ _ hi h1 x=>h'.own _ _ _ _ _ hi h1 (h.own _ _ _ _ _ hi h1 x),λ_ _ _ _ _ hi h1 x=>h'.ref _ _ _ _ _ hi h1 (h.ref _ _ _ _ _ hi h1 x)⟩
theorem bY.low {g g':Gh} (h:bY ν g g'):lk g g':=
 ⟨λv id o n aC _ h1 x=>by cases h v _ (.own h1 x)with | own _ y=>exact y,λv id aC i j _ h1 x=>by cases h v _ (.ref h1 x)with | ref _ y=>exact y⟩
theorem RA.Wj {g g':Gh} (hI:∀v x,RI ν g.I g.w v x->RI ν g'.I g'.w v x) (ho:∀v id o n aC,v.oneCell'=true->br g v id o n aC->br g' v id o n aC)
  (hr:∀v id aC i j,v.oneCell'=true->bA g v id aC i j->bA g' v id aC i j) {v:Value} {x:AV} (h:RA ν g v x):RA ν g' v x:=by
 induction h with
 |undef v=>exact .undef v
 |iv h=>exact .iv (hI _ _ h)
 |agg hn h1 _ ih=>exact .agg hn h1 ih
 |bD hn _ ih=>exact .bD hn ih
 |own h1 h=>exact .own h1 (ho _ _ _ _ _ h1 h)
 |ref h1 h=>exact .ref h1 (hr _ _ _ _ _ h1 h)
 |dg hn _ ih=>exact .dg hn ih
def mU (ν:Nat->Nat) (P:Program) (f:Nat) (args:List AV) (hp:Hp) (r:AV) (dG:Hp):Prop:=
 ∀(k0:Cx) (g0:Gh) (bP:Array Value),g0.h=hp->k0.w=g0.w->k0.I=g0.I->Rel ν k0 g0->RL ν g0 bP.toList args->
  Calls P (ν f) bP g0.w λe w'=>∃v g',e = .returned v/\g'.w=w'/\g'.h=dG/\Rel ν k0 g'/\lk g0 g'/\RA ν g' v r
def cR (ν:Nat->Nat) (P:Program) (call:Nat->List AV->Hp->Option (AV×Hp)):Prop:=
 ∀f args hp r dG,call f args hp=some (r,dG)->(∃fn,P.funcs[ν f]?=some fn/\fn.body.isSome=true/\(fn.name=="runtime.NumGoroutine")=false)/\mU ν P f args hp r dG
theorem kW {x:AV} {q:Nat×List AV} (e:callee x=some q) {v:Value} (hv:RA ν g v x):∃caps,v = .func (.func (ν q.1)) #[] caps/\RL ν g caps.toList q.2:=by
 unfold callee at e;split at e
 ·cases e;cases hv with
  |iv h=>
   cases h with
   |fn f caps cs hn hr=>
    refine⟨caps,rfl,by simpa using hn,λj v x h1 h2=>?_⟩;simp only[List.getElem?_map,Option.map_eq_some_iff]at h2;obtain⟨y,hy,rfl⟩:=h2;exact .iv (hr j v y (by simpa using h1) hy)
 ·cases e;cases hv with
  |dg hn hr=>exact⟨_,rfl,by simpa using hn,λj v x h1 h2=>hr j v x (by simpa using h1) h2⟩
 ·cases e
theorem wv {ρ:Operand->Value} {o:Oper} {fo:Operand} {bP:Array Operand} {jv:Array TypeId} (ho:o.op = .call { callee:=.value fo,args:=bP,argTypes:=jv }) {f:Nat} {caps:Array Value}
  (hf:ρ fo = .func (.func (ν f)) #[] caps) {fn:Func} (iw:P.funcs[ν f]?=some fn) (hb:fn.body.isSome=true) (hn:(fn.name=="runtime.NumGoroutine")=false) (w:World) :
  (execOp ρ o).run P w = .ok (.enter (ν f) (bP.map ρ++caps)) w:=by
 have lY:¬fn.body=none:=λh=>by rw[h]at hb;cases hb
 have fD:¬fn.name="runtime.NumGoroutine":=by simpa using hn
 simp[execOp,ho,resolve,hf,Deferred.ofValue,invoke,callFunc,iw,lY,fD]
def ll (ν:Nat->Nat) (P:Program) (k:Cx) (g:Gh) (h':Hp) (y:AV) (fv:Value) (bP:Array Value):Prop:=
 ∃q caps fn,fv = .func (.func (ν q)) #[] caps/\P.funcs[ν q]?=some fn/\fn.body.isSome=true/\(fn.name=="runtime.NumGoroutine")=false/\
  Calls P (ν q) (bP++caps) g.w λe w'=>∃v g',e = .returned v/\g'.w=w'/\g'.h=h'/\Rel ν k g'/\bY ν g g'/\RA ν g' v y
theorem rP {J:Nat->Prop} (hs:∀b,J b->b<g.w.heap.size):Rel ν ⟨g.w,J,λ_=>False⟩ ⟨J,λ_=>none,g.w,[]⟩:=
 ⟨λid o h=>by simp[get]at h,λid ed o o' b h=>by simp[get]at h,hs,λ_ h=>h,λ_ h=>.inl h,λid o b h=>by simp[get]at h,Nat.le_refl _,rfl,rfl,rfl,λ_ _ _=>rfl⟩
theorem uz (r:Rel ν k g) {J:Nat->Prop} {g':Gh} (r':Rel ν ⟨g.w,J,λ_=>False⟩ g'):Rel ν k { g with w:=g'.w }/\bY ν g { g with w:=g'.w }:=
 r.world (I':=g.I) (λ_ h=>h) (λ_ h=>.inl h) r'.size r'.os r'.tape r'.output λb hb=>r'.bu b hb (.inl λh=>h)
theorem yW {call:Nat->List AV->Hp->Option (AV×Hp)} (hs:cR ν P call) (r:Rel ν k g) {f y:AV} {args:List AV} {h':Hp} (e:(dF call f args).run g.h=some (y,h')) {fv:Value} {bP:Array Value}
  (hf:RA ν g fv f) (ha:RL ν g bP.toList args):ll ν P k g h' y fv bP:=by
 obtain⟨q,hq,e2⟩:=M.lift_bind e;obtain⟨caps,rfl,j3⟩:=kW hq hf;obtain⟨U,h2,e3,e4⟩:=aw e2;obtain⟨rfl,hJ⟩:=wq r _ _ _ e3 (bP.toList++caps.toList) (ha.append j3);obtain⟨y',hc,e6⟩:=M.lift_bind e4;obtain⟨Co,e8⟩:=M.aL e6;obtain⟨rfl,rfl⟩:=ai e8;obtain⟨⟨rr,hh⟩,iN,uA⟩:=Option.bind_eq_some_iff.1 hc;obtain⟨⟨fn,iw,hb,hn⟩,cg⟩:=hs _ _ _ _ _ iN;have sw:∀b,(g.I b\/∃id o,get g.h id=some o/\g.φ id=some b)->b<g.w.heap.size:=by
  rintro b (h | ⟨id,o,ho,aB⟩)
  ·exact r.small b h
  ·exact(r.ob id o ho).block aB r.small
 have gM:=hJ (λb=>g.I b\/∃id o,get g.h id=some o/\g.φ id=some b) (λ_ h=>.inl h) λid o b h1 h2=>.inr ⟨id,o,h1,h2⟩
 refine⟨q.1,caps,fn,rfl,iw,hb,hn,(cg _ _ (bP++caps) rfl rfl rfl (rP sw) (by simpa using gM)).mono ?_⟩;rintro e w' ⟨v,g',rfl,rfl,rfl,r', -,hR⟩;obtain⟨I',zY, -,tH⟩:=xS r' uA hR;obtain⟨r2,m2⟩:=uz r r';exact⟨v,{ g with w:=g'.w },rfl,rfl,rfl,r2,m2,yV Co tH⟩
theorem wx {call:Nat->List AV->Hp->Option (AV×Hp)} (hs:cR ν P call) (r:Rel ν k g) {f y:AV} {args:List AV} {h':Hp} (e:(dR call f args).run g.h=some (y,h')) {fv:Value} {bP:Array Value}
  (hf:RA ν g fv f) (ha:RL ν g bP.toList args):ll ν P k g h' y fv bP:=by
 obtain⟨q,hq,e2⟩:=M.lift_bind e;obtain⟨caps,rfl,j3⟩:=kW hq hf;obtain⟨U,h2,e3,e4⟩:=aw e2;obtain⟨I1,f1,gM⟩:=pZ _ k g U _ e3 r (bP.toList++caps.toList) (ha.append j3);obtain⟨hc,rfl⟩:=gN e4;obtain⟨⟨rr,hh⟩,iN,uA⟩:=Option.bind_eq_some_iff.1 hc;obtain⟨⟨fn,iw,hb,hn⟩,cg⟩:=hs _ _ _ _ _ iN;refine⟨q.1,caps,fn,rfl,iw,hb,hn,(cg _ _ (bP++caps) rfl rfl rfl (rP f1.rel.small) (by simpa using gM)).mono ?_⟩;rintro e w' ⟨v,g',rfl,rfl,rfl,r', -,hR⟩;obtain⟨I2,zY,f2,tH⟩:=xS r' uA hR;have jh:∀b,I2 b->I1 b\/g.w.heap.size<=b/\b<g'.w.heap.size:=by
  intro b hb;have bC:=f2.rel.small b hb;rcases f2.rel.i1 b hb with h | h | h
  ·exact .inl h
  ·exact h.elim
  ·exact .inr ⟨h,bC⟩
 have hw:=f1.rel.world (w':=g'.w) (I':=I2) (λb h=>f2.sub b (r'.i0 b h)) jh r'.size r'.os r'.tape r'.output λb hb=>r'.bu b hb (.inl λh=>h)
 exact⟨v,⟨I2,g.φ,g'.w,_⟩,rfl,rfl,rfl,hw.1,f1.mono.trans hw.2,tH.up λv x h=>h⟩
theorem Lq {call:Nat->List AV->Hp->Option (AV×Hp)} (hs:cR ν P call) (r:Rel ν k g) {slot:Nat} {f y:AV} {args:List AV} {h':Hp} (e:(tv call slot f args).run g.h=some (y,h')) {fv:Value} {bP:Array Value}
  (hf:RA ν g fv f) (ha:RL ν g bP.toList args):ll ν P k g h' y fv bP:=by
 obtain⟨q,hq,e2⟩:=M.lift_bind e;obtain⟨caps,rfl,j3⟩:=kW hq hf;obtain⟨U,h2,e3,e4⟩:=aw e2;obtain⟨I1,f1,gM⟩:=pZ _ k g U _ e3 r (bP.toList++caps.toList) (ha.append j3);obtain⟨⟨rr,hh⟩,h3,e5,e6⟩:=aw e4;obtain⟨iN,rfl⟩:=gN e5;obtain⟨⟨fn,iw,hb,hn⟩,cg⟩:=hs _ _ _ _ _ iN;refine⟨q.1,caps,fn,rfl,iw,hb,hn,(cg _ _ (bP++caps) rfl rfl rfl (rP f1.rel.small) (by simpa using gM)).mono ?_⟩;rintro e w' ⟨v,g',rfl,rfl,rfl,r', -,hR⟩;have jh:∀b,g'.I b->I1 b\/g.w.heap.size<=b/\b<g'.w.heap.size:=by
  intro b hb;have bC:=r'.small b hb;rcases r'.i1 b hb with h | h | h
  ·exact .inl h
  ·exact h.elim
  ·exact .inr ⟨h,bC⟩
 have hw:=f1.rel.world (w':=g'.w) (I':=g'.I) (λb h=>r'.i0 b h) jh r'.size r'.os r'.tape r'.output λb hb=>r'.bu b hb (.inl λh=>h)
 unfold xN at e6;split at e6
 case h_2=>exact(ah e6).elim
 rename_i i o n aC l5;simp only at l5;subst l5;obtain⟨ob,Ee,e8⟩:=M.lift_bind e6;cases ob with
 |cells _=>exact(ah e8).elim
 |cm _ _ _=>exact(ah e8).elim
 |map _=>exact(ah e8).elim
 |buf v' e' es=>
  obtain⟨SJ,gV⟩:=M.aL e8;obtain⟨_,h6,Aa,tA⟩:=aw gV;obtain⟨eJ,rfl⟩:=M.fC Aa;obtain⟨_,h7,SK,D5⟩:=aw tA;obtain rfl:=bV SK;obtain⟨rfl,rfl⟩:=ai D5;simp only[Bool.and_eq_true,beq_iff_eq]at SJ;obtain⟨rfl,rfl⟩:=SJ;cases hR with
  |own da ho=>
   unfold br at ho;simp only[Ee]at ho;have n9:=ho.2 (by trivial);have yX:∀b,g'.φ i=some b->g.w.heap.size<=b:=λb hb=>(r'.own i _ b Ee hb).resolve_left λh=>h
   have hn:=hw.1.I5 (s:=slot) (ob:=.buf 0 e' es) (p:=g'.φ i) (w':=g'.w) eJ (Nat.le_refl _) rfl rfl rfl (λ_ _=>rfl)
    (λb hb id o ho aB=>by have:=(f1.rel.ob id o ho).block aB f1.rel.small;have:=yX b hb;simp only[]at *;omega)
    (λb hb=>.inr (Nat.le_trans r.size (yX b hb))) λhm=>?_
   ·refine⟨v,⟨g'.I,cG g.φ slot (g'.φ i),g'.w,set _ slot (.buf 0 e' es)⟩,rfl,rfl,rfl,hn.1,(f1.mono.trans hw.2).trans hn.2,.own da ?_⟩;unfold br;simp only[ar,aU];exact⟨Nat.le_refl _,λ_=>n9⟩
   ·rcases r'.ob i _ Ee with⟨h1,h2⟩|⟨b,h1,h2,h3,h4⟩
    ·exact .inl ⟨(aU _ _ _).trans h1,h2⟩
    ·exact .inr ⟨b,(aU _ _ _).trans h1,h2,h3,h4⟩
end
theorem mI:∀{ids:List Nat} {id i:Nat},place ids id=some i->ids[i]?=some id:=by
 intro ids
 induction ids with
 |nil=>intro id i h;simp[place]at h
 |cons x ids ih=>
  intro id i h;simp only[place]at h;split at h
  ·rename_i hx;cases h;simp[hx]
  ·simp only[Option.map_eq_some_iff]at h;obtain⟨j,hj,rfl⟩:=h;simpa using ih hj
theorem Jf:∀{ids:List Nat} {id:Nat},place ids id=none->∀i:Nat,ids[i]?≠some id:=by
 intro ids
 induction ids with
 |nil=>intro id _ i h;simp at h
 |cons x ids ih=>
  intro id h i hi;simp only[place]at h;split at h
  ·cases h
  ·rename_i hx;cases i with
   |zero=>simp at hi;exact hx hi
   |succ i=>exact ih (by simpa using h) i (by simpa using hi)
theorem tc:∀{ids:List Nat},kJ ids=true->∀{i id:Nat},ids[i]?=some id->place ids id=some i:=by
 intro ids
 induction ids with
 |nil=>intro _ i id h;simp at h
 |cons x ids ih=>
  intro hn i id h;simp only[kJ,Bool.and_eq_true,Bool.not_eq_true',List.contains_eq_mem,decide_eq_false_iff_not]at hn;simp only[place];cases i with
  |zero=>simp at h;rw[if_pos h]
  |succ i=>
   have h':ids[i]?=some id:=by simpa using h
   rw[if_neg (λe:x=id=>hn.1 (by rw[e];exact List.mem_of_getElem? h')),ih hn.2 h'];rfl
theorem BI {α:Type}:∀(l:List α) (s i:Nat),get (fA l s) i=if s<=i then l[i - s]? else none:=by
 intro l
 induction l with
 |nil=>intro s i;simp[fA,get]
 |cons x l ih=>
  intro s i;simp only[fA,get,ih];by_cases h:s=i
  ·subst h;simp
  ·rw[if_neg h];by_cases h':s<=i
   ·rw[if_pos (by omega),if_pos h',show i - s=(i - (s+1))+1 by omega];simp
   ·rw[if_neg (by omega),if_neg h']
section
variable {ν:Nat->Nat} {P:Program} {k:Cx} {g:Gh}
inductive BJ (ν:Nat->Nat) (g:Gh) (ids:List Nat) (v:Value):AV->Prop
 |own {id i o n aC:Nat} (h1:v.oneCell'=true) (h:br g v id o n aC) (hi:place ids id=some i):BJ ν g ids v (.own i o n aC)
 |ref {id p aC i j:Nat} (h1:v.oneCell'=true) (h:bA g v id aC i j) (hp:place ids id=some p):BJ ν g ids v (.ref p aC i j)
 |shut {x:AV} (h:oj ν g.I g.w v x):BJ ν g ids v x
theorem Lr {ids:List Nat}:∀(U:List AV) (k:Cx) (g:Gh) (ys:List AV) (h':Hp),(M.aG (qR ids) U).run g.h=some (ys,h')->Rel ν k g->∀vs:List Value,RL ν g vs U->
  ∃I',ej ν k g h' I'/\ys.length=vs.length/\∀(j:Nat) (v:Value) (y:AV),vs[j]?=some v->ys[j]?=some y->BJ ν { g with I:=I',h:=h' } ids v y:=by
 intro U
 induction U with
 |nil=>
  intro k g ys h' e r vs hv;obtain⟨rfl,rfl⟩:=dS e;have:vs=[]:=List.eq_nil_of_length_eq_zero hv.1;subst this;exact⟨g.I,.refl r,rfl,λj v y h=>by simp at h⟩
 |cons a U ih=>
  intro k g ys h' e r vs hv;cases vs with
  |nil=>have:=hv.1;simp at this
  |cons v vs=>
   obtain⟨y,h1,zs,e1,e2,rfl⟩:=dx e;have key:∃I1,ej ν k g h1 I1/\∀(g2:Gh),bY ν { g with I:=I1,h:=h1 } g2->(∀v x,RI ν I1 g.w v x->RI ν g2.I g2.w v x)->BJ ν g2 ids v y:=by
    have ha:=hv.tail.1;have plain:∀{a:AV},(bZ true a).run g.h=some (y,h1)->RA ν g v a->∃I1,ej ν k g h1 I1/\∀(g2:Gh),bY ν { g with I:=I1,h:=h1 } g2->(∀v x,RI ν I1 g.w v x->RI ν g2.I g2.w v x)->BJ ν g2 ids v y:=by
     intro a e ha;obtain⟨I1,f1,hR⟩:=rO r e ha;exact⟨I1,f1,λg2 _ eD=>.shut (hR.mono eD)⟩
    cases a with
    |own id o n aC=>
     obtain⟨i,hi,e4⟩:=M.lift_bind e1;obtain⟨rfl,rfl⟩:=ai e4;refine⟨g.I,.refl r,λg2 hm _=>?_⟩;have:=hm _ _ ha;cases this with
     |own h1 h=>exact .own h1 h hi
    |ref id aC i j=>
     obtain⟨p,hi,e4⟩:=M.lift_bind e1;obtain⟨rfl,rfl⟩:=ai e4;refine⟨g.I,.refl r,λg2 hm _=>?_⟩;have:=hm _ _ ha;cases this with
     |ref h1 h=>exact .ref h1 h hi
    |undef=>exact plain (a:=.undef) e1 ha
    |iv x=>exact plain (a:=(.iv x)) e1 ha
    |agg cs=>exact plain (a:=(.agg cs)) e1 ha
    |bD vs=>exact plain (a:=(.bD vs)) e1 ha
    |dg f caps=>exact plain (a:=(.dg f caps)) e1 ha
   obtain⟨I1,f1,hS⟩:=key;obtain⟨I2,f2,hl,hR⟩:=ih k _ zs h' e2 f1.rel vs (hv.tail.2.mono f1.mono);refine⟨I2,f1.trans f2,by simp[hl],λj v' y' h1 h2=>?_⟩;cases j with
   |zero=>simp at h1 h2;subst h1 h2;exact hS _ f2.mono λv x h=>h.mono f2.sub λ_ _ _ _ h=>h
   |succ j=>exact hR j v' y' (by simpa using h1) (by simpa using h2)
theorem Jg:∀(ids:List Nat) (os:List Ob) (h h':Hp),(M.aG (λid=>(M.look id).bind λo=>(M.ok (lz o)).bind λ_=>M.ret o) ids).run h=some (os,h')->
  h'=h/\os.length=ids.length/\∀(i id:Nat),ids[i]?=some id->∃v e es,os[i]?=some (.buf v e es)/\get h id=some (.buf v e es):=by
 intro ids
 induction ids with
 |nil=>
  intro os h h' e;obtain⟨rfl,rfl⟩:=dS e;exact⟨rfl,rfl,λi id h=>by simp at h⟩
 |cons x ids ih=>
  intro os h h' e;obtain⟨y,h1,zs,e1,e2,rfl⟩:=dx e;obtain⟨o,hg,e4⟩:=M.cf e1;obtain⟨cg,e6⟩:=M.aL e4;obtain⟨rfl,rfl⟩:=ai e6;obtain⟨rfl,hl,hr⟩:=ih zs _ _ e2;refine⟨rfl,by simp[hl],λi id hi=>?_⟩;cases i with
  |zero=>
   simp at hi;subst hi;cases o with
   |buf v ee es=>exact⟨v,ee,es,rfl,hg⟩
   |cells _=>simp[lz]at cg
   |cm _ _ _=>simp[lz]at cg
   |map _=>simp[lz]at cg
  |succ i=>simpa using hr i id (by simpa using hi)
theorem GG:∀(ids:List Nat) (s:Nat) (hc h h':Hp) (u:Unit),(lE ids s hc).run h=some (u,h')->kJ ids=true->
  (∀(i id:Nat),ids[i]?=some id->∃o,get hc (s+i)=some o/\get h' id=some o/\(∀cs,o≠.cells cs)/\∀dh,o≠.map dh)/\∀id,place ids id=none->get h' id=get h id:=by
 intro ids
 induction ids with
 |nil=>
  intro s hc h h' u e _;obtain⟨-,rfl⟩:=ai e;exact⟨λi id h=>by simp at h,λ_ _=>rfl⟩
 |cons x ids ih=>
  intro s hc h h' u e hn;have fD:=hn;simp only[kJ,Bool.and_eq_true,Bool.not_eq_true',List.contains_eq_mem,decide_eq_false_iff_not]at hn;obtain⟨o,ho,e2⟩:=M.lift_bind e;obtain⟨cg,e4⟩:=M.aL e2;obtain⟨_,h3,e5,e6⟩:=aw e4;obtain rfl:=bV e5;obtain⟨q1,q2⟩:=ih (s+1) hc _ h' u e6 hn.2;have hx:place ids x=none:=by
   cases hp:place ids x with
   |none=>rfl
   |some i=>exact absurd (List.mem_of_getElem? (mI hp)) hn.1
  refine⟨λi id hi=>?_,λid cV=>?_⟩
  ·cases i with
   |zero=>
    simp at hi;subst hi;refine⟨o,ho,?_,⟨λcs fI=>(by subst fI;cases cg),λcs fI=>(by subst fI;cases cg)⟩⟩;rw[q2 _ hx];exact ar _ _ _
   |succ i=>
    have:=q1 i id (by simpa using hi)
    rwa [show s+1+i=s+(i+1) by omega]at this
  ·simp only[place]at cV;split at cV
   ·cases cV
   ·rename_i cA;rw[q2 id (by simpa using cV)];exact aF _ _ cA
theorem Ls {call:Nat->List AV->Hp->Option (AV×Hp)} (hs:cR ν P call) (r:Rel ν k g) {f y:AV} {args:List AV} {h':Hp} (e:(nW call f args).run g.h=some (y,h')) {fv:Value} {bP:Array Value}
  (hf:RA ν g fv f) (ha:RL ν g bP.toList args):ll ν P k g h' y fv bP:=by
 obtain⟨q,hq,e2⟩:=M.lift_bind e;obtain⟨caps,rfl,j3⟩:=kW hq hf;simp only[]at e2;generalize abp:dedup ((args++q.2).flatMap qQ) []=ids at e2;obtain⟨Cp,e4⟩:=M.aL e2;simp only[Bool.and_eq_true,Nat.ble_eq]at Cp;obtain⟨Cp,hlen⟩:=Cp;obtain⟨U,h3,e5,e6⟩:=aw e4;obtain⟨I1,f1,gD,Wk⟩:=Lr (ids:=ids) _ k g U _ e5 r (bP.toList++caps.toList) (ha.append j3);obtain⟨os,h4,e7,e8⟩:=aw e6;obtain⟨rfl,kr,Ef⟩:=Jg ids os _ _ e7;obtain⟨p,iN,gV⟩:=M.lift_bind e8;obtain⟨rr,h6,Aa,tA⟩:=aw gV;obtain⟨l5,rfl⟩:=gN Aa;obtain⟨_,h7,SK,D5⟩:=aw tA
 obtain⟨rfl,rfl⟩:=ai D5;obtain⟨⟨fn,iw,hb,hn⟩,cg⟩:=hs _ _ _ _ _ iN;have r1:=f1.rel
 let Lt:Nat->Option Nat:=λi=>(ids[i]?).bind g.φ
 let L:Nat->Prop:=λb=>∃(i id:Nat),ids[i]?=some id/\g.φ id=some b
 let g1:Gh:={ g with I:=I1,h:=h6 }
 let g0:Gh:=⟨I1,Lt,g.w,fA os 0⟩
 have tI:∀i,get g0.h i=os[i]?:=λi=>by
  show get (fA os 0) i=_
  rw[BI,if_pos (Nat.zero_le _),Nat.sub_zero]
 have Jh:∀i o,get g0.h i=some o->∃id,ids[i]?=some id/\get h6 id=some o/\(∃v e es,o = .buf v e es)/\Lt i=g.φ id:=by
  intro i o ho;rw[tI]at ho;have hi:i<ids.length:=by have:=bg ho;omega
  have cV:ids[i]?=some ids[i]:=List.getElem?_eq_getElem hi;obtain⟨v,ee,es,q1,q2⟩:=Ef i _ cV;rw[ho]at q1;cases q1;exact⟨_,cV,q2,⟨v,ee,es,rfl⟩,by simp[Lt,cV]⟩
 have hLI:∀b,L b->¬I1 b/\b<g.w.heap.size:=by
  rintro b ⟨i,id,cV,aB⟩;obtain⟨v,ee,es,q1,q2⟩:=Ef i id cV;rcases r1.ob id _ q2 with⟨h1,_⟩|⟨b',h1,h2,h3,_⟩
  ·simp only[aB]at h1;cases h1
  ·simp only[aB]at h1;cases h1;exact⟨h2,h3.1⟩
 have r0:Rel ν ⟨g.w,I1,L⟩ g0:=by
  refine⟨λi o ho=>?_,λi i' o o' b ho fc aB bS=>?_,r1.small,λ_ h=>h,λ_ h=>.inl h,λi o b ho aB=>?_,Nat.le_refl _,rfl,rfl,rfl,λ_ _ _=>rfl⟩
  ·obtain⟨id,cV,hg,⟨v,ee,es,rfl⟩,aB⟩:=Jh i o ho;rcases r1.ob id _ hg with⟨h1,h2⟩|⟨b,h1,h2,h3,h4⟩
   ·exact .inl ⟨aB.trans h1,h2⟩
   ·exact .inr ⟨b,aB.trans h1,h2,h3,h4⟩
  ·obtain⟨id,cV,hg, -,Nt⟩:=Jh i o ho;obtain⟨ed,BK,iq, -,Wl⟩:=Jh i' o' fc;have:=r1.inj id ed o o' b hg iq (Nt.symm.trans aB) (Wl.symm.trans bS);subst this;have h1:=tc Cp cV;have h2:=tc Cp BK;rw[h1]at h2;exact Option.some.inj h2
  ·obtain⟨id,cV,hg, -,Nt⟩:=Jh i o ho;exact .inl ⟨i,id,cV,Nt.symm.trans aB⟩
 have low:∀{i id:Nat},place ids id=some i->i<1000:=λh=>by have:=bg (mI h);omega
 have SL:∀{i id:Nat},place ids id=some i->get g0.h i=get h6 id/\Lt i=g.φ id:=by
  intro i id h;have cV:=mI h;obtain⟨v,ee,es,q1,q2⟩:=Ef i id cV;exact⟨by rw[tI,q1,q2],by simp[Lt,cV]⟩
 have SN:∀{i id o n aC:Nat} {v:Value},place ids id=some i->br g1 v id o n aC->br g0 v i o n aC:=by
  intro i id o n aC v hp ho;obtain⟨a1,a2⟩:=SL hp;unfold br at ho ⊢;rw[a1,show g0.φ i=g.φ id from a2];exact ho
 have SO:∀{i id aC a b:Nat} {v:Value},place ids id=some i->bA g1 v id aC a b->bA g0 v i aC a b:=by
  intro i id aC a b v hp ho;obtain⟨a1,a2⟩:=SL hp;unfold bA at ho ⊢;rw[a1,show g0.φ i=g.φ id from a2];exact ho
 have gM:RL ν g0 (bP++caps).toList U:=by
  refine⟨by rw[gD];simp,λj v y h1 h2=>?_⟩;have hS:=Wk j v y (by simpa using h1) h2;cases hS with
  |own h1 h hp=>exact .own h1 (SN hp h)
  |ref h1 h hp=>exact .ref h1 (SO hp h)
  |shut h=>exact h.up λv x h=>h
 refine⟨q.1,caps,fn,rfl,iw,hb,hn,(cg ⟨g.w,I1,L⟩ g0 (bP++caps) rfl rfl rfl r0 gM).mono ?_⟩;rintro e w' ⟨v,g',rfl,rfl,hgh,r',ml,hR⟩;obtain⟨q1,q2⟩:=GG ids 0 p.2 h6 h' _ SK Cp;simp only[Nat.zero_add]at q1
 let Eg:Nat->Option Nat:=λid=>match place ids id with | some i=>g'.φ i | none=>g.φ id
 let g2:Gh:=⟨g'.I,Eg,g'.w,h'⟩
 have sA:∀{i id:Nat},place ids id=some i->Eg id=g'.φ i/\∃o,get g'.h i=some o/\get h' id=some o/\(∀cs,o≠.cells cs)/\∀dh,o≠.map dh:=by
  intro i id hp;obtain⟨o,a1,a2,a3⟩:=q1 i id (mI hp);exact⟨by simp[Eg,hp],o,by rw[hgh];exact a1,a2,a3⟩
 have uB:∀{id:Nat},place ids id=none->Eg id=g.φ id/\get h' id=get h6 id:=λhp=>⟨by simp[Eg,hp],q2 _ hp⟩
 have Ak:∀{id:Nat} {o:Ob} {b:Nat},place ids id=none->get h6 id=some o->g.φ id=some b->¬L b:=by
  rintro id o b hp ho aB ⟨i,ed,BK,bS⟩;obtain⟨v,ee,es,q3,q4⟩:=Ef i ed BK;have:=r1.inj id ed o _ b ho q4 aB bS;subst this;exact Jf hp i BK
 have eD:∀v x,RI ν I1 g.w v x->RI ν g'.I g'.w v x:=λv x h=>h.mono (λb hb=>r'.i0 b hb) λb off u hb hc=>by
  rw[c6 (r'.bu b (r1.small b hb) (.inr hb))];exact hc
 have Ji:∀b,b<g.w.heap.size->¬L b->g'.w.heap[b]?=g.w.heap[b]?:=λb hb hL=>r'.bu b hb (.inl hL)
 have m2:bY ν g1 g2:=by
  intro v x hx;refine hx.Wj eD ?_ ?_
  ·intro v id o n aC da ho;cases hp:place ids id with
   |some i=>
    have h:=ml.own v i o n aC (low hp) da (SN hp ho);obtain⟨a1,ob,a2,a3,_⟩:=sA hp;unfold br at h ⊢;rw[a2]at h;rw[show get g2.h id=some ob from a3,show g2.φ id=g'.φ i from a1];exact h
   |none=>
    obtain⟨a1,a2⟩:=uB hp;obtain⟨ob,jI⟩:=ho.alive;exact ho.other (g':=g2) a2 a1 λb aB=>Ji b ((r1.ob id _ jI).block aB r1.small) (Ak hp jI aB)
  ·intro v id aC a b da hr;cases hp:place ids id with
   |some i=>
    have h:=ml.ref v i aC a b (low hp) da (SO hp hr);obtain⟨a1,ob,a2,a3,_⟩:=sA hp;unfold bA at h ⊢;rw[a2]at h;rw[show get g2.h id=some ob from a3,show g2.φ id=g'.φ i from a1];exact h
   |none=>
    obtain⟨a1,a2⟩:=uB hp;exact hr.other (g':=g2) a2 a1
 have hI2:∀b,b<g.w.heap.size->g'.I b->I1 b\/L b:=by
  intro b hb h;rcases r'.i1 b h with h | h | h
  ·exact .inl h
  ·exact .inr h
  ·simp only[]at h;omega
 have r2:Rel ν k g2:=by
  refine⟨λid o ho=>?_,λid ed o o' b ho fc aB bS=>?_,r'.small,λb h=>r'.i0 b (r1.i0 b h),λb h=>?_,λid o b ho aB=>?_,Nat.le_trans r1.size r'.size,r'.os.trans r1.os,r'.tape.trans r1.tape,r'.output.trans r1.output,λb hb hk=>?_⟩
  ·cases hp:place ids id with
   |some i=>
    obtain⟨a1,ob,a2,a3,a4⟩:=sA hp;have:ob=o:=by rw[show get g2.h id=some ob from a3]at ho;exact Option.some.inj ho
    subst this;have bu:=r'.ob i _ a2;cases ob with
    |cells cs=>exact absurd rfl (a4.1 cs)
    |map cs=>exact absurd rfl (a4.2 cs)
    |buf v ee es=>
     rcases bu with⟨h1,h2⟩|⟨b,h1,h2,h3,h4⟩
     ·exact .inl ⟨a1.trans h1,h2⟩
     ·exact .inr ⟨b,a1.trans h1,h2,h3,h4⟩
    |cm v ee es=>
     rcases bu with⟨h1,h2⟩|⟨b,h1,h2,h3⟩
     ·exact .inl ⟨a1.trans h1,h2⟩
     ·exact .inr ⟨b,a1.trans h1,h2,h3⟩
   |none=>
    obtain⟨a1,a2⟩:=uB hp;have fc:get h6 id=some o:=a2.symm.trans ho;refine(r1.ob id o fc).other (g':=g2) a1 m2 eD r'.size (λb aB=>Ji b ((r1.ob id _ fc).block aB r1.small) (Ak hp fc aB)) λb aB=>?_
    have bC:=(r1.ob id _ fc).block aB r1.small;exact⟨λh=>(hI2 b bC h).resolve_right (Ak hp fc aB),λh=>r'.i0 b h⟩
  ·have PG:∀{a c:Nat} {oc:Ob},(∃i,place ids a=some i)->place ids c=none->get h' c=some oc->Eg a=some b->Eg c=some b->False:=by
    rintro a c oc ⟨i,hp⟩ dG X4 h1 h2;obtain⟨a1,ob,a2,a3,_⟩:=sA hp;obtain⟨b1,b2⟩:=uB dG;have X5:get h6 c=some oc:=b2.symm.trans X4;have SP:g.φ c=some b:=b1.symm.trans h2;rcases r'.own i ob b a2 (a1.symm.trans h1)with h | h
    ·exact Ak dG X5 SP h
    ·have:=(r1.ob c _ X5).block SP r1.small;simp only[]at h this;omega
   cases hp:place ids id with
   |some i=>
    cases dG:place ids ed with
    |some i'=>
     obtain⟨a1,ob,a2,a3,_⟩:=sA hp;obtain⟨b1,pR,b2,b3,_⟩:=sA dG;have:=r'.inj i i' ob pR b a2 b2 (a1.symm.trans aB) (b1.symm.trans bS);subst this;have h1:=mI hp;rw[mI dG]at h1;exact(Option.some.inj h1).symm
    |none=>exact(PG ⟨i,hp⟩ dG fc aB bS).elim
   |none=>
    cases dG:place ids ed with
    |some i'=>exact(PG ⟨i',dG⟩ hp ho bS aB).elim
    |none=>
     obtain⟨a1,a2⟩:=uB hp;obtain⟨b1,b2⟩:=uB dG;exact r1.inj id ed o o' b (a2.symm.trans ho) (b2.symm.trans fc) (a1.symm.trans aB) (b1.symm.trans bS)
  ·rcases r'.i1 b h with h | ⟨i,id,cV,aB⟩|h
   ·exact r1.i1 b h
   ·obtain⟨v,ee,es,q3,q4⟩:=Ef i id cV;exact .inr (r1.own id _ b q4 aB)
   ·exact .inr (.inr (Nat.le_trans r1.size h))
  ·cases hp:place ids id with
   |some i=>
    obtain⟨a1,ob,a2,a3,_⟩:=sA hp;rcases r'.own i ob b a2 (a1.symm.trans aB)with⟨i',ed,BK,bS⟩|h
    ·obtain⟨v,ee,es,q3,q4⟩:=Ef i' ed BK;exact r1.own ed _ b q4 bS
    ·exact .inr (Nat.le_trans r1.size h)
   |none=>
    obtain⟨a1,a2⟩:=uB hp;exact r1.own id o b (a2.symm.trans ho) (a1.symm.trans aB)
  ·have bC:b<g.w.heap.size:=Nat.lt_of_lt_of_le hb r1.size;refine(Ji b bC ?_).trans (r1.bu b hb hk);rintro⟨i,id,cV,aB⟩;obtain⟨v,ee,es,q3,q4⟩:=Ef i id cV;rcases hk with hk | hk
   ·rcases r1.own id _ b q4 aB with h | h
    ·exact hk h
    ·omega
   ·exact(hLI b ⟨i,id,cV,aB⟩).1 (r1.i0 b hk)
 refine⟨v,g2,rfl,rfl,rfl,r2,f1.mono.trans m2,?_⟩;unfold qS at l5;split at l5
 ·rename_i i o n aC Ci;simp only[Option.map_eq_some_iff]at l5;obtain⟨id,cV,rfl⟩:=l5;rw[Ci]at hR;cases hR with
  |own da ho=>
   obtain⟨a1,ob,a2,a3,_⟩:=sA (tc Cp cV);refine .own da ?_;unfold br at ho ⊢;rw[a2]at ho;rw[show get g2.h id=some ob from a3,show g2.φ id=g'.φ i from a1];exact ho
 ·split at l5
  ·rename_i Co;cases l5;exact yV Co hR
  ·cases l5
end
end ao
