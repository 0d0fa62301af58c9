/-
  THE SECOND ABSTRACT MACHINE: the objects are there for all calls, and for good. Nothing of a program stands here. Calls of functions of the first machine: as plain answers of plain values.
-/
import Derived.Laws.Tables
import Derived.Laws.Cells
import Derived.Laws.IdiomCopy
import Derived.Laws.Small
import Derived.Laws.StructEq
import Derived.Laws.Slices
import Derived.Laws.Append
import Derived.Test.YtngjdhmpcgifbaaGreatArbA
import Derived.Test.YtngjdhmpcgifbaaGreatArbB
/-- maps from numbers -/
class Arx (H : Type) (α : outParam Type) where make ::
  get : H → Nat → Option α
  set : H → Nat → α → H
  law : ∀ (h : H) (n m : Nat) (x : α), get (set h n x) m = if n = m then some x else get h m
namespace Arx
open Go Arb

/-! ### maps from numbers -/
theorem get_set {H α : Type} [Arx H α] (h : H) (n m : Nat) (x : α) : get (set h n x) m = if n = m then some x else get h m := Arx.law h n m x
theorem get_set_same {H α : Type} [Arx H α] (h : H) (n : Nat) (x : α) : get (set h n x) n = some x := by simp [get_set]
theorem get_set_ne {H α : Type} [Arx H α] (h : H) {n m : Nat} (x : α) (hne : n ≠ m) : get (set h n x) m = get h m := by simp [get_set, hne]

inductive Tr (α : Type) where
  | nil
  | node (v : Option α) (l r : Tr α)
  deriving Inhabited
def Tr.look {α : Type} : Tr α → Nat → Option α
  | .nil, _ => none
  | .node v _ _, 0 => v
  | .node _ l r, n + 1 => if n % 2 = 0 then l.look (n / 2) else r.look (n / 2)
def Tr.put {α : Type} : Nat → Nat → α → Tr α → Tr α
  | 0, _, _, t => t
  | _ + 1, 0, x, .nil => .node (some x) .nil .nil
  | _ + 1, 0, x, .node _ l r => .node (some x) l r
  | f + 1, n + 1, x, .nil => if n % 2 = 0 then .node none (Tr.put f (n / 2) x .nil) .nil else .node none .nil (Tr.put f (n / 2) x .nil)
  | f + 1, n + 1, x, .node v l r => if n % 2 = 0 then .node v (Tr.put f (n / 2) x l) r else .node v l (Tr.put f (n / 2) x r)
theorem Tr.look_nil {α : Type} (n : Nat) : (Tr.nil : Tr α).look n = none := by cases n <;> rfl
theorem Tr.look_put {α : Type} (x : α) : ∀ (f n m : Nat) (t : Tr α), n < f → (Tr.put f n x t).look m = if n = m then some x else t.look m := by
  intro f
  induction f with
  | zero => intro n m t h; omega
  | succ f ih =>
    intro n m t h
    have key : ∀ {n m : Nat}, n % 2 = m % 2 → (n / 2 = m / 2 ↔ n = m) := fun h => by omega
    cases n with
    | zero => cases t <;> cases m <;> simp [Tr.put, Tr.look, Tr.look_nil]
    | succ n =>
      have hn : n / 2 < f := by omega
      cases t with
      | nil =>
        cases m with
        | zero => simp only [Tr.put]; split <;> simp [Tr.look]
        | succ m =>
          simp only [Tr.put]
          by_cases h1 : n % 2 = 0 <;> by_cases h2 : m % 2 = 0 <;> simp only [h1, h2, if_true, if_false, Tr.look, Tr.look_nil, ih _ _ _ hn, Nat.add_right_cancel_iff]
          · simp only [key (h1.trans h2.symm)]
          · rw [if_neg (by omega)]
          · rw [if_neg (by omega)]
          · simp only [key (show n % 2 = m % 2 by omega)]
      | node v l r =>
        cases m with
        | zero => simp only [Tr.put]; split <;> simp [Tr.look]
        | succ m =>
          simp only [Tr.put]
          by_cases h1 : n % 2 = 0 <;> by_cases h2 : m % 2 = 0 <;> simp only [h1, h2, if_true, if_false, Tr.look, ih _ _ _ hn, Nat.add_right_cancel_iff]
          · simp only [key (h1.trans h2.symm)]
          · rw [if_neg (by omega)]
          · rw [if_neg (by omega)]
          · simp only [key (show n % 2 = m % 2 by omega)]
instance {α : Type} : Arx (Tr α) α where
  get := Tr.look
  set t n x := Tr.put (n + 1) n x t
  law t n m x := Tr.look_put x _ _ _ _ (Nat.lt_succ_self n)
instance {α : Type} : Arx (List (Nat × α)) α where
  get := Arb.get
  set := Arb.set
  law := Arb.get_set
theorem fr_nil {α : Type} (n : Nat) : get ([] : List (Nat × α)) n = none := rfl
theorem fr_cons {α : Type} (p : Nat × α) (r : List (Nat × α)) (n : Nat) : get (p :: r) n = if p.1 = n then some p.2 else get r n := rfl
theorem tr_nil {α : Type} (n : Nat) : get (Tr.nil : Tr α) n = none := Tr.look_nil n

/-- What a slot holds. 'nul q': 0: no function, 1: no interface value, 2: no map. 'own id o n v': n elements of object id, from o on; 'ref id v i j': the place j in its element i; v: the object's version, as it was. -/
inductive AV where
  | undef
  | iv (x : IV)
  | nul (q : Nat)
  | agg (cs : List AV)
  | tup (vs : List AV)
  | own (id o n v : Nat)
  | ref (id v i j : Nat)
  | clo (f : Nat) (fs caps : List AV)
  deriving Inhabited

/-- A variable (its cells); a row of elements; a row that is never written again, with all behind it; a map. -/
inductive Ob where
  | cells (cs : List AV)
  | buf (v e : Nat) (es : List (List AV))
  | imm (v e : Nat) (es : List (List IV))
  /-- a variable that is never written again -/
  | icl (xs : List IV)
  | map (kvs : List (AV × AV))
  deriving Inhabited

/-! ### the same, as a test -/
mutual
def ivB : IV → IV → Bool
  | .bool a, .bool b => a == b
  | .int k a, .int j b => k == j && a == b
  | .str a, .str b => a.data.toList == b.data.toList
  | .nsl a, .nsl b => a == b
  | .sl a x, .sl b y => a == b && ivLLB x y
  | .nilp, .nilp => true
  | .ptr x, .ptr y => ivLB x y
  | .fn f x, .fn g y => f == g && ivLB x y
  | .junk, .junk => true
  | _, _ => false
def ivLB : List IV → List IV → Bool
  | [], [] => true
  | x :: xs, y :: ys => ivB x y && ivLB xs ys
  | _, _ => false
def ivLLB : List (List IV) → List (List IV) → Bool
  | [], [] => true
  | x :: xs, y :: ys => ivLB x y && ivLLB xs ys
  | _, _ => false
end
mutual
theorem ivB_eq : ∀ {x y : IV}, ivB x y = true → x = y
  | .bool a, y, h => by cases y <;> simp_all [ivB]
  | .int k a, y, h => by cases y <;> simp_all [ivB]
  | .str a, y, h => by
    cases y <;> simp [ivB] at h
    rename_i b
    obtain ⟨⟨a⟩⟩ := a; obtain ⟨⟨b⟩⟩ := b
    simp at h; rw [h]
  | .nsl a, y, h => by cases y <;> simp_all [ivB]
  | .sl a x, y, h => by
    cases y <;> simp [ivB] at h
    rw [h.1, ivLLB_eq h.2]
  | .nilp, y, h => by cases y <;> simp_all [ivB]
  | .ptr x, y, h => by
    cases y <;> simp [ivB] at h
    rw [ivLB_eq h]
  | .fn f x, y, h => by
    cases y <;> simp [ivB] at h
    rw [h.1, ivLB_eq h.2]
  | .junk, y, h => by cases y <;> simp_all [ivB]
theorem ivLB_eq : ∀ {x y : List IV}, ivLB x y = true → x = y
  | [], y, h => by cases y <;> simp_all [ivLB]
  | x :: xs, y, h => by
    cases y <;> simp [ivLB] at h
    rw [ivB_eq h.1, ivLB_eq h.2]
theorem ivLLB_eq : ∀ {x y : List (List IV)}, ivLLB x y = true → x = y
  | [], y, h => by cases y <;> simp_all [ivLLB]
  | x :: xs, y, h => by
    cases y <;> simp [ivLLB] at h
    rw [ivLB_eq h.1, ivLLB_eq h.2]
end
mutual
theorem ivB_refl : ∀ x : IV, ivB x x = true
  | .bool _ | .int _ _ | .str _ | .nsl _ | .nilp | .junk => by simp [ivB]
  | .sl _ x => by simp [ivB, ivLLB_refl x]
  | .ptr x | .fn _ x => by simp [ivB, ivLB_refl x]
theorem ivLB_refl : ∀ x : List IV, ivLB x x = true
  | [] => rfl
  | x :: xs => by simp [ivLB, ivB_refl x, ivLB_refl xs]
theorem ivLLB_refl : ∀ x : List (List IV), ivLLB x x = true
  | [] => rfl
  | x :: xs => by simp [ivLLB, ivLB_refl x, ivLLB_refl xs]
end
mutual
def avB : AV → AV → Bool
  | .undef, .undef => true
  | .iv x, .iv y => ivB x y
  | .nul a, .nul b => a == b
  | .agg x, .agg y => avLB x y
  | .tup x, .tup y => avLB x y
  | .own a b c d, .own a' b' c' d' => a == a' && b == b' && c == c' && d == d'
  | .ref a b c d, .ref a' b' c' d' => a == a' && b == b' && c == c' && d == d'
  | .clo f x y, .clo g x' y' => f == g && avLB x x' && avLB y y'
  | _, _ => false
def avLB : List AV → List AV → Bool
  | [], [] => true
  | x :: xs, y :: ys => avB x y && avLB xs ys
  | _, _ => false
end
mutual
theorem avB_eq : ∀ {x y : AV}, avB x y = true → x = y
  | .undef, y, h => by cases y <;> simp_all [avB]
  | .iv x, y, h => by
    cases y <;> simp [avB] at h
    rw [ivB_eq h]
  | .nul a, y, h => by cases y <;> simp_all [avB]
  | .agg x, y, h => by
    cases y <;> simp [avB] at h
    rw [avLB_eq h]
  | .tup x, y, h => by
    cases y <;> simp [avB] at h
    rw [avLB_eq h]
  | .own a b c d, y, h => by cases y <;> simp_all [avB]
  | .ref a b c d, y, h => by cases y <;> simp_all [avB]
  | .clo f x z, y, h => by
    cases y <;> simp [avB] at h
    rw [h.1.1, avLB_eq h.1.2, avLB_eq h.2]
theorem avLB_eq : ∀ {x y : List AV}, avLB x y = true → x = y
  | [], y, h => by cases y <;> simp_all [avLB]
  | x :: xs, y, h => by
    cases y <;> simp [avLB] at h
    rw [avB_eq h.1, avLB_eq h.2]
end
mutual
theorem avB_refl : ∀ x : AV, avB x x = true
  | .undef | .nul _ | .own _ _ _ _ | .ref _ _ _ _ => by simp [avB]
  | .iv x => by simp [avB, ivB_refl x]
  | .agg x | .tup x => by simp [avB, avLB_refl x]
  | .clo _ x y => by simp [avB, avLB_refl x, avLB_refl y]
theorem avLB_refl : ∀ x : List AV, avLB x x = true
  | [] => rfl
  | x :: xs => by simp [avLB, avB_refl x, avLB_refl xs]
end
def avLLB : List (List AV) → List (List AV) → Bool
  | [], [] => true
  | x :: xs, y :: ys => avLB x y && avLLB xs ys
  | _, _ => false
theorem avLLB_eq : ∀ {x y : List (List AV)}, avLLB x y = true → x = y
  | [], y, h => by cases y <;> simp_all [avLLB]
  | x :: xs, y, h => by
    cases y <;> simp [avLLB] at h
    rw [avLB_eq h.1, avLLB_eq h.2]
def avPB : List (AV × AV) → List (AV × AV) → Bool
  | [], [] => true
  | x :: xs, y :: ys => avB x.1 y.1 && avB x.2 y.2 && avPB xs ys
  | _, _ => false
theorem avPB_eq : ∀ {x y : List (AV × AV)}, avPB x y = true → x = y
  | [], y, h => by cases y <;> simp_all [avPB]
  | x :: xs, y, h => by
    cases y <;> simp [avPB] at h
    rename_i y ys
    obtain ⟨x1, x2⟩ := x; obtain ⟨y1, y2⟩ := y
    rw [show x1 = y1 from avB_eq h.1.1, show x2 = y2 from avB_eq h.1.2, avPB_eq h.2]
/-- the same object -/
def obB : Option Ob → Option Ob → Bool
  | none, none => true
  | some (.cells x), some (.cells y) => avLB x y
  | some (.buf v e x), some (.buf v' e' y) => v == v' && e == e' && avLLB x y
  | some (.imm v e x), some (.imm v' e' y) => v == v' && e == e' && ivLLB x y
  | some (.icl x), some (.icl y) => ivLB x y
  | some (.map x), some (.map y) => avPB x y
  | _, _ => false
theorem obB_eq {x y : Option Ob} (h : obB x y = true) : x = y := by
  unfold obB at h
  split at h
  · rfl
  · rw [avLB_eq h]
  · simp at h; rw [h.1.1, h.1.2, avLLB_eq h.2]
  · simp at h; rw [h.1.1, h.1.2, ivLLB_eq h.2]
  · rw [ivLB_eq h]
  · rw [avPB_eq h]
  · cases h
abbrev Hp := Tr Ob
abbrev Fr := List (Nat × AV)

/-- A step's dealings with the objects. -/
inductive M (α : Type) where
  | ret (a : α)
  | fail
  | get (id : Nat) (k : Option Ob → M α)
  | put (id : Nat) (o : Ob) (k : M α)
namespace M
def bind {α β : Type} : M α → (α → M β) → M β
  | .ret a, f => f a
  | .fail, _ => .fail
  | .get id k, f => .get id fun o => (k o).bind f
  | .put id o k, f => .put id o (k.bind f)
def run {α : Type} : M α → Hp → Option (α × Hp)
  | .ret a, h => some (a, h)
  | .fail, _ => none
  | .get id k, h => (k (Arx.get h id)).run h
  | .put id o k, h => k.run (Arx.set h id o)
/-- the objects that it looks at, those that it writes -/
def foot {α : Type} : M α → Hp → List Nat × List Nat
  | .ret _, _ => ([], [])
  | .fail, _ => ([], [])
  | .get id k, h => let r := (k (Arx.get h id)).foot h; (id :: r.1, r.2)
  | .put id o k, h => let r := k.foot (Arx.set h id o); (r.1, r.2 ++ [id])
def ok (b : Bool) : M Unit := if b then .ret () else .fail
def lift {α : Type} : Option α → M α
  | some a => .ret a
  | none => .fail
def look (id : Nat) : M Ob := .get id fun | some o => .ret o | none => .fail
def fresh (id : Nat) : M Unit := .get id fun | some _ => .fail | none => .ret ()
def write (id : Nat) (o : Ob) : M Unit := .put id o (.ret ())
def mapL {α β : Type} (f : α → M β) : List α → M (List β)
  | [] => .ret []
  | x :: r => (f x).bind fun y => (mapL f r).bind fun ys => .ret (y :: ys)
end M

def cellsM : AV → M (List AV)
  | .agg cs => .ret cs
  | .undef => .fail
  | .tup _ => .fail
  | x => .ret [x]
def mk (agg : Bool) (l : List AV) : M AV :=
  if agg then .ret (.agg l) else match l with
    | [x] => .ret x
    | _ => .fail

/-- as a value behind which nothing of the call's own stands: w: what stood behind it is never written again -/
def fz (w : Bool) : Nat → AV → M IV
  | 0, _ => .fail
  | n + 1, a => match a with
    | .iv (.nsl e) => .ret (.sl e [])
    | .iv x => .ret x
    | .own id o m ver => (M.look id).bind fun
      | .buf v e es => (M.ok (v == ver)).bind fun _ => if w then
          (M.mapL (M.mapL (fz w n)) es).bind fun xs => (M.look id).bind fun
            | .buf _ _ _ => (M.write id (.imm v e xs)).bind fun _ => .ret (.sl e ((xs.drop o).take m))
            | _ => .fail
        else (M.mapL (M.mapL (fz w n)) ((es.drop o).take m)).bind fun xs => .ret (.sl e xs)
      | .imm v e es => (M.ok (v == ver)).bind fun _ => .ret (.sl e ((es.drop o).take m))
      | _ => .fail
    | .ref id ver i j => (M.look id).bind fun
      | .buf v e es => (M.ok (v == ver)).bind fun _ => if w then
          (M.mapL (M.mapL (fz w n)) es).bind fun xs => (M.look id).bind fun
            | .buf _ _ _ => (M.lift xs[i]?).bind fun c => (M.write id (.imm v e xs)).bind fun _ => .ret (.ptr (c.drop j))
            | _ => .fail
        else (M.lift es[i]?).bind fun c => (M.mapL (fz w n) c).bind fun xs => .ret (.ptr (xs.drop j))
      | .imm v _ es => (M.ok (v == ver)).bind fun _ => (M.lift es[i]?).bind fun c => .ret (.ptr (c.drop j))
      | .cells cs => (M.ok (ver == 0 && i == 0)).bind fun _ => (M.mapL (fz w n) cs).bind fun xs => if w then (M.look id).bind fun
        | .cells _ => (M.write id (.icl xs)).bind fun _ => .ret (.ptr (xs.drop j))
        | _ => .fail
        else .ret (.ptr (xs.drop j))
      | .icl xs => (M.ok (ver == 0 && i == 0)).bind fun _ => .ret (.ptr (xs.drop j))
      | .map _ => .fail
    | .clo f [] caps => (M.mapL (fz w n) caps).bind fun xs => .ret (.fn f xs)
    | _ => .fail
/-- a value as an argument of the first machine -/
def fz1 (w : Bool) (a : AV) : M Arb.AV := match a with
  | .agg cs => (M.mapL (fz w 8) cs).bind fun l => .ret (.agg (l.map .iv))
  | a => (fz w 8 a).bind fun x => .ret (.iv x)
/-- what the first machine answers -/
def allIv : List Arb.AV → Option (List IV)
  | [] => some []
  | .iv x :: r => (allIv r).map (x :: ·)
  | _ => none
def of1 : Arb.AV → Option AV
  | .iv x => some (.iv x)
  | .agg cs => (allIv cs).map fun xs => .agg (xs.map .iv)
  | _ => none
def ofL : List Arb.AV → Option (List AV)
  | [] => some []
  | x :: r => (of1 x).bind fun y => (ofL r).map (y :: ·)
def ofA : Arb.AV → Option AV
  | .tup vs => (ofL vs).map .tup
  | x => of1 x

inductive Opd where
  | t (n : Nat)
  | c (v : AV)
  deriving Inhabited

inductive IOp where
  | mov (x : Opd)
  | pick (c a b : Opd)
  /-- tag: 1: a variable of the builder's type -/
  | alloc (tag : Nat) (z : List AV)
  | box (tag : Nat) (x : Opd)
  | build (z : List AV) (ps : List (Nat × Nat × Opd))
  | bsl (e : Nat) (z : List AV) (len : Nat) (ps : List (Nat × Opd))
  | load (agg : Bool) (sz : Nat) (a : Opd)
  | store (sz : Nat) (a x : Opd)
  | fadr (off : Nat) (x : Opd)
  | fld (agg : Bool) (off sz : Nat) (x : Opd)
  | iarr (len e : Nat) (x i : Opd)
  | isl (e : Nat) (x i : Opd)
  | xarr (agg : Bool) (len e : Nat) (x i : Opd)
  | xstr (x i : Opd)
  /-- q: 1: of bools, 2: of pointers, 3: of functions, 0: of others -/
  | bin (op : BinOp) (q : Nat) (x y : Opd)
  | eqc (neg : Bool) (qs : List Nat) (x y : Opd)
  | un (op : UnOp) (x : Opd)
  | cvi (k : IntKind) (x : Opd)
  | cvs (x : Opd)
  | slc (e : Nat) (x : Opd) (lo hi : Option Opd)
  | slcs (x : Opd) (lo hi : Option Opd)
  | slz (e : Nat) (x : Opd)
  /-- a slice of an array's variable, of one cell each -/
  | sla (len : Nat) (x : Opd) (lo hi : Option Opd)
  | clr (e : Nat) (z : List AV) (x : Opd)
  | len (str : Bool) (x : Opd)
  /-- byte: of bytes -/
  | app (e : Nat) (byte : Bool) (x y : Opd)
  | mn (x : Opd) (ys : List Opd)
  | mx (x : Opd) (ys : List Opd)
  | ext (x : Opd) (i : Nat)
  | nchk (x : Opd)
  | mkf (f : Nat) (fs caps : List Opd)
  /-- a function of the first machine: 0: it is lent nothing, and answers plain values; 3: what it is handed is never written again -/
  | call (mode : Nat) (f : Opd) (args : List Opd)
  /-- a function of this one -/
  | scall (f : Opd) (args : List Opd)
  /-- bytes as a string -/
  | cvb (x : Opd)
  | mmk
  /-- qs: how keys are compared; z: what isn't there -/
  | mget (ok agg : Bool) (qs : List Nat) (z : List AV) (m k : Opd)
  | mput (qs : List Nat) (m k v : Opd)
  | mdel (qs : List Nat) (m k : Opd)
  | mlen (m : Opd)
  /-- it is never done -/
  | dead
  /-- the room of a row that is none -/
  | capn (x : Opd)
  /-- so many zeros behind a row that is none -/
  | appn (e : Nat) (z : List AV) (x n : Opd)
  /-- sync/atomic's, on a number -/
  | aload (k : IntKind) (x : Opd)
  | astore (x y : Opd)
  | aadd (k : IntKind) (x y : Opd)
  | acas (k : IntKind) (x o y : Opd)
  /-- a pointer, through unsafe: there; abi.NoEscape; back, to the builder's type -/
  | toU (x : Opd)
  | noesc (x : Opd)
  | ofU (x : Opd)
  /-- where a row of bytes lies; so many bytes from there on, as a string: they are never written again -/
  | usd (x : Opd)
  | ustr (p n : Opd)
  /-- a new row of none -/
  | bs0 (e : Nat)
  /-- a new row of so many zeros -/
  | mks (e : Nat) (z : List AV) (n : Opd)
  deriving Inhabited

structure IOper where
  dst : Option Nat
  op : IOp
  /-- the slot that must hold this bool -/
  gd : Option (Nat × Bool) := none
  /-- which of the region's operations must come before, through others too -/
  aft : List Nat := []
  deriving Inhabited

inductive IC where
  | skip
  | rgn (draw : Bool) (ops : List IOper) (keep : List Nat)
  | seq (a b : IC)
  | cond (c : Opd) (a b : IC)
  | block (id : Nat) (b : IC)
  /-- keep: what is live ahead of a round -/
  | loop (keep : List Nat) (b : IC)
  | exit (id : Nat)
  | ret
  | scope (b : IC)
  /-- it is never there -/
  | stop
  deriving Inhabited

inductive IRes where
  | t (n : Nat)
  | cell (n : Nat) (agg : Bool) (sz : Nat)
  deriving Inhabited

structure St where
  fr : Fr
  hp : Hp
  nx : Nat

def ev (fr : Fr) : Opd → AV
  | .t n => (get fr n).getD .undef
  | .c v => v

def obRead (o : Ob) (ver i j sz : Nat) : Option (List AV) :=
  match o with
  | .cells cs => if ver = 0 ∧ i = 0 then some ((cs.drop j).take sz) else none
  | .buf v _ es => if v = ver then (es[i]?).map fun c => (c.drop j).take sz else none
  | .imm v _ es => if v = ver then (es[i]?).map fun c => ((c.drop j).take sz).map .iv else none
  | .icl xs => if ver = 0 ∧ i = 0 then some (((xs.drop j).take sz).map .iv) else none
  | .map _ => none

def load (agg : Bool) (sz : Nat) : AV → M AV
  | .ref id ver i j => (M.look id).bind fun o => (M.lift (obRead o ver i j sz)).bind fun l => (M.ok (l.length == sz)).bind fun _ => mk agg l
  | .iv (.ptr cs) => (M.ok ((cs.take sz).length == sz)).bind fun _ => mk agg ((cs.take sz).map .iv)
  | _ => .fail

def store (sz : Nat) (a x : AV) : M AV :=
  (cellsM x).bind fun xs => (M.ok (xs.length == sz)).bind fun _ =>
  match a with
  | .ref id ver i j => (M.look id).bind fun
    | .cells cs => (M.ok (Nat.ble (j + sz) cs.length)).bind fun _ => (M.write id (.cells (splice cs j xs))).bind fun _ => .ret (.tup [])
    | .buf v e es => (M.ok (v == ver && Nat.ble (j + sz) e)).bind fun _ => (M.lift es[i]?).bind fun c => (M.write id (.buf v e (es.set i (splice c j xs)))).bind fun _ => .ret (.tup [])
    | _ => .fail
  | _ => .fail

def valid (o : Ob) (ver i : Nat) : Bool :=
  match o with
  | .cells _ => ver == 0 && i == 0
  | .icl _ => ver == 0 && i == 0
  | .buf v _ _ => v == ver
  | .imm v _ _ => v == ver
  | .map _ => false

def fadr (off : Nat) : AV → M AV
  | .ref id ver i j => (M.look id).bind fun o => (M.ok (valid o ver i)).bind fun _ => .ret (.ref id ver i (j + off))
  | .iv (.ptr cs) => (M.ok (Nat.ble off cs.length)).bind fun _ => .ret (.iv (.ptr (cs.drop off)))
  | _ => .fail

def fld (agg : Bool) (off sz : Nat) : AV → M AV
  | .agg cs => (M.ok (((cs.drop off).take sz).length == sz)).bind fun _ => mk agg ((cs.drop off).take sz)
  | _ => .fail

def idx : AV → M Int
  | .iv (.int _ n) => .ret n
  | _ => .fail

def iarr (len e : Nat) (x i : AV) : M AV :=
  (idx i).bind fun n => (M.ok (decide (0 ≤ n ∧ n < len))).bind fun _ =>
  match x with
  | .ref id ver i j => (M.look id).bind fun o => (M.ok (valid o ver i)).bind fun _ => .ret (.ref id ver i (j + n.toNat * e))
  | .iv (.ptr cs) => (M.ok (Nat.ble (n.toNat * e) cs.length)).bind fun _ => .ret (.iv (.ptr (cs.drop (n.toNat * e))))
  | _ => .fail

def isl (e : Nat) (x i : AV) : M AV :=
  (idx i).bind fun n => (M.ok (decide (0 ≤ n))).bind fun _ =>
  match x with
  | .own id o m ver => (M.ok (decide (n < m))).bind fun _ => (M.look id).bind fun
    | .buf v e' _ => (M.ok (v == ver && e' == e)).bind fun _ => .ret (.ref id ver (o + n.toNat) 0)
    | .imm v e' _ => (M.ok (v == ver && e' == e)).bind fun _ => .ret (.ref id ver (o + n.toNat) 0)
    | .cells _ => (M.ok (ver == 0 && e == 1)).bind fun _ => .ret (.ref id 0 0 (o + n.toNat))
    | .icl _ => (M.ok (ver == 0 && e == 1)).bind fun _ => .ret (.ref id 0 0 (o + n.toNat))
    | _ => .fail
  | .iv (.sl e' es) => (M.ok (e' == e)).bind fun _ => (M.lift es[n.toNat]?).bind fun c => .ret (.iv (.ptr c))
  | _ => .fail

def xarr (agg : Bool) (len e : Nat) (x i : AV) : M AV :=
  (idx i).bind fun n => (M.ok (decide (0 ≤ n ∧ n < len))).bind fun _ => fld agg (n.toNat * e) e x

def xstr : AV → AV → M AV
  | .iv (.str s), .iv (.int _ n) => (M.ok (decide (0 ≤ n))).bind fun _ => match s[n.toNat]? with
    | some b => .ret (.iv (.int .u8 b.toNat))
    | none => .fail
  | _, _ => .fail

def bin (op : BinOp) (q : Nat) (x y : AV) : Option IV :=
  match q, x, y with
  | 0, .iv (.int k a), .iv (.int k' b) => intBin op k k' a b
  | 0, .iv (.str a), .iv (.str b) => strBin op a b
  | 1, .iv (.bool a), .iv (.bool b) => match op with
    | .eql => some (.bool (a == b))
    | .neq => some (.bool (!(a == b)))
    | _ => none
  | 2, .iv .nilp, .iv .nilp => match op with
    | .eql => some (.bool true)
    | .neq => some (.bool false)
    | _ => none
  | 2, .iv (.ptr _), .iv .nilp | 2, .iv .nilp, .iv (.ptr _) => match op with
    | .eql => some (.bool false)
    | .neq => some (.bool true)
    | _ => none
  | 3, .nul 0, .nul 0 => match op with
    | .eql => some (.bool true)
    | .neq => some (.bool false)
    | _ => none
  | 3, .clo _ _ _, .nul 0 | 3, .iv (.fn _ _), .nul 0 => match op with
    | .eql => some (.bool false)
    | .neq => some (.bool true)
    | _ => none
  | _, _, _ => none
/-- two pointers, of which one leads to an object -/
def binM (op : BinOp) (q : Nat) (x y : AV) : M AV :=
  match q, x, y with
  | 2, .ref id ver i _, .iv .nilp | 2, .iv .nilp, .ref id ver i _ => (M.look id).bind fun o => (M.ok (valid o ver i)).bind fun _ => match op with
    | .eql => .ret (.iv (.bool false))
    | .neq => .ret (.iv (.bool true))
    | _ => .fail
  | 2, .ref id ver i j, .ref id' ver' i' j' => (M.look id).bind fun o => (M.ok (valid o ver i && id == id' && ver == ver' && i == i' && j == j')).bind fun _ => match op with
    | .eql => .ret (.iv (.bool true))
    | .neq => .ret (.iv (.bool false))
    | _ => .fail
  | q, x, y => (M.lift (bin op q x y)).bind fun v => .ret (.iv v)

/-- q: 0: numbers, 1: bools, 2: strings -/
def eq0 (q : Nat) (x y : AV) : Option Bool :=
  match q, x, y with
  | 0, .iv (.int k a), .iv (.int k' b) => if k = k' then some (a == b) else none
  | 1, .iv (.bool a), .iv (.bool b) => some (a == b)
  | 2, .iv (.str a), .iv (.str b) => some (a == b)
  | _, _, _ => none
def eqs : List Nat → List AV → List AV → Option Bool
  | [], [], [] => some true
  | q :: qs, x :: xs, y :: ys => (eq0 q x y).bind fun b => (eqs qs xs ys).bind fun c => some (b && c)
  | _, _, _ => none

def un (op : UnOp) : AV → Option IV
  | .iv (.int k a) => match op with
    | .neg => some (.int k (k.wrap (0 - a)))
    | .xor => some (.int k (bits .xor k (if k.signed then -1 else k.max) a))
    | _ => none
  | .iv (.bool b) => match op with
    | .not => some (.bool !b)
    | _ => none
  | _ => none

def bound (y : Nat) : Option AV → M (Option Nat)
  | none => .ret none
  | some (.iv (.int _ n)) => (M.ok (decide (0 ≤ n ∧ n ≤ y))).bind fun _ => .ret (some n.toNat)
  | some _ => .fail

/-- how many elements a row has, as far as is known; their size -/
def rowLen (o : Ob) (ver e : Nat) : Option Nat :=
  match o with
  | .buf v e' es => if v = ver ∧ e' = e then some es.length else none
  | .imm v e' es => if v = ver ∧ e' = e then some es.length else none
  | .cells cs => if ver = 0 ∧ e = 1 then some cs.length else none
  | .icl cs => if ver = 0 ∧ e = 1 then some cs.length else none
  | .map _ => none

def slc (e : Nat) (x : AV) (lo hi : Option AV) : M AV :=
  match x with
  | .own id o m ver => (M.look id).bind fun ob => (M.lift (rowLen ob ver e)).bind fun L => (bound (L - o) hi).bind fun h => (bound (h.getD m) lo).bind fun l =>
      .ret (.own id (o + l.getD 0) (h.getD m - l.getD 0) ver)
  | .iv (.sl e' es) => (M.ok (e' == e)).bind fun _ => (bound es.length hi).bind fun h => (bound (h.getD es.length) lo).bind fun l => .ret (.iv (.sl e ((es.take (h.getD es.length)).drop (l.getD 0))))
  | .iv (.nsl _) => (bound 0 hi).bind fun h => (bound (h.getD 0) lo).bind fun _ => .ret (.iv (.nsl e))
  | _ => .fail

def slcs (x : AV) (lo hi : Option AV) : M AV :=
  match x with
  | .iv (.str s) => (bound s.size hi).bind fun h => (bound (h.getD s.size) lo).bind fun l => .ret (.iv (.str (s.extract (l.getD 0) (h.getD s.size))))
  | _ => .fail

/-- x[:0:0] -/
def slz (e : Nat) : AV → M AV
  | .own id _ _ ver => (M.look id).bind fun o => (M.lift (rowLen o ver e)).bind fun _ => .ret (.iv (.nsl e))
  | .iv (.sl _ _) => .ret (.iv (.nsl e))
  | .iv (.nsl _) => .ret (.iv (.nsl e))
  | _ => .fail

/-- of the variable of an array -/
def sla (n : Nat) (x : AV) (lo hi : Option AV) : M AV :=
  match x with
  | .ref id 0 0 0 => (M.look id).bind fun
    | .cells cs => (M.ok (cs.length == n)).bind fun _ => (bound n hi).bind fun h => (bound (h.getD n) lo).bind fun l => .ret (.own id (l.getD 0) (h.getD n - l.getD 0) 0)
    | _ => .fail
  | _ => .fail

def clr (e : Nat) (z : List AV) : AV → M AV
  | .own id o n ver => (M.look id).bind fun
    | .buf v e' es => (M.ok (v == ver && e' == e && z.length == e)).bind fun _ => (M.write id (.buf v e (es.take o ++ List.replicate n z ++ es.drop (o + n)))).bind fun _ => .ret (.tup [])
    | _ => .fail
  | .iv (.nsl _) => .ret (.tup [])
  | _ => .fail

def len (str : Bool) (x : AV) : M AV :=
  match str, x with
  | false, .own id _ n ver => (M.look id).bind fun
    | .buf v _ _ => (M.ok (v == ver)).bind fun _ => .ret (.iv (.int .i64 n))
    | .imm v _ _ => (M.ok (v == ver)).bind fun _ => .ret (.iv (.int .i64 n))
    | .cells _ => (M.ok (ver == 0)).bind fun _ => .ret (.iv (.int .i64 n))
    | .icl _ => (M.ok (ver == 0)).bind fun _ => .ret (.iv (.int .i64 n))
    | .map _ => .fail
  | false, .iv (.sl _ es) => .ret (.iv (.int .i64 es.length))
  | false, .iv (.nsl _) => .ret (.iv (.int .i64 0))
  | true, .iv (.str s) => .ret (.iv (.int .i64 s.size))
  | _, _ => .fail

def bytesIV (s : ByteArray) : List (List AV) := s.data.toList.map fun b => [.iv (.int .u8 b.toNat)]
def elems (e : Nat) : AV → M (List (List AV))
  | .own id o n ver => (M.look id).bind fun
    | .buf v e' es => (M.ok (v == ver && e' == e)).bind fun _ => .ret ((es.drop o).take n)
    | .imm v e' es => (M.ok (v == ver && e' == e)).bind fun _ => .ret (((es.drop o).take n).map fun r => r.map .iv)
    | .cells cs => (M.ok (ver == 0 && e == 1)).bind fun _ => .ret (((cs.drop o).take n).map fun c => [c])
    | .icl cs => (M.ok (ver == 0 && e == 1)).bind fun _ => .ret (((cs.drop o).take n).map fun c => [.iv c])
    | _ => .fail
  | .iv (.sl e' es) => (M.ok (e' == e)).bind fun _ => .ret (es.map fun r => r.map .iv)
  | .iv (.nsl _) => .ret []
  | _ => .fail
/-- a string's bytes, too -/
def elemsS (e : Nat) : AV → M (List (List AV))
  | .iv (.str s) => (M.ok (e == 1)).bind fun _ => .ret (bytesIV s)
  | x => elems e x

/-- the kind of memory behind an object: 1: the builder's type, 2: bytes -/
def app (e slot : Nat) (byte : Bool) (x y : AV) : M AV :=
  (elemsS e y).bind fun ys =>
  match x with
  | .iv (.nsl _) => if ys.isEmpty then .ret (.iv (.nsl e)) else (M.ok (roomy ys.length)).bind fun _ => (M.fresh (4 * slot + if byte then 2 else 0)).bind fun _ =>
      (M.write (4 * slot + if byte then 2 else 0) (.buf 0 e ys)).bind fun _ => .ret (.own (4 * slot + if byte then 2 else 0) 0 ys.length 0)
  | .own id o n ver => (M.look id).bind fun
    | .buf v e' es => (M.ok (v == ver && e' == e)).bind fun _ =>
      if o + n + ys.length ≤ es.length then (M.write id (.buf v e (splice es (o + n) ys))).bind fun _ => .ret (.own id o (n + ys.length) v)
      else (M.ok (o == 0 && roomy (n + ys.length) && (id % 4 == 0 || id % 4 == 2 && byte))).bind fun _ => (M.write id (.buf (v + 1) e (es.take n ++ ys))).bind fun _ => .ret (.own id 0 (n + ys.length) (v + 1))
    | _ => .fail
  | _ => .fail

def capn : AV → M AV
  | .iv (.nsl _) => .ret (.iv (.int .i64 0))
  | _ => .fail
def appn (e slot : Nat) (z : List AV) (x n : AV) : M AV :=
  match x with
  | .iv (.nsl _) => (idx n).bind fun m => (M.ok (decide (0 ≤ m) && roomy m.toNat && z.length == e)).bind fun _ =>
    if m = 0 then .ret (.iv (.nsl e)) else (M.fresh (4 * slot)).bind fun _ => (M.write (4 * slot) (.buf 0 e (List.replicate m.toNat z))).bind fun _ => .ret (.own (4 * slot) 0 m.toNat 0)
  | _ => .fail
def mks (e slot : Nat) (z : List AV) (n : AV) : M AV :=
  (idx n).bind fun m => (M.ok (decide (0 ≤ m) && roomy m.toNat && z.length == e)).bind fun _ =>
  (M.fresh (4 * slot)).bind fun _ => (M.write (4 * slot) (.buf 0 e (List.replicate m.toNat z))).bind fun _ => .ret (.own (4 * slot) 0 m.toNat 0)

def mnI : Int → List AV → IntKind → Option Int
  | a, [], _ => some a
  | a, .iv (.int k b) :: r, k' => if k = k' then mnI (if b < a then b else a) r k' else none
  | _, _, _ => none
def mxI : Int → List AV → IntKind → Option Int
  | a, [], _ => some a
  | a, .iv (.int k b) :: r, k' => if k = k' then mxI (if b > a then b else a) r k' else none
  | _, _, _ => none

/-- the function; what it is handed ahead of the arguments, and behind them -/
def callee : AV → Option (Nat × List AV × List AV)
  | .iv (.fn f caps) => some (f, [], caps.map .iv)
  | .clo f fs caps => some (f, fs, caps)
  | _ => none

abbrev Call1 := Nat → List Arb.AV → Arb.Hp → Option (Arb.AV × Arb.Hp)
/-- nothing is lent; the answer is plain -/
def callM (call : Call1) (f : AV) (args : List AV) : M AV :=
  (M.lift (callee f)).bind fun q =>
  (M.mapL (fz1 false) (q.2.1 ++ (args ++ q.2.2))).bind fun as => (M.lift ((call q.1 as []).bind shut)).bind fun r =>
  (M.ok (flat r)).bind fun _ => M.lift (ofA r)
/-- what is handed over is never written again -/
def fcallM (call : Call1) (f : AV) (args : List AV) : M AV :=
  (M.lift (callee f)).bind fun q =>
  (M.mapL (fz1 true) (q.2.1 ++ (args ++ q.2.2))).bind fun as => (M.lift ((call q.1 as []).bind shut)).bind fun r => M.lift (ofA r)

/-- keys are plain: one cell, or some -/
def keyOk (qs : List Nat) : AV → Bool
  | .agg xs => xs.length == qs.length && qs.length != 1
  | .iv _ => qs.length == 1
  | _ => false
def eqk (qs : List Nat) : AV → AV → Option Bool
  | .agg xs, .agg ys => if qs.length = 1 then none else eqs qs xs ys
  | .iv x, .iv y => if qs.length = 1 then eqs qs [.iv x] [.iv y] else none
  | _, _ => none
def mfind (qs : List Nat) (k : AV) : List (AV × AV) → Nat → Option (Option (Nat × AV))
  | [], _ => some none
  | p :: r, i => match eqk qs k p.1 with
    | some true => some (some (i, p.2))
    | some false => mfind qs k r (i + 1)
    | none => none
def lookMap : AV → M (Nat × List (AV × AV))
  | .ref id 0 0 0 => (M.look id).bind fun
    | .map kvs => .ret (id, kvs)
    | _ => .fail
  | _ => .fail
def mget (ok agg : Bool) (qs : List Nat) (z : List AV) (m k : AV) : M AV :=
  (M.ok (keyOk qs k)).bind fun _ => (lookMap m).bind fun x => (M.lift (mfind qs k x.2 0)).bind fun
    | some p => .ret (if ok then .tup [p.2, .iv (.bool true)] else p.2)
    | none => (mk agg z).bind fun v => .ret (if ok then .tup [v, .iv (.bool false)] else v)
def mput (qs : List Nat) (m k v : AV) : M AV :=
  (M.ok (keyOk qs k)).bind fun _ => (lookMap m).bind fun x => (M.ok (x.1 % 4 == 0)).bind fun _ => (M.lift (mfind qs k x.2 0)).bind fun
    | some p => (M.write x.1 (.map (x.2.set p.1 (k, v)))).bind fun _ => .ret (.tup [])
    | none => (M.write x.1 (.map (x.2 ++ [(k, v)]))).bind fun _ => .ret (.tup [])
def mdel (qs : List Nat) (m k : AV) : M AV :=
  (M.ok (keyOk qs k)).bind fun _ => (lookMap m).bind fun x => (M.ok (x.1 % 4 == 0)).bind fun _ => (M.lift (mfind qs k x.2 0)).bind fun
    | some p => (M.write x.1 (.map (x.2.eraseIdx p.1))).bind fun _ => .ret (.tup [])
    | none => (M.write x.1 (.map x.2)).bind fun _ => .ret (.tup [])

def bytesOf : List (List AV) → Option (List Int)
  | [] => some []
  | [.iv (.int .u8 n)] :: r => (bytesOf r).map (n :: ·)
  | _ => none

def aload (k : IntKind) (a : AV) : M Int := (load false 1 a).bind fun
  | .iv (.int k' n) => (M.ok (k' == k)).bind fun _ => .ret n
  | _ => .fail
def isInt1 : AV → Bool
  | .iv (.int _ _) => true
  | _ => false
def aadd (k : IntKind) (a d : AV) : M AV :=
  match d with
  | .iv (.int k' m) => (M.ok (k' == k)).bind fun _ => (aload k a).bind fun n => (store 1 a (.iv (.int k (k.wrap (n + m))))).bind fun _ => .ret (.iv (.int k (k.wrap (n + m))))
  | _ => .fail
def acas (k : IntKind) (a o y : AV) : M AV :=
  match o, y with
  | .iv (.int k' old), .iv (.int k'' _) => (M.ok (k' == k && k'' == k)).bind fun _ => (aload k a).bind fun n =>
    if n = old then (store 1 a y).bind fun _ => .ret (.iv (.bool true)) else (store 1 a (.iv (.int k n))).bind fun _ => .ret (.iv (.bool false))
  | _, _ => .fail

def toU : AV → M AV
  | .ref id ver i j => (M.look id).bind fun
    | .cells cs => (M.ok (ver == 0 && i == 0 && Nat.blt j cs.length)).bind fun _ => .ret (.ref id ver i j)
    | _ => .fail
  | _ => .fail
def ofU : AV → M AV
  | .ref id ver i j => (M.look id).bind fun
    | .cells _ => (M.ok (ver == 0 && i == 0 && j == 0 && id % 4 == 1)).bind fun _ => .ret (.ref id 0 0 0)
    | _ => .fail
  | _ => .fail
def usd : AV → M AV
  | .own id o n ver => (M.look id).bind fun
    | .buf v e _ => (M.ok (v == ver && e == 1 && o == 0 && Nat.blt 0 n)).bind fun _ => .ret (.ref id ver 0 0)
    | _ => .fail
  | _ => .fail
def u8s (b : List Int) : List (List IV) := b.map fun x => [.int .u8 x]
def ustr (p n : AV) : M AV :=
  match p, n with
  | .ref id ver i j, .iv (.int k m) => (M.look id).bind fun
    | .buf v e es => (M.ok (v == ver && e == 1 && i == 0 && j == 0 && id % 4 == 2 && k == .i64 && m == (es.length : Int) && Nat.blt 0 es.length && roomy es.length)).bind fun _ =>
      (M.lift (bytesOf es)).bind fun b => (M.ok (b.all fun x => decide (0 ≤ x ∧ x < 256))).bind fun _ => (M.write id (.imm v 1 (u8s b))).bind fun _ => .ret (.iv (.str (strB b)))
    | _ => .fail
  | _, _ => .fail

def osem (call : Call1) (slot : Nat) (ρ : Opd → AV) : IOp → M AV
  | .mov x => .ret (ρ x)
  | .pick c a b => match ρ c with
    | .iv (.bool t) => .ret (if t then ρ a else ρ b)
    | _ => .fail
  | .alloc tag z => (M.ok (Nat.ble tag 1)).bind fun _ => (M.fresh (4 * slot + tag)).bind fun _ => (M.write (4 * slot + tag) (.cells z)).bind fun _ => .ret (.ref (4 * slot + tag) 0 0 0)
  | .box tag x => (cellsM (ρ x)).bind fun xs => (M.ok (tag == 0 || tag == 1 && xs.length == 2)).bind fun _ => (M.fresh (4 * slot + tag)).bind fun _ => (M.write (4 * slot + tag) (.cells xs)).bind fun _ => .ret (.ref (4 * slot + tag) 0 0 0)
  | .build z ps => (M.mapL (fun p => (cellsM (ρ p.2.2)).bind fun l => (M.ok (l.length == p.2.1 && Nat.ble (p.1 + p.2.1) z.length)).bind fun _ => .ret (p.1, l)) ps).bind fun l => .ret (.agg (putAll z l))
  | .bsl e z n ps => (M.ok (z.length == e)).bind fun _ =>
      (M.mapL (fun p => (cellsM (ρ p.2)).bind fun xs => (M.ok (xs.length == e && Nat.blt p.1 n)).bind fun _ => .ret (p.1, xs)) ps).bind fun l =>
      (M.fresh (4 * slot)).bind fun _ => (M.write (4 * slot) (.buf 0 e (setAll (List.replicate n z) l))).bind fun _ => .ret (.own (4 * slot) 0 n 0)
  | .load agg sz a => load agg sz (ρ a)
  | .store sz a x => store sz (ρ a) (ρ x)
  | .fadr off x => fadr off (ρ x)
  | .fld agg off sz x => fld agg off sz (ρ x)
  | .iarr len e x i => iarr len e (ρ x) (ρ i)
  | .isl e x i => isl e (ρ x) (ρ i)
  | .xarr agg len e x i => xarr agg len e (ρ x) (ρ i)
  | .xstr x i => xstr (ρ x) (ρ i)
  | .bin op q x y => binM op q (ρ x) (ρ y)
  | .eqc neg qs x y => match ρ x, ρ y with
    | .agg xs, .agg ys => (M.lift (eqs qs xs ys)).bind fun b => .ret (.iv (.bool (if neg then !b else b)))
    | _, _ => .fail
  | .un op x => (M.lift (un op (ρ x))).bind fun v => .ret (.iv v)
  | .cvi k x => (idx (ρ x)).bind fun n => .ret (.iv (.int k (k.wrap n)))
  | .cvs x => match ρ x with
    | .iv (.str s) => .ret (.iv (.str s))
    | _ => .fail
  | .slc e x lo hi => slc e (ρ x) (lo.map ρ) (hi.map ρ)
  | .slcs x lo hi => slcs (ρ x) (lo.map ρ) (hi.map ρ)
  | .slz e x => slz e (ρ x)
  | .sla n x lo hi => sla n (ρ x) (lo.map ρ) (hi.map ρ)
  | .clr e z x => clr e z (ρ x)
  | .len str x => len str (ρ x)
  | .app e byte x y => app e slot byte (ρ x) (ρ y)
  | .mn x ys => match ρ x with
    | .iv (.int k a) => (M.lift (mnI a (ys.map ρ) k)).bind fun n => .ret (.iv (.int k n))
    | _ => .fail
  | .mx x ys => match ρ x with
    | .iv (.int k a) => (M.lift (mxI a (ys.map ρ) k)).bind fun n => .ret (.iv (.int k n))
    | _ => .fail
  | .ext x i => match ρ x with
    | .tup vs => M.lift vs[i]?
    | _ => .fail
  | .nchk x => match ρ x with
    | .ref id ver i j => (M.look id).bind fun o => (M.ok (valid o ver i)).bind fun _ => .ret (.ref id ver i j)
    | .iv (.ptr cs) => .ret (.iv (.ptr cs))
    | .iv (.fn f cs) => .ret (.iv (.fn f cs))
    | .clo f fs cs => .ret (.clo f fs cs)
    | _ => .fail
  | .mkf f fs caps => .ret (.clo f (fs.map ρ) (caps.map ρ))
  | .call mode f args => match mode with
    | 0 => callM call (ρ f) (args.map ρ)
    | _ => fcallM call (ρ f) (args.map ρ)
  | .scall _ _ => .fail
  | .cvb x => (elems 1 (ρ x)).bind fun ys => (M.lift (bytesOf ys)).bind fun b => .ret (.iv (.str (strB b)))
  | .mmk => (M.fresh (4 * slot)).bind fun _ => (M.write (4 * slot) (.map [])).bind fun _ => .ret (.ref (4 * slot) 0 0 0)
  | .mget ok agg qs z m k => mget ok agg qs z (ρ m) (ρ k)
  | .mput qs m k v => mput qs (ρ m) (ρ k) (ρ v)
  | .mdel qs m k => mdel qs (ρ m) (ρ k)
  | .mlen m => (lookMap (ρ m)).bind fun x => .ret (.iv (.int .i64 x.2.length))
  | .dead => .fail
  | .capn x => capn (ρ x)
  | .appn e z x n => appn e slot z (ρ x) (ρ n)
  | .mks e z n => mks e slot z (ρ n)
  | .aload k x => (aload k (ρ x)).bind fun n => .ret (.iv (.int k n))
  | .astore x y => (M.ok (isInt1 (ρ y))).bind fun _ => store 1 (ρ x) (ρ y)
  | .aadd k x y => aadd k (ρ x) (ρ y)
  | .acas k x o y => acas k (ρ x) (ρ o) (ρ y)
  | .bs0 e => .ret (.iv (.nsl e))
  | .toU x => toU (ρ x)
  | .noesc x => .ret (ρ x)
  | .ofU x => ofU (ρ x)
  | .usd x => usd (ρ x)
  | .ustr p n => ustr (ρ p) (ρ n)

/-- is the operation wanted? -/
def wants (fr : Fr) : Option (Nat × Bool) → Option Bool
  | none => some true
  | some (t, b) => match get fr t with
    | some (.iv (.bool c)) => some (c == b)
    | some (.tup []) => some false
    | _ => none
def putD (fr : Fr) (d : Option Nat) (v : AV) : Fr := match d with
  | some d => set fr d v
  | none => fr

/-- a call of a function of this machine: what it answers, the objects behind it, the next number -/
abbrev CallX := Nat → List AV → Hp → Nat → Option (AV × Hp × Nat)
def isS : IOp → Option (Opd × List Opd)
  | .scall f args => some (f, args)
  | _ => none

def step (c1 : Call1) (cx : CallX) (slot : Nat) (o : IOper) (s : St) : Option St :=
  match wants s.fr o.gd with
  | some true => match isS o.op with
    | some fa => match callee (ev s.fr fa.1) with
      | some q => match cx q.1 (q.2.1 ++ (fa.2.map (ev s.fr) ++ q.2.2)) s.hp s.nx with
        | some (v, h, n) => some { fr := putD s.fr o.dst v, hp := h, nx := n }
        | none => none
      | none => none
    | none => match (osem c1 slot (ev s.fr) o.op).run s.hp with
      | some (v, h) => some { s with fr := putD s.fr o.dst v, hp := h }
      | none => none
  | some false => some { s with fr := putD s.fr o.dst (.tup []) }
  | none => none
/-- what a step touches; a call: the objects ahead of it, and behind it -/
inductive Feet where
  | m (x : List Nat × List Nat)
  | c (h0 h1 : Hp)
/-- h: the objects behind it -/
def footOf (c1 : Call1) (slot : Nat) (o : IOper) (s : St) (h : Hp) : Feet :=
  match wants s.fr o.gd with
  | some true => match isS o.op with
    | some _ => .c s.hp h
    | none => .m ((osem c1 slot (ev s.fr) o.op).foot s.hp)
  | _ => .m ([], [])

/-- in the text's order -/
def evalOps (c1 : Call1) (cx : CallX) : List IOper → Nat → St → Option St
  | [], _, s => some s
  | o :: r, slot, s => match step c1 cx slot o s with
    | some s' => evalOps c1 cx r (slot + 1) s'
    | none => none
/-- with what each touches -/
def evalFeet (c1 : Call1) (cx : CallX) : List IOper → Nat → St → Option (St × List Feet)
  | [], _, s => some (s, [])
  | o :: r, slot, s => match step c1 cx slot o s with
    | some s' => match evalFeet c1 cx r (slot + 1) s' with
      | some p => some (p.1, footOf c1 slot o s s'.hp :: p.2)
      | none => none
    | none => none

def meets (a b : List Nat) : Bool := a.any b.contains
def clash : Feet → Feet → Bool
  | .m x, .m y => meets x.2 (y.1 ++ y.2) || meets y.2 (x.1 ++ x.2)
  | .c h0 h1, .m y => !((y.2.isEmpty && y.1.all fun n => obB (get h0 n) (get h1 n)) || (y.1 ++ y.2).all fun n => (get h1 n).isNone)
  | .m x, .c h0 h1 => !(x.2.isEmpty && x.1.all fun n => obB (get h0 n) (get h1 n))
  | .c _ _, .c _ _ => true
def apart1 (x : Feet) (i : Nat) : List Feet → List (List Nat) → Bool
  | y :: ys, c :: cs => (!clash x y || c.contains i) && apart1 x i ys cs
  | _, _ => true
def apartAll : List Feet → Nat → List (List Nat) → Bool
  | x :: xs, i, _ :: cs => apart1 x i xs cs && apartAll xs (i + 1) cs
  | _, _, _ => true
def quietF : Feet → Bool
  | .m x => x.2.isEmpty
  | .c _ _ => false
def orderOk (ops : List IOper) (feet : List Feet) : Bool := feet.all quietF || apartAll feet 0 (ops.map (·.aft))

def keepFr : List Nat → Fr → Fr
  | [], _ => []
  | t :: r, fr => match get fr t with
    | some x => (t, x) :: keepFr r fr
    | none => keepFr r fr

def evalRgn (c1 : Call1) (cx : CallX) (draw : Bool) (ops : List IOper) (keep : List Nat) (s : St) : Option St :=
  if draw then match evalFeet c1 cx ops s.nx { s with nx := s.nx + ops.length } with
    | some p => if orderOk ops p.2 then some { p.1 with fr := keepFr keep p.1.fr } else none
    | none => none
  else match evalOps c1 cx ops s.nx { s with nx := s.nx + ops.length } with
    | some s' => some { s' with fr := keepFr keep s'.fr }
    | none => none

def iter (f : St → Option (Ex × St)) (keep : List Nat) : Nat → St → Option (Ex × St)
  | 0, _ => none
  | m + 1, s => match f s with
    | some (.norm, s') => iter f keep m { s' with fr := keepFr keep s'.fr }
    | r => r

def evalC (c1 : Call1) (cx : CallX) (n : Nat) : IC → St → Option (Ex × St)
  | .skip, s => some (.norm, s)
  | .rgn draw ops keep, s => (evalRgn c1 cx draw ops keep s).map fun s' => (.norm, s')
  | .seq a b, s => match evalC c1 cx n a s with
    | some (.norm, s') => evalC c1 cx n b s'
    | r => r
  | .cond c a b, s => match ev s.fr c with
    | .iv (.bool t) => if t then evalC c1 cx n a s else evalC c1 cx n b s
    | _ => none
  | .block id b, s => match evalC c1 cx n b s with
    | some (.exit i, s') => if i = id then some (.norm, s') else some (.exit i, s')
    | r => r
  | .loop keep b, s => iter (evalC c1 cx n b) keep n { s with fr := keepFr keep s.fr }
  | .exit id, s => some (.exit id, s)
  | .ret, s => some (.ret, s)
  | .scope b, s => evalC c1 cx n b s
  | .stop, _ => none

/-- prim: what it does, as a Lean function; its own proof stands elsewhere -/
structure IFn where
  np : Nat
  res : List IRes
  body : IC
  prim : Option (Call1 → CallX → List AV → Hp → Nat → Option (AV × Hp × Nat)) := none
  deriving Inhabited

def resM (fr : Fr) : IRes → M AV
  | .t n => .ret (ev fr (.t n))
  | .cell n agg sz => load agg sz (ev fr (.t n))
def resAll (fr : Fr) : List IRes → M AV
  | [r] => resM fr r
  | rs => (M.mapL (resM fr) rs).bind fun l => .ret (.tup l)

def params : List AV → Nat → Fr
  | [], _ => []
  | a :: r, i => (i, a) :: params r (i + 1)

def evalF (c1 : Call1) (prog : Nat → Option IFn) : Nat → CallX
  | 0, _, _, _, _ => none
  | k + 1, g, args, hp, nx => match prog g with
    | none => none
    | some fn => match fn.prim with
      | some p => p c1 (evalF c1 prog k) args hp nx
      | none => if args.length = fn.np then
          match evalC c1 (evalF c1 prog k) k fn.body ⟨params args 0, hp, nx⟩ with
          | some (.norm, s) | some (.ret, s) => match (resAll s.fr fn.res).run s.hp with
            | some (v, h) => some (v, h, s.nx)
            | none => none
          | _ => none
        else none
end Arx

/-
  WHAT THE SECOND MACHINE's STATES SAY OF THE MODEL's.
-/
namespace Arx
open Go Go.RowKit Arb

/-- the ghosts: the blocks that are never written again; the block of an object; the world; the objects -/
structure Gh where
  I : Nat → Prop
  φ : Nat → Option Nat
  w : World
  h : Hp

/-- n elements from o on, of L that are known, each of e cells -/
def SlAt (w : World) (p : Option Nat) (e L o n : Nat) (v : Value) : Prop :=
  match p with
  | none => (∃ a, v = .slice a 0 0) ∧ n = 0 ∧ o = 0 ∧ L = 0
  | some b => ∃ x cap, v = .slice (some ⟨b, x, none⟩) n cap ∧ o + n ≤ L ∧ L ≤ o + cap ∧ n ≤ cap ∧ (x = o * e ∨ n = 0 ∧ o ≠ 0 ∧ L ≤ o) ∧ (x = o * e → ∀ c, c < (o + cap) * e → (w.cell? ⟨b, c, none⟩).isSome = true)

def OwnAt (g : Gh) (v : Value) (id o n ver : Nat) : Prop :=
  match get g.h id with
  | some (.buf v' e es) => ver ≤ v' ∧ (v' = ver → SlAt g.w (g.φ id) e es.length o n v)
  | some (.imm v' e es) => ver ≤ v' ∧ (v' = ver → SlAt g.w (g.φ id) e es.length o n v)
  | some (.cells cs) => ver = 0 ∧ SlAt g.w (g.φ id) 1 cs.length o n v
  | some (.icl cs) => ver = 0 ∧ SlAt g.w (g.φ id) 1 cs.length o n v
  | _ => False

def RefAt (g : Gh) (v : Value) (id ver i j : Nat) : Prop :=
  match get g.h id with
  | some (.cells _) => ver = 0 ∧ i = 0 ∧ ∃ b, g.φ id = some b ∧ v = .pointer (some ⟨b, j, none⟩)
  | some (.icl _) => ver = 0 ∧ i = 0 ∧ ∃ b, g.φ id = some b ∧ v = .pointer (some ⟨b, j, none⟩)
  | some (.buf v' e _) => ver ≤ v' ∧ (v' = ver → ∃ b, g.φ id = some b ∧ v = .pointer (some ⟨b, i * e + j, none⟩))
  | some (.imm v' e _) => ver ≤ v' ∧ (v' = ver → ∃ b, g.φ id = some b ∧ v = .pointer (some ⟨b, i * e + j, none⟩))
  | some (.map _) => ver = 0 ∧ i = 0 ∧ j = 0 ∧ ∃ b, g.φ id = some b ∧ v = .map (some b)
  | none => False

def nulV : Nat → Value
  | 0 => .nilFunc
  | 1 => .nilIface
  | _ => .map none

inductive RA (ν : Nat → Nat) (g : Gh) : Value → AV → Prop
  | undef (v : Value) : RA ν g v .undef
  | iv {v : Value} {x : IV} (h : RI ν g.I g.w v x) : RA ν g v (.iv x)
  | nul {v : Value} {q : Nat} (h : v = nulV q) : RA ν g v (.nul q)
  | agg {vs : Array Value} {cs : List AV} (hn : vs.size = cs.length) (h1 : ∀ (j : Nat) (v : Value), vs[j]? = some v → v.oneCell' = true)
      (hr : ∀ (j : Nat) (v : Value) (c : AV), vs[j]? = some v → cs[j]? = some c → RA ν g v c) : RA ν g (.agg vs) (.agg cs)
  | tup {vs : Array Value} {cs : List AV} (hn : vs.size = cs.length) (hr : ∀ (j : Nat) (v : Value) (c : AV), vs[j]? = some v → cs[j]? = some c → RA ν g v c) : RA ν g (.tuple vs) (.tup cs)
  | own {v : Value} {id o n ver : Nat} (h1 : v.oneCell' = true) (h : OwnAt g v id o n ver) : RA ν g v (.own id o n ver)
  | ref {v : Value} {id ver i j : Nat} (h1 : v.oneCell' = true) (h : RefAt g v id ver i j) : RA ν g v (.ref id ver i j)
  | clo {f : Nat} {first caps : Array Value} {fs cs : List AV} (hm : first.size = fs.length) (hs : ∀ (j : Nat) (v : Value) (c : AV), first[j]? = some v → fs[j]? = some c → RA ν g v c)
      (hn : caps.size = cs.length) (hr : ∀ (j : Nat) (v : Value) (c : AV), caps[j]? = some v → cs[j]? = some c → RA ν g v c) :
      RA ν g (.func (.func (ν f)) first caps) (.clo f fs cs)

theorem nulV_one (q : Nat) : (nulV q).oneCell' = true := by unfold nulV; split <;> rfl

theorem RA.mono {ν : Nat → Nat} {g g' : Gh} (hI : ∀ v x, RI ν g.I g.w v x → RI ν g'.I g'.w v x) (ho : ∀ v id o n ver, OwnAt g v id o n ver → OwnAt g' v id o n ver)
    (hr : ∀ v id ver i j, RefAt g v id ver i j → RefAt g' v id ver i j) {v : Value} {x : AV} (h : RA ν g v x) : RA ν g' v x := by
  induction h with
  | undef v => exact .undef v
  | iv h => exact .iv (hI _ _ h)
  | nul h => exact .nul h
  | agg hn h1 _ ih => exact .agg hn h1 ih
  | tup hn _ ih => exact .tup hn ih
  | own h1 h => exact .own h1 (ho _ _ _ _ _ h)
  | ref h1 h => exact .ref h1 (hr _ _ _ _ _ h)
  | clo hm _ hn _ ihs ih => exact .clo hm ihs hn ih

/-- a row's cells -/
def RowG (ν : Nat → Nat) (g : Gh) (b e : Nat) (es : List (List AV)) : Prop :=
  (∀ c ∈ es, c.length = e) ∧ ∀ (i j : Nat) (c : List AV) (x : AV), es[i]? = some c → c[j]? = some x → ∃ v, g.w.cell? ⟨b, i * e + j, none⟩ = some v ∧ v.oneCell' = true ∧ RA ν g v x

/-- a map's entries bear different stamps, all of them elder than its clock -/
def MapOK (es : Array MapEntry) (clock : Nat) : Prop := (es.toList.map (·.born)).Nodup ∧ ∀ x ∈ es.toList, x.born < clock

def ObAt (ν : Nat → Nat) (g : Gh) (id : Nat) : Ob → Prop
  | .cells cs => ∃ b, g.φ id = some b ∧ ¬ g.I b ∧ Soft g.w b ∧ ∀ (j : Nat) (c : AV), cs[j]? = some c → ∃ v, g.w.cell? ⟨b, j, none⟩ = some v ∧ v.oneCell' = true ∧ RA ν g v c
  | .buf _ e es => ∃ b, g.φ id = some b ∧ ¬ g.I b ∧ Soft g.w b ∧ RowG ν g b e es
  | .imm _ e es => ∃ b, g.φ id = some b ∧ g.I b ∧ Row ν g.I g.w b e es
  | .icl xs => ∃ b, g.φ id = some b ∧ g.I b ∧ ∀ (j : Nat) (x : IV), xs[j]? = some x → ∃ v, g.w.cell? ⟨b, j, none⟩ = some v ∧ RI ν g.I g.w v x
  | .map kvs => ∃ b es clock, g.φ id = some b ∧ ¬ g.I b ∧ b < g.w.heap.size ∧ g.w.heap[b]? = some (.map es clock) ∧ es.size = kvs.length ∧ MapOK es clock ∧
      ∀ (j : Nat) (e : MapEntry) (p : AV × AV), es[j]? = some e → kvs[j]? = some p → RA ν g e.key p.1 ∧ RA ν g e.val p.2

/-- where a law began: the world; the blocks that were never to be written -/
structure Cx where
  w : World
  I : Nat → Prop

/-- the builder's type, and bytes, in a seat's numbers: ν of these -/
abbrev tyBld : Nat := 1000001
abbrev tyByte : Nat := 1000002
/-- an object's number tells what kind of memory stands behind it -/
def TyOK (ν : Nat → Nat) (w : World) (id b : Nat) : Prop := (id % 4 = 1 → w.shape? b = some (ν tyBld, 2)) ∧ (id % 4 = 2 → ∃ n, w.shape? b = some (ν tyByte, n)) ∧ id % 4 ≠ 3
theorem TyOK.zero {ν : Nat → Nat} {w : World} {id b : Nat} (h : id % 4 = 0) : TyOK ν w id b := ⟨by omega, by omega, by omega⟩
theorem TyOK.same {ν : Nat → Nat} {w w' : World} {id b : Nat} (h : TyOK ν w id b) (hs : w'.shape? b = w.shape? b) : TyOK ν w' id b := by unfold TyOK at *; rw [hs]; exact h
theorem shape_of_same {w w' : World} {b : Nat} (h : w'.heap[b]? = w.heap[b]?) : w'.shape? b = w.shape? b := by simp [World.shape?, h]

structure Rel (ν : Nat → Nat) (k : Cx) (g : Gh) : Prop where
  ob : ∀ id o, get g.h id = some o → ObAt ν g id o
  inj : ∀ id id' o o' b, get g.h id = some o → get g.h id' = some o' → g.φ id = some b → g.φ id' = some b → id = id'
  small : ∀ b, g.I b → b < g.w.heap.size
  i0 : ∀ b, k.I b → g.I b
  i1 : ∀ b, g.I b → k.I b ∨ k.w.heap.size ≤ b
  own : ∀ id o b, get g.h id = some o → g.φ id = some b → k.w.heap.size ≤ b
  size : k.w.heap.size ≤ g.w.heap.size
  os : g.w.os = k.w.os
  tape : g.w.tape = k.w.tape
  output : g.w.output = k.w.output
  old : ∀ b, b < k.w.heap.size → g.w.heap[b]? = k.w.heap[b]?
  ty : ∀ id o b, get g.h id = some o → g.φ id = some b → TyOK ν g.w id b

def Mono (ν : Nat → Nat) (g g' : Gh) : Prop := ∀ v x, RA ν g v x → RA ν g' v x
theorem Mono.refl (ν : Nat → Nat) (g : Gh) : Mono ν g g := fun _ _ h => h
theorem Mono.trans {ν : Nat → Nat} {a b c : Gh} (h : Mono ν a b) (k : Mono ν b c) : Mono ν a c := fun v x hx => k v x (h v x hx)

theorem RowG.mono {ν : Nat → Nat} {g g' : Gh} {b e : Nat} {es : List (List AV)} (h : RowG ν g b e es) (hm : Mono ν g g') (hb : ∀ off v, g.w.cell? ⟨b, off, none⟩ = some v → g'.w.cell? ⟨b, off, none⟩ = some v) : RowG ν g' b e es :=
  ⟨h.1, fun i j c x h1 h2 => let ⟨v, hc, h3, hr⟩ := h.2 i j c x h1 h2; ⟨v, hb _ _ hc, h3, hm _ _ hr⟩⟩

theorem ObAt.block {ν : Nat → Nat} {g : Gh} {id : Nat} {o : Ob} (h : ObAt ν g id o) {b : Nat} (hb : g.φ id = some b) (hs : ∀ b, g.I b → b < g.w.heap.size) : b < g.w.heap.size := by
  cases o with
  | cells cs => obtain ⟨b', h1, _, h3, _⟩ := h; rw [hb] at h1; cases h1; exact h3.1
  | buf v e es => obtain ⟨b', h1, _, h3, _⟩ := h; rw [hb] at h1; cases h1; exact h3.1
  | imm v e es => obtain ⟨b', h1, h2, _⟩ := h; rw [hb] at h1; cases h1; exact hs _ h2
  | icl xs => obtain ⟨b', h1, h2, _⟩ := h; rw [hb] at h1; cases h1; exact hs _ h2
  | map kvs => obtain ⟨b', _, _, h1, _, h3, _⟩ := h; rw [hb] at h1; cases h1; exact h3

theorem SlAt.same {w w' : World} {p : Option Nat} {e L o n : Nat} {v : Value} (h : SlAt w p e L o n v)
    (hw : ∀ b, p = some b → ∀ c, (w.cell? ⟨b, c, none⟩).isSome = true → (w'.cell? ⟨b, c, none⟩).isSome = true) : SlAt w' p e L o n v := by
  cases p with
  | none => exact h
  | some b =>
    obtain ⟨x, cap, e1, e2, e3, e4, e5, e6⟩ := h
    exact ⟨x, cap, e1, e2, e3, e4, e5, fun hx c hc => hw b rfl c (e6 hx c hc)⟩

theorem OwnAt.alive {g : Gh} {v : Value} {id o n ver : Nat} (h : OwnAt g v id o n ver) : ∃ ob, get g.h id = some ob := by
  unfold OwnAt at h
  cases hg : get g.h id with
  | none => rw [hg] at h; exact h.elim
  | some ob => exact ⟨ob, rfl⟩
theorem RefAt.alive {g : Gh} {v : Value} {id ver i j : Nat} (h : RefAt g v id ver i j) : ∃ ob, get g.h id = some ob := by
  unfold RefAt at h
  cases hg : get g.h id with
  | none => rw [hg] at h; exact h.elim
  | some ob => exact ⟨ob, rfl⟩

/-- what is said of an object other than the one that turns -/
theorem OwnAt.other {g g' : Gh} {v : Value} {id o n ver : Nat} (h : OwnAt g v id o n ver) (hh : get g'.h id = get g.h id) (hφ : g'.φ id = g.φ id)
    (hw : ∀ b, g.φ id = some b → g'.w.heap[b]? = g.w.heap[b]?) : OwnAt g' v id o n ver := by
  have hw' : ∀ b, g.φ id = some b → ∀ c, (g.w.cell? ⟨b, c, none⟩).isSome = true → (g'.w.cell? ⟨b, c, none⟩).isSome = true := fun b hb c hc => by rw [cell_of_same (hw b hb)]; exact hc
  unfold OwnAt at h ⊢
  rw [hh, hφ]
  cases hg : get g.h id with
  | none => rw [hg] at h; exact h.elim
  | some ob =>
    rw [hg] at h
    cases ob with
    | cells cs => exact ⟨h.1, h.2.same hw'⟩
    | icl cs => exact ⟨h.1, h.2.same hw'⟩
    | buf v' e es => exact ⟨h.1, fun hv => (h.2 hv).same hw'⟩
    | imm v' e es => exact ⟨h.1, fun hv => (h.2 hv).same hw'⟩
    | map kvs => exact h.elim
theorem RefAt.other {g g' : Gh} {v : Value} {id ver i j : Nat} (h : RefAt g v id ver i j) (hh : get g'.h id = get g.h id) (hφ : g'.φ id = g.φ id) : RefAt g' v id ver i j := by
  unfold RefAt at h ⊢
  rw [hh, hφ]; exact h

/-- what holds of an object that doesn't turn, in the next state -/
theorem ObAt.other {ν : Nat → Nat} {g g' : Gh} {id : Nat} {o : Ob} (h : ObAt ν g id o) (hφ : g'.φ id = g.φ id) (hm : Mono ν g g') (hRI : ∀ v x, RI ν g.I g.w v x → RI ν g'.I g'.w v x)
    (hsz : g.w.heap.size ≤ g'.w.heap.size) (hw : ∀ b, g.φ id = some b → g'.w.heap[b]? = g.w.heap[b]?) (hI : ∀ b, g.φ id = some b → (g'.I b ↔ g.I b)) : ObAt ν g' id o := by
  cases o with
  | cells cs =>
    obtain ⟨b, e1, e2, e3, e4⟩ := h
    refine ⟨b, hφ.trans e1, fun hi => e2 ((hI b e1).1 hi), ⟨Nat.lt_of_lt_of_le e3.1 hsz, fun o => by rw [frozen_of_same (hw b e1)]; exact e3.2 o⟩, fun j c hc => ?_⟩
    obtain ⟨v, c1, c2, c3⟩ := e4 j c hc
    exact ⟨v, by rw [cell_of_same (hw b e1)]; exact c1, c2, hm _ _ c3⟩
  | buf v e es =>
    obtain ⟨b, e1, e2, e3, e4⟩ := h
    exact ⟨b, hφ.trans e1, fun hi => e2 ((hI b e1).1 hi), ⟨Nat.lt_of_lt_of_le e3.1 hsz, fun o => by rw [frozen_of_same (hw b e1)]; exact e3.2 o⟩, e4.mono hm fun off v hc => by rw [cell_of_same (hw b e1)]; exact hc⟩
  | imm v e es =>
    obtain ⟨b, e1, e2, e4⟩ := h
    exact ⟨b, hφ.trans e1, (hI b e1).2 e2, e4.mono hRI fun off v hc => by rw [cell_of_same (hw b e1)]; exact hc⟩
  | icl xs =>
    obtain ⟨b, e1, e2, e4⟩ := h
    refine ⟨b, hφ.trans e1, (hI b e1).2 e2, fun j x hx => ?_⟩
    obtain ⟨v, c1, c2⟩ := e4 j x hx
    exact ⟨v, by rw [cell_of_same (hw b e1)]; exact c1, hRI _ _ c2⟩
  | map kvs =>
    obtain ⟨b, es, clock, e1, e2, e3, e4, e5, e7, e6⟩ := h
    refine ⟨b, es, clock, hφ.trans e1, fun hi => e2 ((hI b e1).1 hi), Nat.lt_of_lt_of_le e3 hsz, (hw b e1).trans e4, e5, e7, fun j e p h1 h2 => ?_⟩
    obtain ⟨c1, c2⟩ := e6 j e p h1 h2
    exact ⟨hm _ _ c1, hm _ _ c2⟩

/-- the world goes on: new blocks, and blocks that are nobody's, may have turned; more may never be written again -/
theorem Rel.world {ν : Nat → Nat} {k : Cx} {g : Gh} (r : Rel ν k g) {w' : World} {I' : Nat → Prop} (hI : ∀ b, g.I b → I' b) (hI' : ∀ b, I' b → g.I b ∨ g.w.heap.size ≤ b ∧ b < w'.heap.size)
    (hs : g.w.heap.size ≤ w'.heap.size) (h1 : w'.os = g.w.os) (h2 : w'.tape = g.w.tape) (h3 : w'.output = g.w.output) (hb : ∀ b, b < g.w.heap.size → w'.heap[b]? = g.w.heap[b]?) :
    Rel ν k { g with I := I', w := w' } ∧ Mono ν g { g with I := I', w := w' } := by
  have hRI : ∀ v x, RI ν g.I g.w v x → RI ν I' w' v x := fun v x h => h.mono hI fun b off v hi hc => by rw [cell_of_same (hb b (r.small b hi))]; exact hc
  have hblk : ∀ id o b, get g.h id = some o → g.φ id = some b → b < g.w.heap.size := fun id o b ho hφ => (r.ob id o ho).block hφ r.small
  have hm : Mono ν g { g with I := I', w := w' } := by
    intro v x hx
    refine hx.mono hRI ?_ ?_
    · intro v id o n ver ho
      obtain ⟨ob, hob⟩ := ho.alive
      exact ho.other rfl rfl fun b hφ => hb b (hblk id _ b hob hφ)
    · intro v id ver i j hr; exact hr
  refine ⟨⟨?_, r.inj, ?_, fun b h => hI b (r.i0 b h), ?_, r.own, Nat.le_trans r.size hs, h1.trans r.os, h2.trans r.tape, h3.trans r.output, fun b h => (hb b (Nat.lt_of_lt_of_le h r.size)).trans (r.old b h), fun id o b ho hφ => (r.ty id o b ho hφ).same (shape_of_same (hb b (hblk id o b ho hφ)))⟩, hm⟩
  · intro id o ho
    exact (r.ob id o ho).other rfl hm hRI hs (fun b hφ => hb b (hblk id _ b ho hφ)) fun b hφ => ⟨fun hi => (hI' b hi).resolve_right fun h => by have := hblk id _ b ho hφ; omega, hI b⟩
  · intro b hi
    rcases hI' b hi with h | h
    · exact Nat.lt_of_lt_of_le (r.small b h) hs
    · exact h.2
  · intro b hi
    rcases hI' b hi with h | h
    · exact r.i1 b h
    · exact .inr (Nat.le_trans r.size h.1)
end Arx

/-
  HOW THE STATES GO ON TOGETHER: a new object; an object that turns. Steps over the objects, one by one.
-/
namespace Arx
open Go Go.RowKit Arb

/-- a new object, in a block that is no object's, or in none -/
theorem Rel.new' {ν : Nat → Nat} {k : Cx} {g : Gh} (r : Rel ν k g) {s : Nat} {ob : Ob} {p : Option Nat} {w' : World} (hs : get g.h s = none)
    (hsz : g.w.heap.size ≤ w'.heap.size) (h1 : w'.os = g.w.os) (h2 : w'.tape = g.w.tape) (h3 : w'.output = g.w.output) (hb : ∀ b, b < g.w.heap.size → w'.heap[b]? = g.w.heap[b]?)
    (hp : ∀ b, p = some b → ∀ id o, get g.h id = some o → g.φ id ≠ some b) (hp2 : ∀ b, p = some b → k.w.heap.size ≤ b) (hty : ∀ b, p = some b → TyOK ν w' s b)
    (hob : Mono ν g { g with φ := updφ g.φ s p, w := w', h := set g.h s ob } → ObAt ν { g with φ := updφ g.φ s p, w := w', h := set g.h s ob } s ob) :
    Rel ν k { g with φ := updφ g.φ s p, w := w', h := set g.h s ob } ∧ Mono ν g { g with φ := updφ g.φ s p, w := w', h := set g.h s ob } := by
  have hRI : ∀ v x, RI ν g.I g.w v x → RI ν g.I w' v x := fun v x h => h.mono (fun _ h => h) fun b off v hi hc => by rw [cell_of_same (hb b (r.small b hi))]; exact hc
  have hblk : ∀ id o b, get g.h id = some o → g.φ id = some b → b < g.w.heap.size := fun id o b ho hφ => (r.ob id o ho).block hφ r.small
  have hm : Mono ν g { g with φ := updφ g.φ s p, w := w', h := set g.h s ob } := by
    intro v x hx
    refine hx.mono hRI ?_ ?_
    · intro v id o n ver ho
      obtain ⟨ob', hob'⟩ := ho.alive
      have hne : s ≠ id := fun e => by rw [← e, hs] at hob'; cases hob'
      exact ho.other (get_set_ne _ _ hne) (updφ_ne _ _ (Ne.symm hne)) fun b hφ => hb b (hblk id _ b hob' hφ)
    · intro v id ver i j hr
      obtain ⟨ob', hob'⟩ := hr.alive
      have hne : s ≠ id := fun e => by rw [← e, hs] at hob'; cases hob'
      exact hr.other (get_set_ne _ _ hne) (updφ_ne _ _ (Ne.symm hne))
  refine ⟨⟨?_, ?_, fun b hi => Nat.lt_of_lt_of_le (r.small b hi) hsz, r.i0, r.i1, ?_, Nat.le_trans r.size hsz, h1.trans r.os, h2.trans r.tape, h3.trans r.output, fun b h => (hb b (Nat.lt_of_lt_of_le h r.size)).trans (r.old b h), ?_⟩, hm⟩
  · intro id o ho
    by_cases he : s = id
    · subst he
      have : ob = o := by simpa [get_set_same] using ho
      subst this
      exact hob hm
    · have ho' : get g.h id = some o := by rwa [show get (set g.h s ob) id = get g.h id from get_set_ne _ _ he] at ho
      exact (r.ob id o ho').other (updφ_ne _ _ (Ne.symm he)) hm hRI hsz (fun b hφ => hb b (hblk id _ b ho' hφ)) fun _ _ => Iff.rfl
  · intro id id' o o' b ho ho' hφ hφ'
    simp only [get_set] at ho ho'
    simp only [updφ] at hφ hφ'
    by_cases he : id = s
    · by_cases he' : id' = s
      · rw [he, he']
      · rw [if_pos he] at hφ
        rw [if_neg he'] at hφ'
        rw [if_neg (Ne.symm he')] at ho'
        exact absurd hφ' (hp b hφ id' _ ho')
    · rw [if_neg he] at hφ
      rw [if_neg (Ne.symm he)] at ho
      by_cases he' : id' = s
      · rw [if_pos he'] at hφ'
        exact absurd hφ (hp b hφ' id _ ho)
      · rw [if_neg he'] at hφ'
        rw [if_neg (Ne.symm he')] at ho'
        exact r.inj id id' o o' b ho ho' hφ hφ'
  · intro id o b ho hφ
    simp only [get_set] at ho
    simp only [updφ] at hφ
    by_cases he : id = s
    · rw [if_pos he] at hφ
      exact hp2 b hφ
    · rw [if_neg he] at hφ
      rw [if_neg (Ne.symm he)] at ho
      exact r.own id o b ho hφ

  · intro id o b ho hφ
    simp only [get_set] at ho
    simp only [updφ] at hφ
    by_cases he : id = s
    · rw [if_pos he] at hφ
      rw [he]; exact hty b hφ
    · rw [if_neg he] at hφ
      rw [if_neg (Ne.symm he)] at ho
      exact (r.ty id o b ho hφ).same (shape_of_same (hb b (hblk id o b ho hφ)))

/-- a new object, in a new block or in none -/
theorem Rel.new {ν : Nat → Nat} {k : Cx} {g : Gh} (r : Rel ν k g) {s : Nat} {ob : Ob} {p : Option Nat} {w' : World} (hs : get g.h s = none)
    (hsz : g.w.heap.size ≤ w'.heap.size) (h1 : w'.os = g.w.os) (h2 : w'.tape = g.w.tape) (h3 : w'.output = g.w.output) (hb : ∀ b, b < g.w.heap.size → w'.heap[b]? = g.w.heap[b]?)
    (hp : ∀ b, p = some b → g.w.heap.size ≤ b) (hty : ∀ b, p = some b → TyOK ν w' s b)
    (hob : Mono ν g { g with φ := updφ g.φ s p, w := w', h := set g.h s ob } → ObAt ν { g with φ := updφ g.φ s p, w := w', h := set g.h s ob } s ob) :
    Rel ν k { g with φ := updφ g.φ s p, w := w', h := set g.h s ob } ∧ Mono ν g { g with φ := updφ g.φ s p, w := w', h := set g.h s ob } :=
  r.new' hs hsz h1 h2 h3 hb (fun b hb' id o ho hφ => by have := (r.ob id o ho).block hφ r.small; have := hp b hb'; omega) (fun b hb' => Nat.le_trans r.size (hp b hb')) hty hob

/-- an object turns: its block alone may be written; it may come into a new block; its block may become one that is never written again -/
theorem Rel.turn {ν : Nat → Nat} {k : Cx} {g : Gh} (r : Rel ν k g) {s : Nat} {ob0 ob : Ob} {p : Option Nat} {w' : World} {I' : Nat → Prop} (hs : get g.h s = some ob0)
    (hnI : ∀ b, g.φ s = some b → ¬ g.I b)
    (hsz : g.w.heap.size ≤ w'.heap.size) (h1 : w'.os = g.w.os) (h2 : w'.tape = g.w.tape) (h3 : w'.output = g.w.output) (hb : ∀ b, b < g.w.heap.size → g.φ s ≠ some b → w'.heap[b]? = g.w.heap[b]?)
    (hI : ∀ b, g.I b → I' b) (hI' : ∀ b, I' b → g.I b ∨ g.φ s = some b)
    (hp : p = g.φ s ∨ ∃ b, p = some b ∧ g.w.heap.size ≤ b) (hty : ∀ b, p = some b → TyOK ν w' s b)
    (hO : ∀ v o n ver, OwnAt g v s o n ver → OwnAt ⟨I', updφ g.φ s p, w', set g.h s ob⟩ v s o n ver)
    (hR : ∀ v ver i j, RefAt g v s ver i j → RefAt ⟨I', updφ g.φ s p, w', set g.h s ob⟩ v s ver i j)
    (hob : (∀ v x, RI ν g.I g.w v x → RI ν I' w' v x) → Mono ν g ⟨I', updφ g.φ s p, w', set g.h s ob⟩ → ObAt ν ⟨I', updφ g.φ s p, w', set g.h s ob⟩ s ob) :
    Rel ν k ⟨I', updφ g.φ s p, w', set g.h s ob⟩ ∧ Mono ν g ⟨I', updφ g.φ s p, w', set g.h s ob⟩ := by
  have hRI : ∀ v x, RI ν g.I g.w v x → RI ν I' w' v x := fun v x h => h.mono hI fun b off v hi hc => by
    rw [cell_of_same (hb b (r.small b hi) fun e => hnI b e hi)]; exact hc
  have hblk : ∀ id o b, get g.h id = some o → g.φ id = some b → b < g.w.heap.size := fun id o b ho hφ => (r.ob id o ho).block hφ r.small
  have hapart : ∀ id o b, s ≠ id → get g.h id = some o → g.φ id = some b → g.φ s ≠ some b := fun id o b hne ho hφ e => hne (r.inj s id ob0 o b hs ho e hφ)
  have hm : Mono ν g ⟨I', updφ g.φ s p, w', set g.h s ob⟩ := by
    intro v x hx
    refine hx.mono hRI ?_ ?_
    · intro v id o n ver ho
      by_cases he : s = id
      · subst he; exact hO _ _ _ _ ho
      · obtain ⟨ob', hob'⟩ := ho.alive
        exact ho.other (get_set_ne _ _ he) (updφ_ne _ _ (Ne.symm he)) fun b hφ => hb b (hblk id _ b hob' hφ) (hapart id _ b he hob' hφ)
    · intro v id ver i j hr
      by_cases he : s = id
      · subst he; exact hR _ _ _ _ hr
      · exact hr.other (get_set_ne _ _ he) (updφ_ne _ _ (Ne.symm he))
  refine ⟨⟨?_, ?_, ?_, fun b h => hI b (r.i0 b h), ?_, ?_, Nat.le_trans r.size hsz, h1.trans r.os, h2.trans r.tape, h3.trans r.output, ?_, ?_⟩, hm⟩
  · intro id o ho
    by_cases he : s = id
    · subst he
      have : ob = o := by simpa [get_set_same] using ho
      subst this
      exact hob hRI hm
    · have ho' : get g.h id = some o := by rwa [show get (set g.h s ob) id = get g.h id from get_set_ne _ _ he] at ho
      exact (r.ob id o ho').other (updφ_ne _ _ (Ne.symm he)) hm hRI hsz (fun b hφ => hb b (hblk id _ b ho' hφ) (hapart id _ b he ho' hφ))
        fun b hφ => ⟨fun hi => (hI' b hi).resolve_right (hapart id _ b he ho' hφ), hI b⟩
  · intro id id' o o' b ho ho' hφ hφ'
    simp only [get_set] at ho ho'
    simp only [updφ] at hφ hφ'
    by_cases he : id = s
    · by_cases he' : id' = s
      · rw [he, he']
      · rw [if_pos he] at hφ
        rw [if_neg he'] at hφ'
        rw [if_neg (Ne.symm he')] at ho'
        have hlt := hblk id' _ b ho' hφ'
        rcases hp with hp | ⟨b', hp, hge⟩
        · exact absurd (hp ▸ hφ) (hapart id' _ b (Ne.symm he') ho' hφ')
        · rw [hp] at hφ; cases hφ; omega
    · rw [if_neg he] at hφ
      rw [if_neg (Ne.symm he)] at ho
      by_cases he' : id' = s
      · rw [if_pos he'] at hφ'
        have hlt := hblk id _ b ho hφ
        rcases hp with hp | ⟨b', hp, hge⟩
        · exact absurd (hp ▸ hφ') (hapart id _ b (Ne.symm he) ho hφ)
        · rw [hp] at hφ'; cases hφ'; omega
      · rw [if_neg he'] at hφ'
        rw [if_neg (Ne.symm he')] at ho'
        exact r.inj id id' o o' b ho ho' hφ hφ'
  · intro b hi
    rcases hI' b hi with h | h
    · exact Nat.lt_of_lt_of_le (r.small b h) hsz
    · exact Nat.lt_of_lt_of_le (hblk s _ b hs h) hsz
  · intro b hi
    rcases hI' b hi with h | h
    · exact r.i1 b h
    · exact .inr (r.own s _ b hs h)
  · intro id o b ho hφ
    simp only [get_set] at ho
    simp only [updφ] at hφ
    by_cases he : id = s
    · rw [if_pos he] at hφ
      rcases hp with hp | ⟨b', hp, hge⟩
      · exact r.own s _ b hs (hp ▸ hφ)
      · rw [hp] at hφ; cases hφ; exact Nat.le_trans r.size hge
    · rw [if_neg he] at hφ
      rw [if_neg (Ne.symm he)] at ho
      exact r.own id o b ho hφ
  · intro b h
    have hlt := Nat.lt_of_lt_of_le h r.size
    refine (hb b hlt fun e => ?_).trans (r.old b h)
    have := r.own s _ b hs e
    omega
  · intro id o b ho hφ
    simp only [get_set] at ho
    simp only [updφ] at hφ
    by_cases he : id = s
    · rw [if_pos he] at hφ
      rw [he]; exact hty b hφ
    · rw [if_neg he] at hφ
      rw [if_neg (Ne.symm he)] at ho
      exact (r.ty id o b ho hφ).same (shape_of_same (hb b (hblk id o b ho hφ) (hapart id o b (Ne.symm he) ho hφ)))

/-! ### steps over the objects, one by one -/
theorem M.run_bind {α β : Type} (m : M α) (f : α → M β) (h : Hp) : (m.bind f).run h = match m.run h with
    | some (a, h') => (f a).run h'
    | none => none := by
  induction m generalizing h with
  | ret a => rfl
  | fail => rfl
  | get id k ih => simp only [M.bind, M.run]; exact ih _ _
  | put id o k ih => simp only [M.bind, M.run]; exact ih _
theorem M.bind_some {α β : Type} {m : M α} {f : α → M β} {h h'' : Hp} {b : β} (e : (m.bind f).run h = some (b, h'')) :
    ∃ a h', m.run h = some (a, h') ∧ (f a).run h' = some (b, h'') := by
  rw [M.run_bind] at e
  cases hm : m.run h with
  | none => rw [hm] at e; cases e
  | some p => rw [hm] at e; exact ⟨p.1, p.2, rfl, e⟩
theorem M.ok_some {b : Bool} {h h' : Hp} {u : Unit} (e : (M.ok b).run h = some (u, h')) : b = true ∧ h' = h := by
  unfold M.ok at e
  cases b with
  | true => simp [M.run] at e; exact ⟨rfl, e.symm⟩
  | false => simp [M.run] at e
theorem M.look_some {id : Nat} {h h' : Hp} {o : Ob} (e : (M.look id).run h = some (o, h')) : Arx.get h id = some o ∧ h' = h := by
  simp only [M.look, M.run] at e
  cases hg : Arx.get h id with
  | none => simp [hg, M.run] at e
  | some x => simp [hg, M.run] at e; exact ⟨by rw [e.1], e.2.symm⟩
theorem M.fresh_some {id : Nat} {h h' : Hp} {u : Unit} (e : (M.fresh id).run h = some (u, h')) : Arx.get h id = none ∧ h' = h := by
  simp only [M.fresh, M.run] at e
  cases hg : Arx.get h id with
  | none => simp [hg, M.run] at e; exact ⟨rfl, e.symm⟩
  | some x => simp [hg, M.run] at e
theorem M.write_some {id : Nat} {o : Ob} {h h' : Hp} {u : Unit} (e : (M.write id o).run h = some (u, h')) : h' = set h id o := by
  simp [M.write, M.run] at e; exact e.symm
theorem M.lift_some {α : Type} {x : Option α} {h h' : Hp} {a : α} (e : (M.lift x).run h = some (a, h')) : x = some a ∧ h' = h := by
  cases x with
  | none => simp [M.lift, M.run] at e
  | some y => simp [M.lift, M.run] at e; exact ⟨by rw [e.1], e.2.symm⟩
theorem M.ret_some {α : Type} {x a : α} {h h' : Hp} (e : (M.ret x).run h = some (a, h')) : x = a ∧ h' = h := by
  simp [M.run] at e; exact ⟨e.1, e.2.symm⟩
theorem M.fail_some {α : Type} {a : α} {h h' : Hp} (e : (M.fail : M α).run h = some (a, h')) : False := by simp [M.run] at e
end Arx

/-
  VALUES BEHIND WHICH NOTHING OF ANYBODY's STANDS: 'fz' says what it says.
-/
namespace Arx
open Go Go.RowKit Arb

theorem M.mapL_cons {α β : Type} {f : α → M β} {x : α} {r : List α} {h h' : Hp} {ys : List β} (e : (M.mapL f (x :: r)).run h = some (ys, h')) :
    ∃ y h1 zs, (f x).run h = some (y, h1) ∧ (M.mapL f r).run h1 = some (zs, h') ∧ ys = y :: zs := by
  obtain ⟨y, h1, e1, e2⟩ := M.bind_some e
  obtain ⟨zs, h2, e3, e4⟩ := M.bind_some e2
  obtain ⟨rfl, rfl⟩ := M.ret_some e4
  exact ⟨y, h1, zs, e1, e3, rfl⟩
theorem M.mapL_nil {α β : Type} {f : α → M β} {h h' : Hp} {ys : List β} (e : (M.mapL f []).run h = some (ys, h')) : ys = [] ∧ h' = h := by
  obtain ⟨rfl, rfl⟩ := M.ret_some e; exact ⟨rfl, rfl⟩

/-- the next state, where more is never written again -/
structure Froze (ν : Nat → Nat) (k : Cx) (g : Gh) (h' : Hp) (I' : Nat → Prop) : Prop where
  rel : Rel ν k { g with I := I', h := h' }
  mono : Mono ν g { g with I := I', h := h' }
  sub : ∀ b, g.I b → I' b
  up : ∀ b, I' b → g.I b ∨ ∃ id o, get g.h id = some o ∧ g.φ id = some b
  stay : ∀ id o, get h' id = some o → get g.h id = some o ∨ (∃ v e es, o = .imm v e es) ∨ ∃ xs, o = .icl xs
  alive : ∀ id, (get h' id).isSome = (get g.h id).isSome

theorem Froze.refl {ν : Nat → Nat} {k : Cx} {g : Gh} (r : Rel ν k g) : Froze ν k g g.h g.I := ⟨r, .refl ν g, fun _ h => h, fun _ h => .inl h, fun _ _ h => .inl h, fun _ => rfl⟩
theorem Froze.trans {ν : Nat → Nat} {k : Cx} {g : Gh} {h1 h2 : Hp} {I1 I2 : Nat → Prop} (a : Froze ν k g h1 I1) (b : Froze ν k { g with I := I1, h := h1 } h2 I2) : Froze ν k g h2 I2 :=
  ⟨b.rel, a.mono.trans b.mono, fun x hx => b.sub x (a.sub x hx), fun x hx => by
    rcases b.up x hx with h | ⟨id, o, ho, hφ⟩
    · exact a.up x h
    · have ha := a.alive id
      simp only [] at ho hφ
      rw [ho] at ha
      cases hg : get g.h id with
      | none => rw [hg] at ha; simp at ha
      | some o' => exact .inr ⟨id, o', hg, hφ⟩,
   fun id o h => by
    rcases b.stay id o h with h | h
    · exact a.stay id o h
    · exact .inr h, fun id => (b.alive id).trans (a.alive id)⟩

theorem updφ_self {φ : Nat → Option Nat} {id : Nat} : updφ φ id (φ id) = φ := by funext i; simp only [updφ]; split <;> simp_all

/-- a row becomes one that is never written again -/
theorem froze_buf {ν : Nat → Nat} {k : Cx} {g : Gh} (r : Rel ν k g) {id v e b : Nat} {es : List (List AV)} {xs : List (List IV)} (hg : get g.h id = some (.buf v e es)) (hφ : g.φ id = some b) (hn : xs.length = es.length)
    (hl : ∀ c ∈ xs, c.length = e) (hx : ∀ (i j : Nat) (c : List IV) (x : IV), xs[i]? = some c → c[j]? = some x → ∃ u, g.w.cell? ⟨b, i * e + j, none⟩ = some u ∧ RI ν g.I g.w u x) :
    Froze ν k g (set g.h id (.imm v e xs)) (fun b => g.I b ∨ g.φ id = some b) := by
  have hnI : ∀ b, g.φ id = some b → ¬ g.I b := by
    intro b' hφ'
    obtain ⟨b'', h1, h2, _⟩ := r.ob id _ hg
    rw [hφ'] at h1; cases h1; exact h2
  have ht := r.turn (s := id) (ob := .imm v e xs) (p := g.φ id) (w' := g.w) (I' := fun b => g.I b ∨ g.φ id = some b) hg hnI (Nat.le_refl _) rfl rfl rfl (fun _ _ _ => rfl) (fun _ h => .inl h) (fun _ h => h) (.inl rfl) (fun b' h => r.ty id _ b' hg h)
    (fun u o n ver ho => by
      unfold OwnAt at ho ⊢
      rw [hg] at ho
      simp only [get_set_same, updφ_same]
      rw [hn]
      exact ho)
    (fun u ver i j hr => by
      unfold RefAt at hr ⊢
      rw [hg] at hr
      simp only [get_set_same, updφ_same]
      exact hr)
    (fun hRI _ => ⟨b, (updφ_same _ _ _).trans hφ, .inr hφ, hl, fun i j c x h1 h2 => let ⟨u, c1, c2⟩ := hx i j c x h1 h2; ⟨u, c1, hRI _ _ c2⟩⟩)
  rw [updφ_self] at ht
  refine ⟨ht.1, ht.2, fun _ h => .inl h, fun b h => h.imp _root_.id fun h => ⟨id, _, hg, h⟩, fun id' o h => ?_, fun id' => ?_⟩
  · rw [get_set] at h
    split at h
    · cases h; exact .inr (.inl ⟨_, _, _, rfl⟩)
    · exact .inl h
  · rw [get_set]
    split
    · rename_i he; subst he; rw [hg]; rfl
    · rfl

/-- a variable becomes one that is never written again -/
theorem froze_cells {ν : Nat → Nat} {k : Cx} {g : Gh} (r : Rel ν k g) {id b : Nat} {cs : List AV} {xs : List IV} (hg : get g.h id = some (.cells cs)) (hφ : g.φ id = some b) (hn : xs.length = cs.length)
    (hx : ∀ (j : Nat) (x : IV), xs[j]? = some x → ∃ u, g.w.cell? ⟨b, j, none⟩ = some u ∧ RI ν g.I g.w u x) :
    Froze ν k g (set g.h id (.icl xs)) (fun b => g.I b ∨ g.φ id = some b) := by
  have hnI : ∀ b, g.φ id = some b → ¬ g.I b := by
    intro b' hφ'
    obtain ⟨b'', h1, h2, _⟩ := r.ob id _ hg
    rw [hφ'] at h1; cases h1; exact h2
  have ht := r.turn (s := id) (ob := .icl xs) (p := g.φ id) (w' := g.w) (I' := fun b => g.I b ∨ g.φ id = some b) hg hnI (Nat.le_refl _) rfl rfl rfl (fun _ _ _ => rfl) (fun _ h => .inl h) (fun _ h => h) (.inl rfl) (fun b' h => r.ty id _ b' hg h)
    (fun u o n ver ho => by
      unfold OwnAt at ho ⊢
      rw [hg] at ho
      simp only [get_set_same, updφ_same]
      rw [hn]
      exact ho)
    (fun u ver i j hr => by
      unfold RefAt at hr ⊢
      rw [hg] at hr
      simp only [get_set_same, updφ_same]
      exact hr)
    (fun hRI _ => ⟨b, (updφ_same _ _ _).trans hφ, .inr hφ, fun j x h2 => let ⟨u, c1, c2⟩ := hx j x h2; ⟨u, c1, hRI _ _ c2⟩⟩)
  rw [updφ_self] at ht
  refine ⟨ht.1, ht.2, fun _ h => .inl h, fun b h => h.imp _root_.id fun h => ⟨id, _, hg, h⟩, fun id' o h => ?_, fun id' => ?_⟩
  · rw [get_set] at h
    split at h
    · cases h; exact .inr (.inr ⟨_, rfl⟩)
    · exact .inl h
  · rw [get_set]
    split
    · rename_i he; subst he; rw [hg]; rfl
    · rfl

/-- elements of a row, read as a slice -/
theorem sl_reads' {ν : Nat → Nat} {J : Nat → Prop} {w : World} {p : Option Nat} {e o m L : Nat} {xs : List (List IV)} (hn : xs.length = m)
    (hrow : ∀ b, p = some b → J b ∧ (∀ c ∈ xs, c.length = e) ∧ ∀ (i j : Nat) (c : List IV) (x : IV), xs[i]? = some c → c[j]? = some x → ∃ u, w.cell? ⟨b, (o + i) * e + j, none⟩ = some u ∧ RI ν J w u x) {v : Value}
    (h : SlAt w p e L o m v) : RI ν J w v (.sl e xs) := by
  by_cases hm : m = 0
  · subst hm
    have : xs = [] := List.eq_nil_of_length_eq_zero hn
    subst this
    cases hp : p with
    | none => rw [hp] at h; obtain ⟨⟨a, rfl⟩, _⟩ := h; exact .sl0 a 0 e
    | some b => rw [hp] at h; obtain ⟨x, cap, rfl, _⟩ := h; exact .sl0 _ cap e
  · cases hp : p with
    | none => rw [hp] at h; obtain ⟨_, h0, _⟩ := h; exact absurd h0 hm
    | some b =>
      rw [hp] at h
      obtain ⟨x, cap, rfl, h2, h3, h4, h5, _⟩ := h
      obtain ⟨hI, hl, hc⟩ := hrow b hp
      have hx : x = o * e := h5.resolve_right fun h => hm h.1
      subst hx
      have hpick : ∀ (i : Nat) (c : List IV), xs[i]? = some c → ∃ f : Nat → Value, ∀ (j : Nat) (x : IV), c[j]? = some x → w.cell? ⟨b, (o + i) * e + j, none⟩ = some (f j) ∧ RI ν J w (f j) x :=
        fun i c hi => pick fun j x hj => hc i j c x hi hj
      obtain ⟨F, hF⟩ := pickT hpick
      refine .sl b (o * e) m cap e xs F hI hn.symm h4 hl (fun i j c x h1 h2 => ?_) fun i j c x h1 h2 => (hF i c h1 j x h2).2
      have := (hF i c h1 j x h2).1
      rwa [Nat.add_mul] at this
theorem ref_reads' {ν : Nat → Nat} {J : Nat → Prop} {w : World} {off j b : Nat} {c : List IV} (hJ : J b) (hc : ∀ (l : Nat) (x : IV), c[l]? = some x → ∃ u, w.cell? ⟨b, off + l, none⟩ = some u ∧ RI ν J w u x) :
    RI ν J w (.pointer (some ⟨b, off + j, none⟩)) (.ptr (c.drop j)) := by
  obtain ⟨F, hF⟩ := pick (cs := c) hc
  refine .ptr b (off + j) _ (fun l => F (j + l)) hJ (fun l x h => ?_) fun l x h => ?_
  · rw [List.getElem?_drop] at h
    have := (hF _ x h).1
    rwa [← Nat.add_assoc] at this
  · rw [List.getElem?_drop] at h
    exact (hF _ x h).2

theorem sub_get {α : Type} {es : List α} {o m i : Nat} {c : α} (h : ((es.drop o).take m)[i]? = some c) : i < m ∧ es[o + i]? = some c := by
  rw [List.getElem?_take] at h
  split at h
  · rename_i hi; rw [List.getElem?_drop] at h; exact ⟨hi, h⟩
  · cases h
theorem SlAt.fits {w : World} {p : Option Nat} {e L o n : Nat} {v : Value} (h : SlAt w p e L o n v) : o + n ≤ L := by
  cases p with
  | none => obtain ⟨_, rfl, rfl, rfl⟩ := h; exact Nat.le_refl _
  | some b => obtain ⟨x, cap, _, h, _⟩ := h; exact h

/-- elements of a row that is never written again, read as a slice -/
theorem sl_reads {ν : Nat → Nat} {k : Cx} {g : Gh} (r : Rel ν k g) {id v' e o m : Nat} {es : List (List IV)} (hg : get g.h id = some (.imm v' e es)) {v : Value}
    (h : SlAt g.w (g.φ id) e es.length o m v) : RI ν g.I g.w v (.sl e ((es.drop o).take m)) := by
  have hf := h.fits
  refine sl_reads' (by simp; omega) (fun b hp => ?_) h
  obtain ⟨b', h1, hI, hrow⟩ := r.ob id _ hg
  rw [hp] at h1; cases h1
  refine ⟨hI, fun c hc => hrow.1 c (List.mem_of_mem_drop (List.mem_of_mem_take hc)), fun i j c x h1 h2 => hrow.2 _ j c x (sub_get h1).2 h2⟩
theorem ref_reads {ν : Nat → Nat} {k : Cx} {g : Gh} (r : Rel ν k g) {id v' e i j : Nat} {es : List (List IV)} {c : List IV} (hg : get g.h id = some (.imm v' e es)) (hc : es[i]? = some c) {v : Value}
    (h : ∃ b, g.φ id = some b ∧ v = .pointer (some ⟨b, i * e + j, none⟩)) : RI ν g.I g.w v (.ptr (c.drop j)) := by
  obtain ⟨b, hφ, rfl⟩ := h
  obtain ⟨b', h1, hI, hrow⟩ := r.ob id _ hg
  rw [hφ] at h1; cases h1
  exact ref_reads' hI fun l x h => hrow.2 i l c x hc h
theorem icl_reads {ν : Nat → Nat} {k : Cx} {g : Gh} (r : Rel ν k g) {id j : Nat} {xs : List IV} (hg : get g.h id = some (.icl xs)) {v : Value} (h : ∃ b, g.φ id = some b ∧ v = .pointer (some ⟨b, j, none⟩)) :
    RI ν g.I g.w v (.ptr (xs.drop j)) := by
  obtain ⟨b, hφ, rfl⟩ := h
  obtain ⟨b', h1, hI, hrow⟩ := r.ob id _ hg
  rw [hφ] at h1; cases h1
  have := ref_reads' (off := 0) (j := j) hI (c := xs) fun l x h => by have := hrow l x h; rwa [Nat.zero_add]
  rwa [Nat.zero_add] at this

/-- 'fz', writing: what it answers reads as the value does; more is never written again -/
def FzT (ν : Nat → Nat) (f : AV → M IV) : Prop :=
  ∀ (k : Cx) (g : Gh) (a : AV) (x : IV) (h' : Hp), (f a).run g.h = some (x, h') → Rel ν k g → ∀ v, RA ν g v a → ∃ I', Froze ν k g h' I' ∧ RI ν I' g.w v x
theorem FzT.list {ν : Nat → Nat} {f : AV → M IV} (hf : FzT ν f) : ∀ (cs : List AV) (k : Cx) (g : Gh) (xs : List IV) (h' : Hp), (M.mapL f cs).run g.h = some (xs, h') → Rel ν k g →
    ∀ V : Nat → Value, (∀ (j : Nat) (c : AV), cs[j]? = some c → RA ν g (V j) c) → ∃ I', Froze ν k g h' I' ∧ xs.length = cs.length ∧ ∀ (j : Nat) (x : IV), xs[j]? = some x → RI ν I' g.w (V j) x := by
  intro cs
  induction cs with
  | nil =>
    intro k g xs h' e r V _
    obtain ⟨rfl, rfl⟩ := M.mapL_nil e
    exact ⟨g.I, .refl r, rfl, fun j x h => by simp at h⟩
  | cons c cs ih =>
    intro k g xs h' e r V hV
    obtain ⟨y, h1, zs, e1, e2, rfl⟩ := M.mapL_cons e
    obtain ⟨I1, f1, r1⟩ := hf k g c y h1 e1 r (V 0) (hV 0 c rfl)
    obtain ⟨I2, f2, hl, r2⟩ := ih k { g with I := I1, h := h1 } zs h' e2 f1.rel (fun j => V (j + 1)) fun j c' hc => f1.mono _ _ (hV (j + 1) c' (by simpa using hc))
    refine ⟨I2, f1.trans f2, by simp [hl], fun j x hx => ?_⟩
    cases j with
    | zero => simp at hx; subst hx; exact r1.mono f2.sub fun _ _ _ _ h => h
    | succ j => exact r2 j x (by simpa using hx)
theorem FzT.rows {ν : Nat → Nat} {f : AV → M IV} (hf : FzT ν f) : ∀ (es : List (List AV)) (k : Cx) (g : Gh) (xs : List (List IV)) (h' : Hp), (M.mapL (M.mapL f) es).run g.h = some (xs, h') → Rel ν k g →
    ∀ V : Nat → Nat → Value, (∀ (i j : Nat) (c : List AV) (x : AV), es[i]? = some c → c[j]? = some x → RA ν g (V i j) x) →
    ∃ I', Froze ν k g h' I' ∧ xs.length = es.length ∧ (∀ (i : Nat) (c : List AV) (c' : List IV), es[i]? = some c → xs[i]? = some c' → c'.length = c.length) ∧
      ∀ (i j : Nat) (c : List IV) (x : IV), xs[i]? = some c → c[j]? = some x → RI ν I' g.w (V i j) x := by
  intro es
  induction es with
  | nil =>
    intro k g xs h' e r V _
    obtain ⟨rfl, rfl⟩ := M.mapL_nil e
    exact ⟨g.I, .refl r, rfl, fun i c c' h => by simp at h, fun i j c x h => by simp at h⟩
  | cons c es ih =>
    intro k g xs h' e r V hV
    obtain ⟨y, h1, zs, e1, e2, rfl⟩ := M.mapL_cons e
    obtain ⟨I1, f1, l1, r1⟩ := hf.list c k g y h1 e1 r (V 0) fun j x h => hV 0 j c x rfl h
    obtain ⟨I2, f2, hl, hl2, r2⟩ := ih k { g with I := I1, h := h1 } zs h' e2 f1.rel (fun i => V (i + 1)) fun i j c' x h h' => f1.mono _ _ (hV (i + 1) j c' x (by simpa using h) h')
    refine ⟨I2, f1.trans f2, by simp [hl], fun i a b ha hb => ?_, fun i j a x ha hx => ?_⟩
    · cases i with
      | zero => simp at ha hb; subst ha hb; exact l1
      | succ i => exact hl2 i a b (by simpa using ha) (by simpa using hb)
    · cases i with
      | zero => simp at ha; subst ha; exact (r1 j x hx).mono f2.sub fun _ _ _ _ h => h
      | succ i => exact r2 i j a x (by simpa using ha) hx

/-- the cells of a row, given places -/
theorem row_pick {ν : Nat → Nat} {g : Gh} {b e : Nat} {es : List (List AV)} (h : RowG ν g b e es) : ∃ V : Nat → Nat → Value, ∀ (i j : Nat) (c : List AV) (x : AV), es[i]? = some c → c[j]? = some x →
    g.w.cell? ⟨b, i * e + j, none⟩ = some (V i j) ∧ (V i j).oneCell' = true ∧ RA ν g (V i j) x := by
  obtain ⟨F, hF⟩ := pickT (cs := es) (P := fun i (f : Nat → Value) c => ∀ (j : Nat) (x : AV), c[j]? = some x → g.w.cell? ⟨b, i * e + j, none⟩ = some (f j) ∧ (f j).oneCell' = true ∧ RA ν g (f j) x)
    fun i c hc => pick fun j x hx => h.2 i j c x hc hx
  exact ⟨F, fun i j c x h1 h2 => hF i c h1 j x h2⟩

theorem fzT_spec (ν : Nat → Nat) : ∀ n, FzT ν (fz true n) := by
  intro n
  induction n with
  | zero => intro k g a x h' e; exact (M.fail_some e).elim
  | succ n ih =>
    intro k g a x h' e r v ha
    -- a row, all of it
    have row : ∀ {id v' e' b : Nat} {es : List (List AV)} {xs : List (List IV)} {h1 : Hp}, get g.h id = some (.buf v' e' es) → g.φ id = some b → (M.mapL (M.mapL (fz true n)) es).run g.h = some (xs, h1) → (∃ v e es, get h1 id = some (.buf v e es)) →
        ∃ I', Froze ν k g (set h1 id (.imm v' e' xs)) I' ∧ xs.length = es.length := by
      intro id v' e' b es xs h1 hg hφ e1 hb
      obtain ⟨b', h1', hnI, hsoft, hrow⟩ := r.ob id _ hg
      rw [hφ] at h1'; cases h1'
      obtain ⟨V, hV⟩ := row_pick hrow
      obtain ⟨I1, f1, hl, hl2, hx⟩ := ih.rows es k g xs h1 e1 r V fun i j c x h1 h2 => (hV i j c x h1 h2).2.2
      have hst : get h1 id = some (.buf v' e' es) := by
        obtain ⟨a1, a2, a3, ha⟩ := hb
        rcases f1.stay id _ ha with h | h | h
        · rw [hg] at h; cases h; exact ha
        · obtain ⟨_, _, _, h⟩ := h; cases h
        · obtain ⟨_, h⟩ := h; cases h
      have hlen : ∀ (i : Nat) (c : List IV), xs[i]? = some c → ∃ c', es[i]? = some c' ∧ c.length = c'.length := fun i c h => by
        have h' := lt_of_some h
        exact ⟨_, List.getElem?_eq_getElem (by omega), hl2 i _ c (List.getElem?_eq_getElem (by omega)) h⟩
      have hf := froze_buf (xs := xs) f1.rel hst hφ hl (fun c hc => by
          obtain ⟨i, hi⟩ := List.getElem?_of_mem hc
          obtain ⟨c', h1, h2⟩ := hlen i c hi
          rw [h2]; exact hrow.1 c' (List.mem_of_getElem? h1)) fun i j c x h1 h2 => by
        obtain ⟨c', h3, h4⟩ := hlen i c h1
        have hj := lt_of_some h2
        exact ⟨V i j, (hV i j c' _ h3 (List.getElem?_eq_getElem (by omega))).1, hx i j c x h1 h2⟩
      exact ⟨_, f1.trans hf, hl⟩
    cases ha with
    | undef => exact (M.fail_some e).elim
    | agg => exact (M.fail_some e).elim
    | tup => exact (M.fail_some e).elim
    | nul => exact (M.fail_some e).elim
    | iv hr =>
      cases hr with
      | nsl a e' => obtain ⟨rfl, rfl⟩ := M.ret_some e; exact ⟨g.I, .refl r, .sl0 _ _ _⟩
      | bool b => obtain ⟨rfl, rfl⟩ := M.ret_some e; exact ⟨g.I, .refl r, .bool _⟩
      | int k' n' => obtain ⟨rfl, rfl⟩ := M.ret_some e; exact ⟨g.I, .refl r, .int _ _⟩
      | str s => obtain ⟨rfl, rfl⟩ := M.ret_some e; exact ⟨g.I, .refl r, .str _⟩
      | sl0 a c e' => obtain ⟨rfl, rfl⟩ := M.ret_some e; exact ⟨g.I, .refl r, .sl0 _ _ _⟩
      | sl b off n' cap e' es f h1 h2 h3 h4 h5 h6 => obtain ⟨rfl, rfl⟩ := M.ret_some e; exact ⟨g.I, .refl r, .sl b off n' cap e' es f h1 h2 h3 h4 h5 h6⟩
      | nilp => obtain ⟨rfl, rfl⟩ := M.ret_some e; exact ⟨g.I, .refl r, .nilp⟩
      | ptr b off cs f h1 h2 h3 => obtain ⟨rfl, rfl⟩ := M.ret_some e; exact ⟨g.I, .refl r, .ptr b off cs f h1 h2 h3⟩
      | fn f caps cs h1 h2 => obtain ⟨rfl, rfl⟩ := M.ret_some e; exact ⟨g.I, .refl r, .fn f caps cs h1 h2⟩
      | junk v h1 => obtain ⟨rfl, rfl⟩ := M.ret_some e; exact ⟨g.I, .refl r, .junk _ h1⟩
    | @own _ id o m ver ho1 ho =>
      obtain ⟨ob, h1, e1, e2⟩ := M.bind_some e
      obtain ⟨hg, rfl⟩ := M.look_some e1
      cases ob with
      | cells cs => exact (M.fail_some e2).elim
      | icl cs => exact (M.fail_some e2).elim
      | map _ => exact (M.fail_some e2).elim
      | buf v' e' es =>
        obtain ⟨_, h2, e3, e4⟩ := M.bind_some e2
        obtain ⟨hv, rfl⟩ := M.ok_some e3
        simp only [if_true] at e4
        obtain ⟨xs, h3, e5, e6⟩ := M.bind_some e4
        obtain ⟨ob', h4, e7, e8⟩ := M.bind_some e6
        obtain ⟨hg', rfl⟩ := M.look_some e7
        cases ob' with
        | cells cs => exact (M.fail_some e8).elim
        | icl cs => exact (M.fail_some e8).elim
        | map _ => exact (M.fail_some e8).elim
        | imm _ _ _ => exact (M.fail_some e8).elim
        | buf v2 e2' es2 =>
          obtain ⟨_, h5, e9, e10⟩ := M.bind_some e8
          obtain rfl := M.write_some e9
          obtain ⟨rfl, rfl⟩ := M.ret_some e10
          have hv' : v' = ver := by simpa using hv
          obtain ⟨b, hφ, -⟩ := r.ob id _ hg
          obtain ⟨I', hf, hl⟩ := row hg hφ e5 ⟨_, _, _, hg'⟩
          refine ⟨I', hf, ?_⟩
          unfold OwnAt at ho
          rw [hg] at ho
          have hs := ho.2 hv'
          rw [← hl] at hs
          exact sl_reads hf.rel (id := id) (get_set_same _ _ _) hs
      | imm v' e' es =>
        obtain ⟨_, h2, e3, e4⟩ := M.bind_some e2
        obtain ⟨hv, rfl⟩ := M.ok_some e3
        obtain ⟨rfl, rfl⟩ := M.ret_some e4
        have hv' : v' = ver := by simpa using hv
        unfold OwnAt at ho
        rw [hg] at ho
        exact ⟨g.I, .refl r, sl_reads r hg (ho.2 hv')⟩
    | @ref _ id ver i j hr1 hr =>
      obtain ⟨ob, h1, e1, e2⟩ := M.bind_some e
      obtain ⟨hg, rfl⟩ := M.look_some e1
      unfold RefAt at hr
      rw [hg] at hr
      cases ob with
      | map _ => exact (M.fail_some e2).elim
      | icl xs =>
        obtain ⟨rfl, rfl, hb⟩ := hr
        obtain ⟨_, h2, e3, e4⟩ := M.bind_some e2
        obtain ⟨-, rfl⟩ := M.ok_some e3
        obtain ⟨rfl, rfl⟩ := M.ret_some e4
        exact ⟨g.I, .refl r, icl_reads r hg hb⟩
      | cells cs =>
        obtain ⟨rfl, rfl, b, hφ, rfl⟩ := hr
        obtain ⟨_, h2, e3, e4⟩ := M.bind_some e2
        obtain ⟨-, rfl⟩ := M.ok_some e3
        obtain ⟨xs, h3, e5, e6⟩ := M.bind_some e4
        simp only [if_true] at e6
        obtain ⟨ob', h4, e7, e8⟩ := M.bind_some e6
        obtain ⟨hg', rfl⟩ := M.look_some e7
        obtain ⟨b', hφ', hnI, _, hc⟩ := r.ob id _ hg
        rw [hφ] at hφ'; cases hφ'
        obtain ⟨V, hV⟩ := pick hc
        obtain ⟨I1, f1, hl, hx⟩ := ih.list cs k g xs _ e5 r V fun j c h => (hV j c h).2.2
        cases ob' with
        | buf _ _ _ => exact (M.fail_some e8).elim
        | imm _ _ _ => exact (M.fail_some e8).elim
        | icl _ => exact (M.fail_some e8).elim
        | map _ => exact (M.fail_some e8).elim
        | cells cs' =>
          have hcs : get g.h id = some (.cells cs') := by
            rcases f1.stay id _ hg' with h | h | h
            · exact h
            · obtain ⟨_, _, _, h⟩ := h; cases h
            · obtain ⟨_, h⟩ := h; cases h
          rw [hg] at hcs; cases hcs
          obtain ⟨_, h5, e9, e10⟩ := M.bind_some e8
          obtain rfl := M.write_some e9
          obtain ⟨rfl, rfl⟩ := M.ret_some e10
          have hlen : ∀ (j : Nat) (x : IV), xs[j]? = some x → ∃ c, cs[j]? = some c := fun j x h => by
            have := lt_of_some h
            exact ⟨_, List.getElem?_eq_getElem (by omega)⟩
          have hf := froze_cells (xs := xs) f1.rel hg' hφ hl fun j x h => let ⟨c, hc'⟩ := hlen j x h; ⟨V j, (hV j c hc').1, hx j x h⟩
          exact ⟨_, f1.trans hf, icl_reads hf.rel (id := id) (get_set_same _ _ _) ⟨b, hφ, rfl⟩⟩
      | buf v' e' es =>
        obtain ⟨_, h2, e3, e4⟩ := M.bind_some e2
        obtain ⟨hv, rfl⟩ := M.ok_some e3
        simp only [if_true] at e4
        obtain ⟨xs, h3, e5, e6⟩ := M.bind_some e4
        obtain ⟨ob', h4, e7, e8⟩ := M.bind_some e6
        obtain ⟨hg', rfl⟩ := M.look_some e7
        cases ob' with
        | cells cs => exact (M.fail_some e8).elim
        | icl cs => exact (M.fail_some e8).elim
        | map _ => exact (M.fail_some e8).elim
        | imm _ _ _ => exact (M.fail_some e8).elim
        | buf v2 e2' es2 =>
          obtain ⟨c, h5, e9, e10⟩ := M.bind_some e8
          obtain ⟨hc, rfl⟩ := M.lift_some e9
          obtain ⟨_, h6, e11, e12⟩ := M.bind_some e10
          obtain rfl := M.write_some e11
          obtain ⟨rfl, rfl⟩ := M.ret_some e12
          have hv' : v' = ver := by simpa using hv
          obtain ⟨b, hφ, -⟩ := r.ob id _ hg
          obtain ⟨I', hf, hl⟩ := row hg hφ e5 ⟨_, _, _, hg'⟩
          exact ⟨I', hf, ref_reads hf.rel (id := id) (v' := v') (es := xs) (get_set_same _ _ _) hc (hr.2 hv')⟩
      | imm v' e' es =>
        obtain ⟨_, h2, e3, e4⟩ := M.bind_some e2
        obtain ⟨hv, rfl⟩ := M.ok_some e3
        obtain ⟨c, h3, e5, e6⟩ := M.bind_some e4
        obtain ⟨hc, rfl⟩ := M.lift_some e5
        obtain ⟨rfl, rfl⟩ := M.ret_some e6
        have hv' : v' = ver := by simpa using hv
        exact ⟨g.I, .refl r, ref_reads r hg hc (hr.2 hv')⟩
    | @clo f first caps fs cs hm hs hn hr =>
      cases fs with
      | cons => exact (M.fail_some e).elim
      | nil =>
        have : first = #[] := Array.eq_empty_of_size_eq_zero hm
        subst this
        obtain ⟨xs, h1, e1, e2⟩ := M.bind_some e
        obtain ⟨rfl, rfl⟩ := M.ret_some e2
        obtain ⟨I1, f1, hl, hx⟩ := ih.list cs k g xs _ e1 r (fun j => caps.getD j (.bool true)) fun j c h => by
          have := lt_of_some h
          exact hr j _ c (by simp [Array.getD, show j < caps.size by omega]) h
        refine ⟨I1, f1, .fn f caps xs (by omega) fun j v x h1 h2 => ?_⟩
        have := hx j x h2
        rwa [show caps.getD j (.bool true) = v from by
          obtain ⟨hj, he⟩ := Array.getElem?_eq_some_iff.1 h1
          simp [Array.getD, hj, he]] at this

/-! ### the same, only looked at: read where all that is its own counts as never written -/
def FzF (ν : Nat → Nat) (f : AV → M IV) : Prop :=
  ∀ (k : Cx) (g : Gh) (a : AV) (x : IV) (h' : Hp), (f a).run g.h = some (x, h') → Rel ν k g → ∀ v, RA ν g v a →
    h' = g.h ∧ ∀ J : Nat → Prop, (∀ b, g.I b → J b) → (∀ id o b, get g.h id = some o → g.φ id = some b → J b) → RI ν J g.w v x
theorem FzF.list {ν : Nat → Nat} {f : AV → M IV} (hf : FzF ν f) (k : Cx) (g : Gh) (r : Rel ν k g) : ∀ (cs : List AV) (xs : List IV) (h' : Hp), (M.mapL f cs).run g.h = some (xs, h') →
    ∀ V : Nat → Value, (∀ (j : Nat) (c : AV), cs[j]? = some c → RA ν g (V j) c) → h' = g.h ∧ xs.length = cs.length ∧
      ∀ J : Nat → Prop, (∀ b, g.I b → J b) → (∀ id o b, get g.h id = some o → g.φ id = some b → J b) → ∀ (j : Nat) (x : IV), xs[j]? = some x → RI ν J g.w (V j) x := by
  intro cs
  induction cs with
  | nil =>
    intro xs h' e V _
    obtain ⟨rfl, rfl⟩ := M.mapL_nil e
    exact ⟨rfl, rfl, fun _ _ _ j x h => by simp at h⟩
  | cons c cs ih =>
    intro xs h' e V hV
    obtain ⟨y, h1, zs, e1, e2, rfl⟩ := M.mapL_cons e
    obtain ⟨rfl, r1⟩ := hf k g c y h1 e1 r (V 0) (hV 0 c rfl)
    obtain ⟨rfl, hl, r2⟩ := ih zs h' e2 (fun j => V (j + 1)) fun j c' hc => hV (j + 1) c' (by simpa using hc)
    refine ⟨rfl, by simp [hl], fun J hJ hJ' j x hx => ?_⟩
    cases j with
    | zero => simp at hx; subst hx; exact r1 J hJ hJ'
    | succ j => exact r2 J hJ hJ' j x (by simpa using hx)
theorem FzF.rows {ν : Nat → Nat} {f : AV → M IV} (hf : FzF ν f) (k : Cx) (g : Gh) (r : Rel ν k g) : ∀ (es : List (List AV)) (xs : List (List IV)) (h' : Hp), (M.mapL (M.mapL f) es).run g.h = some (xs, h') →
    ∀ V : Nat → Nat → Value, (∀ (i j : Nat) (c : List AV) (x : AV), es[i]? = some c → c[j]? = some x → RA ν g (V i j) x) → h' = g.h ∧ xs.length = es.length ∧
      (∀ (i : Nat) (c : List AV) (c' : List IV), es[i]? = some c → xs[i]? = some c' → c'.length = c.length) ∧
      ∀ J : Nat → Prop, (∀ b, g.I b → J b) → (∀ id o b, get g.h id = some o → g.φ id = some b → J b) → ∀ (i j : Nat) (c : List IV) (x : IV), xs[i]? = some c → c[j]? = some x → RI ν J g.w (V i j) x := by
  intro es
  induction es with
  | nil =>
    intro xs h' e V _
    obtain ⟨rfl, rfl⟩ := M.mapL_nil e
    exact ⟨rfl, rfl, fun i c c' h => by simp at h, fun _ _ _ i j c x h => by simp at h⟩
  | cons c es ih =>
    intro xs h' e V hV
    obtain ⟨y, h1, zs, e1, e2, rfl⟩ := M.mapL_cons e
    obtain ⟨rfl, l1, r1⟩ := hf.list k g r c y h1 e1 (V 0) fun j x h => hV 0 j c x rfl h
    obtain ⟨rfl, hl, hl2, r2⟩ := ih zs h' e2 (fun i => V (i + 1)) fun i j c' x h h' => hV (i + 1) j c' x (by simpa using h) h'
    refine ⟨rfl, by simp [hl], fun i a b ha hb => ?_, fun J hJ hJ' i j a x ha hx => ?_⟩
    · cases i with
      | zero => simp at ha hb; subst ha hb; exact l1
      | succ i => exact hl2 i a b (by simpa using ha) (by simpa using hb)
    · cases i with
      | zero => simp at ha; subst ha; exact r1 J hJ hJ' j x hx
      | succ i => exact r2 J hJ hJ' i j a x (by simpa using ha) hx

theorem fzF_spec (ν : Nat → Nat) : ∀ n, FzF ν (fz false n) := by
  intro n
  induction n with
  | zero => intro k g a x h' e; exact (M.fail_some e).elim
  | succ n ih =>
    intro k g a x h' e r v ha
    have up : ∀ {J : Nat → Prop}, (∀ b, g.I b → J b) → ∀ {v : Value} {x : IV}, RI ν g.I g.w v x → RI ν J g.w v x := fun hJ _ _ h => h.mono hJ fun _ _ _ _ h => h
    cases ha with
    | undef => exact (M.fail_some e).elim
    | agg => exact (M.fail_some e).elim
    | tup => exact (M.fail_some e).elim
    | nul => exact (M.fail_some e).elim
    | iv hr =>
      have key : ∀ y : IV, (M.ret y).run g.h = some (x, h') → RI ν g.I g.w v y → h' = g.h ∧ ∀ J : Nat → Prop, (∀ b, g.I b → J b) → (∀ id o b, get g.h id = some o → g.φ id = some b → J b) → RI ν J g.w v x := by
        intro y e hy
        obtain ⟨rfl, rfl⟩ := M.ret_some e
        exact ⟨rfl, fun J hJ _ => up hJ hy⟩
      cases hr with
      | nsl a e' => exact key _ e (.sl0 _ _ _)
      | bool b => exact key _ e (.bool _)
      | int k' n' => exact key _ e (.int _ _)
      | str s => exact key _ e (.str _)
      | sl0 a c e' => exact key _ e (.sl0 _ _ _)
      | sl b off n' cap e' es f h1 h2 h3 h4 h5 h6 => exact key _ e (.sl b off n' cap e' es f h1 h2 h3 h4 h5 h6)
      | nilp => exact key _ e .nilp
      | ptr b off cs f h1 h2 h3 => exact key _ e (.ptr b off cs f h1 h2 h3)
      | fn f caps cs h1 h2 => exact key _ e (.fn f caps cs h1 h2)
      | junk v h1 => exact key _ e (.junk _ h1)
    | @own _ id o m ver ho1 ho =>
      obtain ⟨ob, h1, e1, e2⟩ := M.bind_some e
      obtain ⟨hg, rfl⟩ := M.look_some e1
      unfold OwnAt at ho
      rw [hg] at ho
      cases ob with
      | cells cs => exact (M.fail_some e2).elim
      | icl cs => exact (M.fail_some e2).elim
      | map _ => exact (M.fail_some e2).elim
      | buf v' e' es =>
        obtain ⟨_, h2, e3, e4⟩ := M.bind_some e2
        obtain ⟨hv, rfl⟩ := M.ok_some e3
        simp only [Bool.false_eq_true, if_false] at e4
        obtain ⟨xs, h3, e5, e6⟩ := M.bind_some e4
        obtain ⟨rfl, rfl⟩ := M.ret_some e6
        have hv' : v' = ver := by simpa using hv
        have hs := ho.2 hv'
        have hfit := hs.fits
        obtain ⟨b, hφ, hnI, hsoft, hrow⟩ := r.ob id _ hg
        obtain ⟨V, hV⟩ := row_pick hrow
        obtain ⟨rfl, hl, hl2, hx⟩ := ih.rows k g r _ xs _ e5 (fun i j => V (o + i) j) fun i j c x h1 h2 => (hV _ j c x (sub_get h1).2 h2).2.2
        have hxl : xs.length = m := by rw [hl]; simp; omega
        have hat : ∀ (i : Nat) (c : List IV), xs[i]? = some c → ∃ c', es[o + i]? = some c' ∧ c.length = c'.length := fun i c h => by
          have h' := lt_of_some h
          have hlt : i < ((es.drop o).take m).length := by omega
          have h2 := List.getElem?_eq_getElem hlt
          exact ⟨_, (sub_get h2).2, hl2 i _ c h2 h⟩
        refine ⟨rfl, fun J hJ hJ' => sl_reads' hxl (fun b' hp => ?_) hs⟩
        rw [hφ] at hp; cases hp
        refine ⟨hJ' id _ b hg hφ, fun c hc => ?_, fun i j c x h1 h2 => ?_⟩
        · obtain ⟨i, hi⟩ := List.getElem?_of_mem hc
          obtain ⟨c', h1, h2⟩ := hat i c hi
          rw [h2]; exact hrow.1 c' (List.mem_of_getElem? h1)
        · obtain ⟨c', h3, h4⟩ := hat i c h1
          have hj := lt_of_some h2
          exact ⟨_, (hV (o + i) j c' _ h3 (List.getElem?_eq_getElem (by omega))).1, hx J hJ hJ' i j c x h1 h2⟩
      | imm v' e' es =>
        obtain ⟨_, h2, e3, e4⟩ := M.bind_some e2
        obtain ⟨hv, rfl⟩ := M.ok_some e3
        obtain ⟨rfl, rfl⟩ := M.ret_some e4
        have hv' : v' = ver := by simpa using hv
        exact ⟨rfl, fun J hJ _ => up hJ (sl_reads r hg (ho.2 hv'))⟩
    | @ref _ id ver i j hr1 hr =>
      obtain ⟨ob, h1, e1, e2⟩ := M.bind_some e
      obtain ⟨hg, rfl⟩ := M.look_some e1
      unfold RefAt at hr
      rw [hg] at hr
      cases ob with
      | map _ => exact (M.fail_some e2).elim
      | icl xs =>
        obtain ⟨rfl, rfl, hb⟩ := hr
        obtain ⟨_, h2, e3, e4⟩ := M.bind_some e2
        obtain ⟨-, rfl⟩ := M.ok_some e3
        obtain ⟨rfl, rfl⟩ := M.ret_some e4
        exact ⟨rfl, fun J hJ _ => up hJ (icl_reads r hg hb)⟩
      | cells cs =>
        obtain ⟨rfl, rfl, b, hφ, rfl⟩ := hr
        obtain ⟨_, h2, e3, e4⟩ := M.bind_some e2
        obtain ⟨-, rfl⟩ := M.ok_some e3
        obtain ⟨xs, h3, e5, e6⟩ := M.bind_some e4
        simp only [Bool.false_eq_true, if_false] at e6
        obtain ⟨rfl, rfl⟩ := M.ret_some e6
        obtain ⟨b', hφ', hnI, _, hc⟩ := r.ob id _ hg
        rw [hφ] at hφ'; cases hφ'
        obtain ⟨V, hV⟩ := pick hc
        obtain ⟨rfl, hl, hx⟩ := ih.list k g r cs xs _ e5 V fun j c h => (hV j c h).2.2
        refine ⟨rfl, fun J hJ hJ' => ?_⟩
        have := ref_reads' (off := 0) (j := j) (hJ' id _ b hg hφ) (c := xs) fun l x h => by
          have := lt_of_some h
          exact ⟨V l, by rw [Nat.zero_add]; exact (hV l _ (List.getElem?_eq_getElem (by omega))).1, hx J hJ hJ' l x h⟩
        rwa [Nat.zero_add] at this
      | buf v' e' es =>
        obtain ⟨_, h2, e3, e4⟩ := M.bind_some e2
        obtain ⟨hv, rfl⟩ := M.ok_some e3
        simp only [Bool.false_eq_true, if_false] at e4
        obtain ⟨c, h3, e5, e6⟩ := M.bind_some e4
        obtain ⟨hc, rfl⟩ := M.lift_some e5
        obtain ⟨xs, h4, e7, e8⟩ := M.bind_some e6
        obtain ⟨rfl, rfl⟩ := M.ret_some e8
        have hv' : v' = ver := by simpa using hv
        obtain ⟨b, hφ, rfl⟩ := hr.2 hv'
        obtain ⟨b', hφ', hnI, _, hrow⟩ := r.ob id _ hg
        rw [hφ] at hφ'; cases hφ'
        obtain ⟨V, hV⟩ := row_pick hrow
        obtain ⟨rfl, hl, hx⟩ := ih.list k g r c xs _ e7 (V i) fun j x h => (hV i j c x hc h).2.2
        refine ⟨rfl, fun J hJ hJ' => ref_reads' (hJ' id _ b hg hφ) fun l x h => ?_⟩
        have := lt_of_some h
        exact ⟨V i l, (hV i l c _ hc (List.getElem?_eq_getElem (by omega))).1, hx J hJ hJ' l x h⟩
      | imm v' e' es =>
        obtain ⟨_, h2, e3, e4⟩ := M.bind_some e2
        obtain ⟨hv, rfl⟩ := M.ok_some e3
        obtain ⟨c, h3, e5, e6⟩ := M.bind_some e4
        obtain ⟨hc, rfl⟩ := M.lift_some e5
        obtain ⟨rfl, rfl⟩ := M.ret_some e6
        have hv' : v' = ver := by simpa using hv
        exact ⟨rfl, fun J hJ _ => up hJ (ref_reads r hg hc (hr.2 hv'))⟩
    | @clo f first caps fs cs hm hs hn hr =>
      cases fs with
      | cons => exact (M.fail_some e).elim
      | nil =>
        have : first = #[] := Array.eq_empty_of_size_eq_zero hm
        subst this
        obtain ⟨xs, h1, e1, e2⟩ := M.bind_some e
        obtain ⟨rfl, rfl⟩ := M.ret_some e2
        obtain ⟨rfl, hl, hx⟩ := ih.list k g r cs xs _ e1 (fun j => caps.getD j (.bool true)) fun j c h => by
          have := lt_of_some h
          exact hr j _ c (by simp [Array.getD, show j < caps.size by omega]) h
        refine ⟨rfl, fun J hJ hJ' => .fn f caps xs (by omega) fun j v x h1 h2 => ?_⟩
        have := hx J hJ hJ' j x h2
        rwa [show caps.getD j (.bool true) = v from by
          obtain ⟨hj, he⟩ := Array.getElem?_eq_some_iff.1 h1
          simp [Array.getD, hj, he]] at this
end Arx

/-
  ONE OPERATION: what the abstract machine does, the model does. First: what reads, and plain values.
-/
namespace Arx
open Go Go.RowKit Arb

/-- the model's run gives a value, and the next state stands to the abstract one as ever -/
def Done (ν : Nat → Nat) (k : Cx) (g : Gh) (h' : Hp) (r : AV) (res : Result Value) : Prop :=
  ∃ g' v, res = .ok v g'.w ∧ g'.h = h' ∧ Rel ν k g' ∧ Mono ν g g' ∧ RA ν g' v r

theorem Done.same {ν : Nat → Nat} {k : Cx} {g : Gh} (r : Rel ν k g) {v : Value} {x : AV} {res : Result Value} (hr : res = .ok v g.w) (h : RA ν g v x) : Done ν k g g.h x res :=
  ⟨g, v, hr, rfl, r, .refl ν g, h⟩

theorem mk_some {agg : Bool} {l : List AV} {h h' : Hp} {r : AV} (e : (mk agg l).run h = some (r, h')) : h' = h ∧ (agg = true ∧ r = .agg l ∨ agg = false ∧ l = [r]) := by
  unfold mk at e
  cases agg with
  | true => simp only [if_true] at e; obtain ⟨rfl, rfl⟩ := M.ret_some e; exact ⟨rfl, .inl ⟨rfl, rfl⟩⟩
  | false =>
    simp only [Bool.false_eq_true, if_false] at e
    match l with
    | [] => exact (M.fail_some e).elim
    | [x] => obtain ⟨rfl, rfl⟩ := M.ret_some e; exact ⟨rfl, .inr ⟨rfl, rfl⟩⟩
    | _ :: _ :: _ => exact (M.fail_some e).elim

/-- cells of memory, read as a value -/
theorem loadVar_ok {ν : Nat → Nat} {P : Program} {g : Gh} {t : TypeId} {sz : Nat} {agg : Bool} (ht : tyB P t sz agg = true) {b off : Nat} {l : List AV} (hl : l.length = sz)
    (hc : ∀ (i : Nat) (x : AV), l[i]? = some x → ∃ v, g.w.cell? ⟨b, off + i, none⟩ = some v ∧ v.oneCell' = true ∧ RA ν g v x) {r : AV} (hr : agg = true ∧ r = .agg l ∨ agg = false ∧ l = [r]) :
    ∃ v, (loadVar t ⟨b, off, none⟩).run P g.w = .ok v g.w ∧ RA ν g v r := by
  obtain ⟨d, i, hu, hi, ha, hs, h1⟩ := tyB_spec ht
  obtain ⟨V, hV⟩ := pick hc
  rcases hr with ⟨hagg, rfl⟩ | ⟨hagg, rfl⟩
  · have hcells : (loadCells ⟨b, off, none⟩ i.size).run P g.w = .ok ((List.range i.size).map V).toArray g.w := run_loadCells g.w _ _ V fun j hj => by
      have := (hV j (l[j]'(by omega)) (List.getElem?_eq_getElem (by omega))).1
      rwa [Addr.add_lit]
    refine ⟨.agg ((List.range i.size).map V).toArray, ?_, .agg (by simp; omega) (fun j v h => ?_) fun j v c h1 h2 => ?_⟩
    · simp [loadVar, run_isAgg hu, ha, hagg, run_sizeOf hi, hcells]
    · obtain ⟨hj, rfl⟩ : j < i.size ∧ V j = v := by
        have hj : j < i.size := by
          rcases Nat.lt_or_ge j i.size with h' | h'
          · exact h'
          · simp [List.getElem?_eq_none (show (List.range i.size).length ≤ j by simpa using h')] at h
        exact ⟨hj, by simpa [hj] using h⟩
      exact (hV j (l[j]'(by omega)) (List.getElem?_eq_getElem (by omega))).2.1
    · have hj : j < l.length := by
        rcases Nat.lt_or_ge j l.length with h' | h'
        · exact h'
        · rw [List.getElem?_eq_none h'] at h2; cases h2
      obtain rfl : V j = v := by simpa [show j < i.size by omega] using h1
      exact (hV j c h2).2.2
  · have h0 := hV 0 r rfl
    refine ⟨V 0, ?_, h0.2.2⟩
    have := h0.1
    simp only [Nat.add_zero] at this
    simp [loadVar, run_isAgg hu, ha, hagg, this]

/-- what is read in an object -/
theorem obRead_ok {ν : Nat → Nat} {k : Cx} {g : Gh} (r : Rel ν k g) {id ver i j sz : Nat} {ob : Ob} {l : List AV} (hg : get g.h id = some ob) (hl : obRead ob ver i j sz = some l) {v : Value}
    (h : RefAt g v id ver i j) : ∃ b off, v = .pointer (some ⟨b, off, none⟩) ∧ ∀ (m : Nat) (x : AV), l[m]? = some x → ∃ v, g.w.cell? ⟨b, off + m, none⟩ = some v ∧ v.oneCell' = true ∧ RA ν g v x := by
  unfold RefAt at h
  rw [hg] at h
  have old := r.ob id _ hg
  have sub : ∀ {α : Type} {cs : List α} {m : Nat} {x : α}, ((cs.drop j).take sz)[m]? = some x → cs[j + m]? = some x := fun h => (sub_get h).2
  cases ob with
  | cells cs =>
    obtain ⟨rfl, rfl, b, hφ, rfl⟩ := h
    obtain ⟨b', hφ', _, _, hc⟩ := old
    rw [hφ] at hφ'; cases hφ'
    simp only [obRead, true_and, if_true, Option.some.injEq] at hl
    subst hl
    exact ⟨b, j, rfl, fun m x hx => hc _ _ (sub hx)⟩
  | icl cs =>
    obtain ⟨rfl, rfl, b, hφ, rfl⟩ := h
    obtain ⟨b', hφ', _, hc⟩ := old
    rw [hφ] at hφ'; cases hφ'
    simp only [obRead, true_and, if_true, Option.some.injEq] at hl
    subst hl
    refine ⟨b, j, rfl, fun m x hx => ?_⟩
    simp only [List.getElem?_map, Option.map_eq_some_iff] at hx
    obtain ⟨y, hy, rfl⟩ := hx
    obtain ⟨v, h1, h2⟩ := hc _ _ (sub hy)
    exact ⟨v, h1, h2.one, .iv h2⟩
  | buf v' e es =>
    simp only [obRead] at hl
    split at hl
    · rename_i hv
      obtain ⟨b, hφ, rfl⟩ := h.2 hv
      simp only [Option.map_eq_some_iff] at hl
      obtain ⟨c, hc, rfl⟩ := hl
      obtain ⟨b', h1, _, _, hrow⟩ := old
      rw [hφ] at h1; cases h1
      refine ⟨b, _, rfl, fun m x hx => ?_⟩
      obtain ⟨v, h1, h2⟩ := hrow.2 i (j + m) c x hc (sub hx)
      exact ⟨v, by rw [Nat.add_assoc]; exact h1, h2⟩
    · cases hl
  | imm v' e es =>
    simp only [obRead] at hl
    split at hl
    · rename_i hv
      obtain ⟨b, hφ, rfl⟩ := h.2 hv
      simp only [Option.map_eq_some_iff] at hl
      obtain ⟨c, hc, rfl⟩ := hl
      obtain ⟨b', h1, _, hrow⟩ := old
      rw [hφ] at h1; cases h1
      refine ⟨b, _, rfl, fun m x hx => ?_⟩
      simp only [List.getElem?_map, Option.map_eq_some_iff] at hx
      obtain ⟨y, hy, rfl⟩ := hx
      obtain ⟨v, h1, h2⟩ := hrow.2 i (j + m) c y hc (sub hy)
      exact ⟨v, by rw [Nat.add_assoc]; exact h1, h2.one, .iv h2⟩
    · cases hl
  | map _ => simp [obRead] at hl

theorem load_at {ν : Nat → Nat} {P : Program} {k : Cx} {g : Gh} (r : Rel ν k g) {t : TypeId} {sz : Nat} {agg : Bool} (ht : tyB P t sz agg = true) {v : Value} {x y : AV} {h' : Hp} (hv : RA ν g v x)
    (e : (load agg sz x).run g.h = some (y, h')) : h' = g.h ∧ ∃ u, (Instr.loadAt t v).run P g.w = .ok u g.w ∧ RA ν g u y := by
  cases hv with
  | undef => exact (M.fail_some e).elim
  | nul => exact (M.fail_some e).elim
  | agg => exact (M.fail_some e).elim
  | tup => exact (M.fail_some e).elim
  | own => exact (M.fail_some e).elim
  | clo => exact (M.fail_some e).elim
  | iv hr =>
    cases hr with
    | ptr b off cs f hI hc hr =>
      obtain ⟨_, h1, e1, e2⟩ := M.bind_some e
      obtain ⟨hl, rfl⟩ := M.ok_some e1
      obtain ⟨rfl, hm⟩ := mk_some e2
      have hl' : ((cs.take sz).map AV.iv).length = sz := by simpa using hl
      obtain ⟨u, hu, hR⟩ := loadVar_ok (ν := ν) (g := g) ht (b := b) (off := off) hl' (fun i x hx => by
        simp only [List.getElem?_map, Option.map_eq_some_iff, List.getElem?_take] at hx
        obtain ⟨y, hy, rfl⟩ := hx
        split at hy
        · exact ⟨f i, hc i y hy, (hr i y hy).one, .iv (hr i y hy)⟩
        · cases hy) hm
      exact ⟨rfl, u, by simp [Instr.loadAt, Instr.sureAddr, hu], hR⟩
    | _ => exact (M.fail_some e).elim
  | ref hr1 hr =>
    obtain ⟨ob, h1, e1, e2⟩ := M.bind_some e
    obtain ⟨hg, rfl⟩ := M.look_some e1
    obtain ⟨l, h2, e3, e4⟩ := M.bind_some e2
    obtain ⟨hl, rfl⟩ := M.lift_some e3
    obtain ⟨_, h3, e5, e6⟩ := M.bind_some e4
    obtain ⟨hl', rfl⟩ := M.ok_some e5
    obtain ⟨rfl, hm⟩ := mk_some e6
    obtain ⟨b, off, rfl, hc⟩ := obRead_ok r hg hl hr
    obtain ⟨u, hu, hR⟩ := loadVar_ok (ν := ν) (g := g) ht (b := b) (off := off) (by simpa using hl') hc hm
    exact ⟨rfl, u, by simp [Instr.loadAt, Instr.sureAddr, hu], hR⟩

theorem load_ok {ν : Nat → Nat} {P : Program} {k : Cx} {g : Gh} (r : Rel ν k g) {t : TypeId} {sz : Nat} {agg : Bool} (ht : tyB P t sz agg = true) {v : Value} {x y : AV} {h' : Hp} (hv : RA ν g v x)
    (e : (load agg sz x).run g.h = some (y, h')) : Done ν k g h' y ((Instr.loadAt t v).run P g.w) := by
  obtain ⟨rfl, u, hu, hR⟩ := load_at r ht hv e
  exact .same r hu hR

/-! ### addresses -/
theorem RefAt.move {g : Gh} {v : Value} {id ver i j : Nat} {ob : Ob} (hg : get g.h id = some ob) (hv : valid ob ver i = true) (h : RefAt g v id ver i j) (n : Nat) :
    ∃ b off, v = .pointer (some ⟨b, off, none⟩) ∧ RefAt g (.pointer (some ⟨b, off + n, none⟩)) id ver i (j + n) := by
  unfold RefAt at h ⊢
  rw [hg] at h ⊢
  cases ob with
  | cells cs =>
    obtain ⟨rfl, rfl, b, hφ, rfl⟩ := h
    exact ⟨b, j, rfl, rfl, rfl, b, hφ, rfl⟩
  | icl cs =>
    obtain ⟨rfl, rfl, b, hφ, rfl⟩ := h
    exact ⟨b, j, rfl, rfl, rfl, b, hφ, rfl⟩
  | buf v' e es =>
    obtain ⟨b, hφ, rfl⟩ := h.2 (by simpa [valid] using hv)
    exact ⟨b, _, rfl, h.1, fun _ => ⟨b, hφ, by rw [Nat.add_assoc]⟩⟩
  | imm v' e es =>
    obtain ⟨b, hφ, rfl⟩ := h.2 (by simpa [valid] using hv)
    exact ⟨b, _, rfl, h.1, fun _ => ⟨b, hφ, by rw [Nat.add_assoc]⟩⟩
  | map _ => simp [valid] at hv
theorem fadr_ok {ν : Nat → Nat} {P : Program} {k : Cx} {g : Gh} (r : Rel ν k g) {s : TypeId} {f off : Nat} (ht : fadrB P s f off = true) {v : Value} {x y : AV} {h' : Hp} (hv : RA ν g v x)
    (e : (fadr off x).run g.h = some (y, h')) : Done ν k g h' y ((Instr.fieldAt s v f).run P g.w) := by
  unfold fadrB at ht
  split at ht
  · rename_i fs hu
    split at ht
    · rename_i fd hf
      simp only [Bool.and_eq_true, beq_iff_eq] at ht
      obtain ⟨rfl, hsz⟩ := ht
      split at hsz
      · rename_i i hi
        have hne : ¬ i.size = 0 := by simpa using hsz
        have key : ∀ (b o : Nat), (Instr.fieldAt s (.pointer (some ⟨b, o, none⟩)) f).run P g.w = .ok (.pointer (some ⟨b, o + fd.offset, none⟩)) g.w := by
          intro b o
          simp [Instr.fieldAt, run_underlying hu, hf, Instr.sureAddr, fieldPlace, run_sizeOf hi, hne, Addr.add_lit]
        cases hv with
        | undef => exact (M.fail_some e).elim
        | nul => exact (M.fail_some e).elim
        | agg => exact (M.fail_some e).elim
        | tup => exact (M.fail_some e).elim
        | own => exact (M.fail_some e).elim
        | clo => exact (M.fail_some e).elim
        | iv hr =>
          cases hr with
          | ptr b o cs f' hI hc hr =>
            obtain ⟨_, h1, e1, e2⟩ := M.bind_some e
            obtain ⟨-, rfl⟩ := M.ok_some e1
            obtain ⟨rfl, rfl⟩ := M.ret_some e2
            exact .same r (key _ _) (.iv (RI.drop (.ptr b o cs f' hI hc hr)))
          | _ => exact (M.fail_some e).elim
        | ref hr1 hr =>
          obtain ⟨ob, h1, e1, e2⟩ := M.bind_some e
          obtain ⟨hg, rfl⟩ := M.look_some e1
          obtain ⟨_, h2, e3, e4⟩ := M.bind_some e2
          obtain ⟨hva, rfl⟩ := M.ok_some e3
          obtain ⟨rfl, rfl⟩ := M.ret_some e4
          obtain ⟨b, o, rfl, hR⟩ := hr.move hg hva fd.offset
          exact .same r (key _ _) (.ref rfl hR)
      · cases hsz
    · cases ht
  · cases ht

theorem idx_some {x : AV} {n : Int} {h h' : Hp} (e : (idx x).run h = some (n, h')) : h' = h ∧ ∃ k, x = .iv (.int k n) := by
  unfold idx at e
  split at e
  · obtain ⟨rfl, rfl⟩ := M.ret_some e; exact ⟨rfl, _, rfl⟩
  · exact (M.fail_some e).elim

theorem iarr_ok {ν : Nat → Nat} {P : Program} {k : Cx} {g : Gh} (r : Rel ν k g) {t : TypeId} {len e : Nat} (ht : iarrB P t len e = true) {v u : Value} {x z y : AV} {h' : Hp} (hv : RA ν g v x) (hu : RA ν g u z)
    (e' : (iarr len e x z).run g.h = some (y, h')) : Done ν k g h' y ((Instr.indexAt t v u).run P g.w) := by
  obtain ⟨el, i, hu', hi, rfl⟩ := iarrB_spec ht
  obtain ⟨n, h1, e1, e2⟩ := M.bind_some e'
  obtain ⟨rfl, kk, rfl⟩ := idx_some e1
  cases hu with
  | iv hz =>
    cases hz
    obtain ⟨_, h2, e3, e4⟩ := M.bind_some e2
    obtain ⟨hn, rfl⟩ := M.ok_some e3
    have hn' : 0 ≤ n ∧ n < len := by simpa using hn
    have key : ∀ (b o : Nat), (Instr.indexAt t (.pointer (some ⟨b, o, none⟩)) (.int kk n)).run P g.w = .ok (.pointer (some ⟨b, o + n.toNat * i.size, none⟩)) g.w := by
      intro b o
      simp [Instr.indexAt, run_underlying hu', Instr.sureAddr, asIntOf, hn', run_sizeOf hi, Addr.add_lit]
    cases hv with
    | undef => exact (M.fail_some e4).elim
    | nul => exact (M.fail_some e4).elim
    | agg => exact (M.fail_some e4).elim
    | tup => exact (M.fail_some e4).elim
    | own => exact (M.fail_some e4).elim
    | clo => exact (M.fail_some e4).elim
    | iv hr =>
      cases hr with
      | ptr b o cs f' hI hc hr =>
        obtain ⟨_, h1, e1, e2⟩ := M.bind_some e4
        obtain ⟨-, rfl⟩ := M.ok_some e1
        obtain ⟨rfl, rfl⟩ := M.ret_some e2
        exact .same r (key _ _) (.iv (RI.drop (.ptr b o cs f' hI hc hr)))
      | _ => exact (M.fail_some e4).elim
    | ref hr1 hr =>
      obtain ⟨ob, h1, e1, e2⟩ := M.bind_some e4
      obtain ⟨hg, rfl⟩ := M.look_some e1
      obtain ⟨_, h2, e3, e4⟩ := M.bind_some e2
      obtain ⟨hva, rfl⟩ := M.ok_some e3
      obtain ⟨rfl, rfl⟩ := M.ret_some e4
      obtain ⟨b, o, rfl, hR⟩ := hr.move hg hva (n.toNat * i.size)
      exact .same r (key _ _) (.ref rfl hR)

theorem isl_ok {ν : Nat → Nat} {P : Program} {k : Cx} {g : Gh} (r : Rel ν k g) {t : TypeId} {e : Nat} (ht : sliceB P t e = true) {v u : Value} {x z y : AV} {h' : Hp} (hv : RA ν g v x) (hu : RA ν g u z)
    (e' : (isl e x z).run g.h = some (y, h')) : Done ν k g h' y ((Instr.indexAt t v u).run P g.w) := by
  obtain ⟨el, i, hu', hi, rfl⟩ := sliceB_spec ht
  obtain ⟨n, h1, e1, e2⟩ := M.bind_some e'
  obtain ⟨rfl, kk, rfl⟩ := idx_some e1
  cases hu with
  | iv hz =>
    cases hz
    obtain ⟨_, h2, e3, e4⟩ := M.bind_some e2
    obtain ⟨hn, rfl⟩ := M.ok_some e3
    have hn' : 0 ≤ n := by simpa using hn
    have key : ∀ (b o len cap : Nat), n < (len : Int) → (Instr.indexAt t (.slice (some ⟨b, o, none⟩) len cap) (.int kk n)).run P g.w = .ok (.pointer (some ⟨b, o + n.toNat * i.size, none⟩)) g.w := by
      intro b o len cap hlt
      simp [Instr.indexAt, run_underlying hu', asIntOf, hn', hlt, run_sizeOf hi, Addr.add_lit]
    cases hv with
    | undef => exact (M.fail_some e4).elim
    | nul => exact (M.fail_some e4).elim
    | agg => exact (M.fail_some e4).elim
    | tup => exact (M.fail_some e4).elim
    | ref => exact (M.fail_some e4).elim
    | clo => exact (M.fail_some e4).elim
    | iv hr =>
      cases hr with
      | sl0 a cap e'' =>
        obtain ⟨_, h1, e1, e2⟩ := M.bind_some e4
        obtain ⟨-, rfl⟩ := M.ok_some e1
        obtain ⟨c, h2, e5, e6⟩ := M.bind_some e2
        obtain ⟨hc, rfl⟩ := M.lift_some e5
        simp at hc
      | sl b off m cap e'' es f hI hm hcap hl hc hr =>
        obtain ⟨_, h1, e1, e2⟩ := M.bind_some e4
        obtain ⟨he, rfl⟩ := M.ok_some e1
        obtain ⟨c, h2, e5, e6⟩ := M.bind_some e2
        obtain ⟨hc', rfl⟩ := M.lift_some e5
        obtain ⟨rfl, rfl⟩ := M.ret_some e6
        have he' : e'' = i.size := by simpa using he
        subst he'
        have hlt : n.toNat < es.length := by
          rcases Nat.lt_or_ge n.toNat es.length with h | h
          · exact h
          · rw [List.getElem?_eq_none h] at hc'; cases hc'
        refine .same r (key b off m cap (by omega)) (.iv (.ptr b _ c (fun j => f n.toNat j) hI (fun j x hx => ?_) fun j x hx => hr _ _ _ _ hc' hx))
        exact hc _ _ _ _ hc' hx
      | _ => exact (M.fail_some e4).elim
    | @own _ id o m ver ho1 ho =>
      obtain ⟨_, h1, e1, e2⟩ := M.bind_some e4
      obtain ⟨hm, rfl⟩ := M.ok_some e1
      obtain ⟨ob, h2, e3, e5⟩ := M.bind_some e2
      obtain ⟨hg, rfl⟩ := M.look_some e3
      have hm' : n < (m : Int) := by simpa using hm
      unfold OwnAt at ho
      rw [hg] at ho
      have fin : ∀ {v' e'' L : Nat} {ob : Ob}, get g.h id = some ob → (∃ es, ob = .buf v' e'' es ∨ ∃ xs, ob = .imm v' e'' xs) → v' = ver → e'' = i.size → SlAt g.w (g.φ id) e'' L o m v →
          Done ν k g g.h (.ref id ver (o + n.toNat) 0) ((Instr.indexAt t v (.int kk n)).run P g.w) := by
        intro v' e'' L ob hg' hob hv he hs
        cases hφ : g.φ id with
        | none => rw [hφ] at hs; obtain ⟨_, rfl, _⟩ := hs; omega
        | some b =>
          rw [hφ] at hs
          obtain ⟨x, cap, rfl, h2, _, h3, h4, _⟩ := hs
          have hx : x = o * e'' := h4.resolve_right fun h => by have := h.1; omega
          subst hx he
          refine .same r (key b _ m cap hm') (.ref rfl ?_)
          unfold RefAt
          rw [hg']
          obtain ⟨es, rfl | ⟨xs, rfl⟩⟩ := hob <;> exact ⟨Nat.le_of_eq hv.symm, fun _ => ⟨b, hφ, by rw [Nat.add_mul]; rfl⟩⟩
      have fin1 : ∀ {L : Nat} {ob : Ob}, get g.h id = some ob → (∃ cs, ob = .cells cs ∨ ∃ xs, ob = .icl xs) → 1 = i.size → SlAt g.w (g.φ id) 1 L o m v →
          Done ν k g g.h (.ref id 0 0 (o + n.toNat)) ((Instr.indexAt t v (.int kk n)).run P g.w) := by
        intro L ob hg' hob he hs
        cases hφ : g.φ id with
        | none => rw [hφ] at hs; obtain ⟨_, rfl, _⟩ := hs; omega
        | some b =>
          rw [hφ] at hs
          obtain ⟨x, cap, rfl, h2, _, h3, h4, _⟩ := hs
          have hx : x = o * 1 := h4.resolve_right fun h => by have := h.1; omega
          subst hx
          refine .same r (key b _ m cap hm') (.ref rfl ?_)
          unfold RefAt
          rw [hg']
          rw [← he]
          obtain ⟨es, rfl | ⟨xs, rfl⟩⟩ := hob <;> exact ⟨rfl, rfl, b, hφ, by simp⟩
      cases ob with
      | cells cs =>
        obtain ⟨_, h3, e6, e7⟩ := M.bind_some e5
        obtain ⟨hve, rfl⟩ := M.ok_some e6
        obtain ⟨rfl, rfl⟩ := M.ret_some e7
        simp only [Bool.and_eq_true, beq_iff_eq] at hve
        exact fin1 hg ⟨cs, .inl rfl⟩ hve.2.symm ho.2
      | icl cs =>
        obtain ⟨_, h3, e6, e7⟩ := M.bind_some e5
        obtain ⟨hve, rfl⟩ := M.ok_some e6
        obtain ⟨rfl, rfl⟩ := M.ret_some e7
        simp only [Bool.and_eq_true, beq_iff_eq] at hve
        exact fin1 hg ⟨[], .inr ⟨cs, rfl⟩⟩ hve.2.symm ho.2
      | buf v' e'' es =>
        obtain ⟨_, h3, e6, e7⟩ := M.bind_some e5
        obtain ⟨hve, rfl⟩ := M.ok_some e6
        obtain ⟨rfl, rfl⟩ := M.ret_some e7
        simp only [Bool.and_eq_true, beq_iff_eq] at hve
        exact fin hg ⟨es, .inl rfl⟩ hve.1 hve.2 (ho.2 hve.1)
      | imm v' e'' es =>
        obtain ⟨_, h3, e6, e7⟩ := M.bind_some e5
        obtain ⟨hve, rfl⟩ := M.ok_some e6
        obtain ⟨rfl, rfl⟩ := M.ret_some e7
        simp only [Bool.and_eq_true, beq_iff_eq] at hve
        exact fin hg ⟨[], .inr ⟨es, rfl⟩⟩ hve.1 hve.2 (ho.2 hve.1)
      | map _ => exact ho.elim
end Arx

/-
  ONE OPERATION, more: plain values, parts of values, slices of slices.
-/
namespace Arx
open Go Go.RowKit Arb

section
variable {ν : Nat → Nat} {P : Program} {k : Cx} {g : Gh}

theorem RA.int {v : Value} {kk : IntKind} {n : Int} (h : RA ν g v (.iv (.int kk n))) : v = .int kk n := by cases h with | iv h => cases h; rfl
theorem RA.bool {v : Value} {b : Bool} (h : RA ν g v (.iv (.bool b))) : v = .bool b := by cases h with | iv h => cases h; rfl
theorem RA.str {v : Value} {s : ByteArray} (h : RA ν g v (.iv (.str s))) : v = .string s := by cases h with | iv h => cases h; rfl
theorem RA.nilp {v : Value} (h : RA ν g v (.iv .nilp)) : v = .pointer none := by cases h with | iv h => cases h; rfl
theorem RA.ptr {v : Value} {cs : List IV} (h : RA ν g v (.iv (.ptr cs))) : ∃ b off, v = .pointer (some ⟨b, off, none⟩) := by cases h with | iv h => cases h; exact ⟨_, _, rfl⟩
theorem mkInt {kk : IntKind} {n : Int} : RA ν g (.int kk n) (.iv (.int kk n)) := .iv (.int _ _)
theorem mkBool {b : Bool} : RA ν g (.bool b) (.iv (.bool b)) := .iv (.bool _)
theorem mkStr {s : ByteArray} : RA ν g (.string s) (.iv (.str s)) := .iv (.str _)

theorem part_ok {t : TypeId} {sz off : Nat} {agg : Bool} (ht : tyB P t sz agg = true) {vs : Array Value} {cs : List AV} (hv : RA ν g (.agg vs) (.agg cs)) (hl : ((cs.drop off).take sz).length = sz)
    {r : AV} (hr : agg = true ∧ r = .agg ((cs.drop off).take sz) ∨ agg = false ∧ (cs.drop off).take sz = [r]) (w : World) : ∃ v, (part t vs off).run P w = .ok v w ∧ RA ν g v r := by
  obtain ⟨d, i, hu, hi, ha, hs, h1⟩ := tyB_spec ht
  subst hs
  cases hv with
  | agg hn ho hrr =>
    have hfit : off + i.size ≤ cs.length ∨ i.size = 0 := by simp only [List.length_take, List.length_drop] at hl; omega
    rcases hr with ⟨hagg, rfl⟩ | ⟨hagg, hr⟩
    · have key : ∀ (j : Nat) (v : Value), (vs.extract off (off + i.size))[j]? = some v → vs[off + j]? = some v ∧ j < i.size := by
        intro j v h
        rw [Array.getElem?_extract] at h
        split at h
        · exact ⟨h, by omega⟩
        · cases h
      refine ⟨.agg (vs.extract off (off + i.size)), by simp [part, run_isAgg hu, ha, hagg, run_sizeOf hi], .agg (by simp only [Array.size_extract, hl]; omega) (fun j v h => ho _ v (key j v h).1) fun j v c h h2 => ?_⟩
      obtain ⟨h', hlt⟩ := key j v h
      rw [List.getElem?_take, if_pos hlt, List.getElem?_drop] at h2
      exact hrr _ v c h' h2
    · have hz : i.size = 1 := h1 hagg
      have hc : cs[off]? = some r := by
        have : ((cs.drop off).take i.size)[0]? = some r := by rw [hr]; rfl
        rw [List.getElem?_take, if_pos (by omega), List.getElem?_drop] at this
        simpa using this
      have hlt : off < vs.size := by omega
      refine ⟨vs[off], by simp [part, run_isAgg hu, ha, hagg, Array.getElem?_eq_getElem hlt], hrr off _ r (Array.getElem?_eq_getElem hlt) hc⟩

theorem fld_run {agg : Bool} {off sz : Nat} {x y : AV} {h h' : Hp} (e : (fld agg off sz x).run h = some (y, h')) :
    h' = h ∧ ∃ cs, x = .agg cs ∧ ((cs.drop off).take sz).length = sz ∧ (agg = true ∧ y = .agg ((cs.drop off).take sz) ∨ agg = false ∧ (cs.drop off).take sz = [y]) := by
  unfold fld at e
  split at e
  · rename_i cs
    obtain ⟨_, h1, e1, e2⟩ := M.bind_some e
    obtain ⟨hl, rfl⟩ := M.ok_some e1
    obtain ⟨rfl, hm⟩ := mk_some e2
    exact ⟨rfl, cs, rfl, by simpa using hl, hm⟩
  · exact (M.fail_some e).elim
theorem RA.aggv {v : Value} {cs : List AV} (h : RA ν g v (.agg cs)) : ∃ vs, v = .agg vs := by cases h; exact ⟨_, rfl⟩

theorem fld_ok (r : Rel ν k g) {s : TypeId} {f off sz : Nat} {agg : Bool} (ht : fldB P s f agg off sz = true) {v : Value} {x y : AV} {h' : Hp} (hv : RA ν g v x)
    (e : (fld agg off sz x).run g.h = some (y, h')) : Done ν k g h' y ((Instr.field s v f).run P g.w) := by
  unfold fldB at ht
  split at ht
  · rename_i fs hu
    split at ht
    · rename_i fd hf
      simp only [Bool.and_eq_true, beq_iff_eq] at ht
      obtain ⟨rfl, ht⟩ := ht
      obtain ⟨rfl, cs, rfl, hl, hm⟩ := fld_run e
      obtain ⟨vs, rfl⟩ := hv.aggv
      obtain ⟨u, hu', hR⟩ := part_ok ht hv hl hm g.w
      exact .same r (by simp [Instr.field, run_underlying hu, hf, asAgg, hu']) hR
    · cases ht
  · cases ht

theorem xarr_ok (r : Rel ν k g) {t : TypeId} {len e : Nat} {agg : Bool} (ht : xarrB P t agg len e = true) {v u : Value} {x z y : AV} {h' : Hp} (hv : RA ν g v x) (hu : RA ν g u z)
    (e' : (xarr agg len e x z).run g.h = some (y, h')) : Done ν k g h' y ((Instr.index t v u).run P g.w) := by
  unfold xarrB at ht
  split at ht
  · rename_i n el hu'
    simp only [Bool.and_eq_true, beq_iff_eq] at ht
    obtain ⟨rfl, ht⟩ := ht
    obtain ⟨m, h1, e1, e2⟩ := M.bind_some e'
    obtain ⟨rfl, kk, rfl⟩ := idx_some e1
    obtain rfl := hu.int
    obtain ⟨_, h2, e3, e4⟩ := M.bind_some e2
    obtain ⟨hm, rfl⟩ := M.ok_some e3
    have hm' : 0 ≤ m ∧ m < n := by simpa using hm
    obtain ⟨rfl, cs, rfl, hl, hmk⟩ := fld_run e4
    obtain ⟨vs, rfl⟩ := hv.aggv
    obtain ⟨d, i, _, hi, _, hs, _⟩ := tyB_spec ht
    obtain ⟨u, hu'', hR⟩ := part_ok ht hv hl hmk g.w
    exact .same r (by simp [Instr.index, run_underlying hu', asIntOf, hm', run_sizeOf hi, hs, hu'']) hR
  · cases ht

theorem xstr_ok (r : Rel ν k g) {t : TypeId} (ht : P.underlying t = some .string) {v u : Value} {x z y : AV} {h' : Hp} (hv : RA ν g v x) (hu : RA ν g u z)
    (e : (xstr x z).run g.h = some (y, h')) : Done ν k g h' y ((Instr.index t v u).run P g.w) := by
  unfold xstr at e
  split at e
  · rename_i s kk n
    obtain rfl := hv.str
    obtain rfl := hu.int
    obtain ⟨_, h1, e1, e2⟩ := M.bind_some e
    obtain ⟨hn, rfl⟩ := M.ok_some e1
    have hn' : 0 ≤ n := by simpa using hn
    split at e2
    · rename_i b hb
      obtain ⟨rfl, rfl⟩ := M.ret_some e2
      exact .same r (by simp [Instr.index, run_underlying ht, asIntOf, hn', hb]) mkInt
    · exact (M.fail_some e2).elim
  · exact (M.fail_some e).elim

/-! ### two plain values -/
theorem intBin_ok {op : BinOp} {t : TypeId} {kk k' : IntKind} {a b : Int} {z : IV} (h : intBin op kk k' a b = some z) (w : World) :
    ∃ v, (binOp op t (.int kk a) (.int k' b)).run P w = .ok v w ∧ RI ν g.I g.w v z := by
  cases op
  case shl =>
    simp only [intBin] at h
    split at h
    · cases h
    · rename_i hb; cases h
      exact ⟨_, by simp [binOp, Op.shift, hb], .int _ _⟩
  case shr =>
    simp only [intBin] at h
    split at h
    · cases h
    · rename_i hb; cases h
      exact ⟨_, by simp [binOp, Op.shift, hb], .int _ _⟩
  all_goals
    simp only [intBin] at h
    split at h
    case isFalse => cases h
    rename_i hk
    subst hk
  case quo =>
    split at h
    · cases h
    · rename_i hb; cases h; exact ⟨_, by simp [binOp, Op.intDiv, hb], .int _ _⟩
  case rem =>
    split at h
    · cases h
    · rename_i hb; cases h; exact ⟨_, by simp [binOp, Op.intDiv, hb], .int _ _⟩
  all_goals cases h
  case add | sub | mul => exact ⟨_, by simp [binOp, Op.intArith], .int _ _⟩
  case and | or | xor | andNot => exact ⟨_, by simp [binOp]; rfl, .int _ _⟩
  all_goals exact ⟨_, by simp [binOp, Op.intCmp], .bool _⟩

theorem strBin_ok {op : BinOp} {t : TypeId} {a b : ByteArray} {z : IV} (h : strBin op a b = some z) (w : World) :
    ∃ v, (binOp op t (.string a) (.string b)).run P w = .ok v w ∧ RI ν g.I g.w v z := by
  cases op <;> simp only [strBin] at h <;> (try cases h)
  case add =>
    split at h
    · rename_i hb; cases h
      refine ⟨.string (a ++ b), ?_, .str _⟩
      have : ¬ (9223372036854775807 : Int) < ((a.size : Int) + b.size) := by omega
      simp [binOp, Op.stringOp, this]
    · cases h
  all_goals exact ⟨_, by simp [binOp, Op.stringOp, sless, beq_toListBytes], .bool _⟩

theorem RA.clov {v : Value} {f : Nat} {fs cs : List AV} (h : RA ν g v (.clo f fs cs)) : ∃ f c1 c2, v = .func f c1 c2 := by cases h; exact ⟨_, _, _, rfl⟩
theorem RA.fnv {v : Value} {f : Nat} {cs : List IV} (h : RA ν g v (.iv (.fn f cs))) : ∃ f c1 c2, v = .func f c1 c2 := by cases h with | iv h => cases h; exact ⟨_, _, _, rfl⟩
def qOf2 (P : Program) (t : TypeId) (q : Nat) : Bool :=
  match q with
  | 0 => true
  | 1 => (match P.underlying t with | some .bool => true | _ => false)
  | 2 => (match P.underlying t with | some (.pointer el) => (P.info? el).isSome | _ => false)
  | 3 => (match P.underlying t with | some (.func _ _ _) => true | _ => false)
  | _ => true

theorem bin_ok (r : Rel ν k g) {op : BinOp} {t : TypeId} {q : Nat} (ht : qOf2 P t q = true) {a b : Operand} {v u : Value} {x z : AV} {y : IV} (hv : RA ν g v x) (hu : RA ν g u z) (e : bin op q x z = some y) :
    Done ν k g g.h (.iv y) ((do eqGuard op t a b v u; binOp op t v u : Sem Value).run P g.w) := by
  unfold bin at e
  split at e
  · obtain rfl := hv.int
    obtain rfl := hu.int
    obtain ⟨w', h1, h2⟩ := intBin_ok (ν := ν) (P := P) (g := g) (t := t) e g.w
    exact .same r (by simp [eqGuard_at_int, h1]) (.iv h2)
  · obtain rfl := hv.str
    obtain rfl := hu.str
    obtain ⟨w', h1, h2⟩ := strBin_ok (ν := ν) (P := P) (g := g) (t := t) e g.w
    exact .same r (by simp [eqGuard_at_string, h1]) (.iv h2)
  · obtain rfl := hv.bool
    obtain rfl := hu.bool
    have ht' : P.underlying t = some .bool := by
      simp only [qOf2] at ht
      split at ht
      · assumption
      · cases ht
    split at e
    · cases e; exact .same r (by simp only [Sem.run_bind, eqGuard_at_bool, Sem.run_pure, Result.andThen_ok]; exact run_eql_bool _ _ _ _ ht') mkBool
    · cases e
      refine .same r (v := .bool (!_)) ?_ mkBool
      simp only [Sem.run_bind, eqGuard_at_bool, Sem.run_pure, Result.andThen_ok, binOp]
      simp [run_equal_bool g.w t _ _ ht']
    · cases e
  case h_10 => cases e
  case h_4 | h_5 | h_6 =>
    have ht' : ∃ el, P.underlying t = some (.pointer el) := by
      simp only [qOf2] at ht
      split at ht
      · exact ⟨_, by assumption⟩
      · cases ht
    obtain ⟨el, ht'⟩ := ht'
    first
    | obtain rfl := hv.nilp
      obtain rfl := hu.nilp
      have key := ptr_eql (P := P) (fun d w => run_equalIn_nil d ht' w) a b g.w
      split at e
      · cases e; exact .same r key.1 mkBool
      · cases e; exact .same r key.2 mkBool
      · cases e
    | obtain ⟨b', off, rfl⟩ := hv.ptr
      obtain rfl := hu.nilp
      have key := ptr_eql (P := P) (fun d w => run_equalIn_nilr d ht' ⟨b', off, none⟩ w) a b g.w
      split at e
      · cases e; exact .same r key.1 mkBool
      · cases e; exact .same r key.2 mkBool
      · cases e
    | obtain rfl := hv.nilp
      obtain ⟨b', off, rfl⟩ := hu.ptr
      have key := ptr_eql (P := P) (fun d w => run_equalIn_nill d ht' ⟨b', off, none⟩ w) a b g.w
      split at e
      · cases e; exact .same r key.1 mkBool
      · cases e; exact .same r key.2 mkBool
      · cases e
  all_goals
    have ht' : ∃ p1 p2 p3, P.underlying t = some (.func p1 p2 p3) := by
      simp only [qOf2] at ht
      split at ht
      · exact ⟨_, _, _, by assumption⟩
      · cases ht
    obtain ⟨p1, p2, p3, ht'⟩ := ht'
    have nn : ∀ (d : Nat) (w : World), (Op.equalIn (d + 1) t .nilFunc .nilFunc).run P w = .ok true w := fun d w => by simp [Op.equalIn, run_underlying ht']
    have fn : ∀ (f : Fn) (c1 c2 : Array Value) (d : Nat) (w : World), (Op.equalIn (d + 1) t (.func f c1 c2) .nilFunc).run P w = .ok false w := fun f c1 c2 d w => by simp [Op.equalIn, run_underlying ht']
    have key : ∀ {c d : Value} {z : Bool}, (∀ (d' : Nat) (w : World), (Op.equalIn (d' + 1) t c d).run P w = .ok z w) → (eqGuard .eql t a b c d).run P g.w = .ok () g.w → (eqGuard .neq t a b c d).run P g.w = .ok () g.w →
        (binOp .eql t c d = (do pure (.bool (← Op.equal t c d)) : Sem Value)) → (binOp .neq t c d = (do pure (.bool (!(← Op.equal t c d))) : Sem Value)) →
        ((do eqGuard .eql t a b c d; binOp .eql t c d : Sem Value).run P g.w = .ok (.bool z) g.w) ∧ ((do eqGuard .neq t a b c d; binOp .neq t c d : Sem Value).run P g.w = .ok (.bool (!z)) g.w) := by
      intro c d z h g1 g2 b1 b2
      have h' : (Op.equal t c d).run P g.w = .ok z g.w := h 9999 g.w
      constructor
      · simp only [Sem.run_bind, g1, Result.andThen_ok, b1, h', Sem.run_pure]
      · simp only [Sem.run_bind, g2, Result.andThen_ok, b2, h', Sem.run_pure]
    first
    | obtain rfl : v = .nilFunc := by cases hv with | nul h => exact h
      obtain rfl : u = .nilFunc := by cases hu with | nul h => exact h
      have key := key nn (by simp [eqGuard]) (by simp [eqGuard]) rfl rfl
      split at e
      · cases e; exact .same r key.1 mkBool
      · cases e; exact .same r key.2 mkBool
      · cases e
    | obtain ⟨f, c1, c2, rfl⟩ : ∃ f c1 c2, v = .func f c1 c2 := hv.clov
      obtain rfl : u = .nilFunc := by cases hu with | nul h => exact h
      have key := key (fn f c1 c2) (by simp [eqGuard]) (by simp [eqGuard]) rfl rfl
      split at e
      · cases e; exact .same r key.1 mkBool
      · cases e; exact .same r key.2 mkBool
      · cases e
    | obtain ⟨f, c1, c2, rfl⟩ : ∃ f c1 c2, v = .func f c1 c2 := hv.fnv
      obtain rfl : u = .nilFunc := by cases hu with | nul h => exact h
      have key := key (fn f c1 c2) (by simp [eqGuard]) (by simp [eqGuard]) rfl rfl
      split at e
      · cases e; exact .same r key.1 mkBool
      · cases e; exact .same r key.2 mkBool
      · cases e

/-- two pointers, of which one leads to an object -/
theorem ref_ptr (r : Rel ν k g) {id ver i j : Nat} {ob : Ob} (hg : get g.h id = some ob) (hv : valid ob ver i = true) {v : Value} (h : RefAt g v id ver i j) : ∃ b off, v = .pointer (some ⟨b, off, none⟩) ∧ ∀ v', RefAt g v' id ver i j → v' = v := by
  unfold RefAt at h
  rw [hg] at h
  have key : ∀ v', RefAt g v' id ver i j → _ := fun v' h' => by unfold RefAt at h'; rw [hg] at h'; exact h'
  cases ob with
  | cells cs =>
    obtain ⟨rfl, rfl, b, hφ, rfl⟩ := h
    refine ⟨b, j, rfl, fun v' h' => ?_⟩
    obtain ⟨_, _, b', hφ', rfl⟩ := key v' h'
    rw [hφ] at hφ'; cases hφ'; rfl
  | icl cs =>
    obtain ⟨rfl, rfl, b, hφ, rfl⟩ := h
    refine ⟨b, j, rfl, fun v' h' => ?_⟩
    obtain ⟨_, _, b', hφ', rfl⟩ := key v' h'
    rw [hφ] at hφ'; cases hφ'; rfl
  | buf v' e es =>
    have hv' : v' = ver := by simpa [valid] using hv
    obtain ⟨b, hφ, rfl⟩ := h.2 hv'
    refine ⟨b, _, rfl, fun v' h' => ?_⟩
    obtain ⟨b', hφ', rfl⟩ := (key v' h').2 hv'
    rw [hφ] at hφ'; cases hφ'; rfl
  | imm v' e es =>
    have hv' : v' = ver := by simpa [valid] using hv
    obtain ⟨b, hφ, rfl⟩ := h.2 hv'
    refine ⟨b, _, rfl, fun v' h' => ?_⟩
    obtain ⟨b', hφ', rfl⟩ := (key v' h').2 hv'
    rw [hφ] at hφ'; cases hφ'; rfl
  | map _ => simp [valid] at hv

theorem run_equalIn_same (d : Nat) {t el : TypeId} {i : TypeInfo} (h : P.underlying t = some (.pointer el)) (hi : P.info? el = some i) (b off : Nat) (w : World) : (Op.equalIn (d + 1) t (.pointer (some ⟨b, off, none⟩)) (.pointer (some ⟨b, off, none⟩))).run P w = .ok true w := by
  simp [Op.equalIn, run_underlying h, run_sizeOf hi, sameAddr]

theorem binM_ok (r : Rel ν k g) {op : BinOp} {t : TypeId} {q : Nat} (ht : qOf2 P t q = true) {a b : Operand} {v u : Value} {x z y : AV} {h' : Hp} (hv : RA ν g v x) (hu : RA ν g u z) (e : (binM op q x z).run g.h = some (y, h')) :
    Done ν k g h' y ((do eqGuard op t a b v u; binOp op t v u : Sem Value).run P g.w) := by
  have tp : q = 2 → ∃ el i, P.underlying t = some (.pointer el) ∧ P.info? el = some i := by
    rintro rfl
    simp only [qOf2] at ht
    split at ht
    · obtain ⟨i, hi⟩ := Option.isSome_iff_exists.1 ht
      exact ⟨_, i, by assumption, hi⟩
    · cases ht
  unfold binM at e
  split at e
  · obtain ⟨el, ii, ht', hii⟩ := tp rfl
    obtain ⟨ob, h1, e1, e2⟩ := M.bind_some e
    obtain ⟨hg, rfl⟩ := M.look_some e1
    obtain ⟨_, h2, e3, e4⟩ := M.bind_some e2
    obtain ⟨hva, rfl⟩ := M.ok_some e3
    obtain rfl := hu.nilp
    cases hv with
    | ref _ hr =>
      obtain ⟨b', off, rfl, -⟩ := ref_ptr r hg hva hr
      have key := ptr_eql (P := P) (fun d w => run_equalIn_nilr d ht' ⟨b', off, none⟩ w) a b g.w
      split at e4
      · obtain ⟨rfl, rfl⟩ := M.ret_some e4; exact .same r key.1 mkBool
      · obtain ⟨rfl, rfl⟩ := M.ret_some e4; exact .same r key.2 mkBool
      · exact (M.fail_some e4).elim
  · obtain ⟨el, ii, ht', hii⟩ := tp rfl
    obtain ⟨ob, h1, e1, e2⟩ := M.bind_some e
    obtain ⟨hg, rfl⟩ := M.look_some e1
    obtain ⟨_, h2, e3, e4⟩ := M.bind_some e2
    obtain ⟨hva, rfl⟩ := M.ok_some e3
    obtain rfl := hv.nilp
    cases hu with
    | ref _ hr =>
      obtain ⟨b', off, rfl, -⟩ := ref_ptr r hg hva hr
      have key := ptr_eql (P := P) (fun d w => run_equalIn_nill d ht' ⟨b', off, none⟩ w) a b g.w
      split at e4
      · obtain ⟨rfl, rfl⟩ := M.ret_some e4; exact .same r key.1 mkBool
      · obtain ⟨rfl, rfl⟩ := M.ret_some e4; exact .same r key.2 mkBool
      · exact (M.fail_some e4).elim
  · rename_i id ver i j id' ver' i' j'
    obtain ⟨el, ii, ht', hii⟩ := tp rfl
    obtain ⟨ob, h1, e1, e2⟩ := M.bind_some e
    obtain ⟨hg, rfl⟩ := M.look_some e1
    obtain ⟨_, h2, e3, e4⟩ := M.bind_some e2
    obtain ⟨hva, rfl⟩ := M.ok_some e3
    simp only [Bool.and_eq_true, beq_iff_eq] at hva
    obtain ⟨⟨⟨⟨hva, rfl⟩, rfl⟩, rfl⟩, rfl⟩ := hva
    cases hv with
    | ref _ hr =>
      obtain ⟨b', off, rfl, hsame⟩ := ref_ptr r hg hva hr
      cases hu with
      | ref _ hr' =>
        obtain rfl := hsame _ hr'
        have key := ptr_eql (P := P) (fun d w => run_equalIn_same d ht' hii b' off w) a b g.w
        split at e4
        · obtain ⟨rfl, rfl⟩ := M.ret_some e4; exact .same r key.1 mkBool
        · obtain ⟨rfl, rfl⟩ := M.ret_some e4; exact .same r key.2 mkBool
        · exact (M.fail_some e4).elim
  · obtain ⟨y', h1, e1, e2⟩ := M.bind_some e
    obtain ⟨hb, rfl⟩ := M.lift_some e1
    obtain ⟨rfl, rfl⟩ := M.ret_some e2
    exact bin_ok r ht hv hu hb

/-! ### more of plain values -/
theorem eq0_ok {q : Nat} {t : TypeId} {x y : AV} {b : Bool} (e : eq0 q x y = some b) (ht : qtyB q (P.underlying t) = true) {v u : Value} (hv : RA ν g v x) (hu : RA ν g u y) (d : Nat) (w : World) :
    (Op.equalIn (d + 1) t v u).run P w = .ok b w := by
  unfold eq0 at e
  split at e
  · obtain rfl := hv.int
    obtain rfl := hu.int
    obtain ⟨kk, h1⟩ := qtyB_int ht
    simp only [Option.ite_none_right_eq_some, Option.some.injEq] at e
    obtain ⟨hk, rfl⟩ := e
    subst hk
    exact run_equalIn_int w d t _ _ _ _ h1
  · cases e
    obtain rfl := hv.bool
    obtain rfl := hu.bool
    exact run_equalIn_bool w d t _ _ (qtyB_bool ht)
  · cases e
    obtain rfl := hv.str
    obtain rfl := hu.str
    rw [run_equalIn_string w d t _ _ (qtyB_str ht), beq_toListBytes]
  · cases e
theorem eqs_ok {xs ys : Array Value} (d : Nat) (w : World) : ∀ (fs : List Field) (qs : List Nat) (i : Nat) (cs ds : List AV) (b : Bool), eqB P fs qs i = true → eqs qs cs ds = some b →
    (∀ (j : Nat) (c : AV), cs[j]? = some c → ∃ v, xs[i + j]? = some v ∧ RA ν g v c) → (∀ (j : Nat) (c : AV), ds[j]? = some c → ∃ v, ys[i + j]? = some v ∧ RA ν g v c) →
    (Op.eqFields (d + 1) xs ys fs).run P w = .ok b w := by
  intro fs
  induction fs with
  | nil =>
    intro qs i cs ds b h1 h2 _ _
    cases qs with
    | cons => simp [eqB] at h1
    | nil =>
      cases cs <;> cases ds <;> simp [eqs] at h2
      subst h2
      simp [Op.eqFields]
  | cons f fs ih =>
    intro qs i cs ds b h1 h2 hx hy
    cases qs with
    | nil => simp [eqB] at h1
    | cons q qs =>
      cases cs with
      | nil => simp [eqs] at h2
      | cons c cs =>
        cases ds with
        | nil => simp [eqs] at h2
        | cons d' ds =>
          simp only [eqB, Bool.and_eq_true] at h1
          obtain ⟨⟨⟨⟨hn, hoff⟩, hty⟩, hq⟩, hrest⟩ := h1
          simp only [eqs, Option.bind_eq_some_iff] at h2
          obtain ⟨b1, e1, b2, e2, e3⟩ := h2
          cases e3
          obtain ⟨v, hv, hvR⟩ := hx 0 c rfl
          obtain ⟨u, hu, huR⟩ := hy 0 d' rfl
          obtain ⟨dd, ii, h3, h4, h5, h6, _⟩ := tyB_spec hty
          have hoff' : f.offset = i := by simpa using hoff
          have hp1 : (part f.type xs f.offset).run P w = .ok v w := by simp [part, run_isAgg h3, h5, hoff', show xs[i]? = some v from hv]
          have hp2 : (part f.type ys f.offset).run P w = .ok u w := by simp [part, run_isAgg h3, h5, hoff', show ys[i]? = some u from hu]
          have he := eq0_ok (P := P) e1 hq hvR huR d w
          have hr := ih qs (i + 1) cs ds b2 hrest e2 (fun j c hc => by have := hx (j + 1) c (by simpa using hc); rwa [show i + 1 + j = i + (j + 1) by omega]) (fun j c hc => by
            have := hy (j + 1) c (by simpa using hc); rwa [show i + 1 + j = i + (j + 1) by omega])
          have hn' : f.name ≠ "_" := by simpa using hn
          simp only [Op.eqFields, if_pos hn', Sem.run_bind, hp1, hp2, he, Result.andThen_ok, Sem.run_ite]
          cases b1
          · simp
          · simp [hr]

theorem RA.agg_get {vs : Array Value} {cs : List AV} (h : RA ν g (.agg vs) (.agg cs)) (j : Nat) (c : AV) (hc : cs[j]? = some c) : ∃ v, vs[j]? = some v ∧ RA ν g v c := by
  cases h with
  | agg hn _ hr =>
    have hj : j < cs.length := by
      rcases Nat.lt_or_ge j cs.length with h' | h'
      · exact h'
      · rw [List.getElem?_eq_none h'] at hc; cases hc
    exact ⟨vs[j], Array.getElem?_eq_getElem (by omega), hr j _ c (Array.getElem?_eq_getElem (by omega)) hc⟩
theorem eqc_ok (r : Rel ν k g) {t : TypeId} {qs : List Nat} (ht : eqcB P t qs = true) {a b : Operand} {v u : Value} {cs ds : List AV} {z : Bool} (neg : Bool) (hv : RA ν g v (.agg cs)) (hu : RA ν g u (.agg ds)) (e : eqs qs cs ds = some z) :
    Done ν k g g.h (.iv (.bool (if neg then !z else z))) ((do eqGuard (if neg then .neq else .eql) t a b v u; binOp (if neg then .neq else .eql) t v u : Sem Value).run P g.w) := by
  unfold eqcB at ht
  split at ht
  · rename_i fs hut
    simp only [Bool.and_eq_true, Bool.not_eq_true'] at ht
    obtain ⟨⟨h1, h2⟩, h3⟩ := ht
    obtain ⟨xs, rfl⟩ := hv.aggv
    obtain ⟨ys, rfl⟩ := hu.aggv
    have hfs : P.fieldsOf t = fs := by simp [Program.fieldsOf, hut]
    have hrun := eqs_ok (ν := ν) (P := P) (g := g) (xs := xs) (ys := ys) 9998 g.w fs.toList qs 0 cs ds z h1 e (fun j c hc => by simpa using hv.agg_get j c hc) (fun j c hc => by simpa using hu.agg_get j c hc)
    have hst := run_equalIn_struct g.w 9999 t xs ys (by rw [hfs]; exact hut) h2
    rw [hfs] at hst
    cases neg
    · refine .same r ?_ mkBool
      simp only [Bool.false_eq_true, if_false, Sem.run_bind, run_eqGuard_agg _ _ _ _ _ _ _ h3, Result.andThen_ok, run_eql_struct, hst, hrun]
    · refine .same r ?_ mkBool
      simp only [if_true, Sem.run_bind, run_eqGuard_agg _ _ _ _ _ _ _ h3, Result.andThen_ok, run_neq_struct, hst, hrun]
  · cases ht

theorem un_ok (r : Rel ν k g) {op : UnOp} {v : Value} {x : AV} {y : IV} (hv : RA ν g v x) (e : un op x = some y) : Done ν k g g.h (.iv y) ((Op.unary op v).run P g.w) := by
  unfold un at e
  split at e
  · obtain rfl := hv.int
    split at e
    · cases e; exact .same r (by simp [Op.unary, Op.intArith]) mkInt
    · cases e; exact .same r (v := .int _ _) (by simp only [Op.unary, intBits_xor]; rfl) mkInt
    · cases e
  · obtain rfl := hv.bool
    split at e
    · cases e; exact .same r (by simp [Op.unary]) mkBool
    · cases e
  · cases e

theorem cvi_ok (r : Rel ν k g) {s d : TypeId} {kk : IntKind} (ht : cviB P s d kk = true) {v : Value} {x : AV} {n : Int} {h' : Hp} (hv : RA ν g v x) (e : (idx x).run g.h = some (n, h')) :
    Done ν k g g.h (.iv (.int kk (kk.wrap n))) ((convert s d v).run P g.w) := by
  obtain ⟨_, k', rfl⟩ := idx_some e
  obtain rfl := hv.int
  unfold cviB at ht
  simp only [Bool.and_eq_true] at ht
  obtain ⟨h1, h2⟩ := ht
  obtain ⟨sd, hs⟩ := Option.isSome_iff_exists.1 h1
  split at h2
  · rename_i k'' hd
    have : k'' = kk := by simpa using h2
    subst this
    exact .same r (by simp [convert, run_underlying hs, run_underlying hd, Conv.intToInt]) mkInt
  · cases h2
theorem cvs_ok (r : Rel ν k g) {s d : TypeId} (hs : P.underlying s = some .string) (hd : P.underlying d = some .string) {v : Value} {t : ByteArray} (hv : RA ν g v (.iv (.str t))) :
    Done ν k g g.h (.iv (.str t)) ((convert s d v).run P g.w) := by
  obtain rfl := hv.str
  exact .same r (by simp [convert, run_underlying hs, run_underlying hd]) mkStr
end
end Arx

/-
  ONE OPERATION, more: slices of slices, lengths, least and greatest, values built of parts.
-/
namespace Arx
open Go Go.RowKit Arb

section
variable {ν : Nat → Nat} {P : Program} {k : Cx} {g : Gh}

def RO (ν : Nat → Nat) (g : Gh) : Option Value → Option AV → Prop
  | none, none => True
  | some v, some x => RA ν g v x
  | _, _ => False

theorem bound_run {y : Nat} {o : Option AV} {n : Option Nat} {h h' : Hp} (e : (bound y o).run h = some (n, h')) {c : Option Value} (hc : RO ν g c o) :
    h' = h ∧ (o = none ∧ n = none ∧ c = none ∨ ∃ (kk : IntKind) (m : Nat), c = some (.int kk m) ∧ m ≤ y ∧ n = some m) := by
  unfold bound at e
  split at e
  · obtain ⟨rfl, rfl⟩ := M.ret_some e
    cases c with
    | none => exact ⟨rfl, .inl ⟨rfl, rfl, rfl⟩⟩
    | some v => exact hc.elim
  · rename_i kk m
    obtain ⟨_, h1, e1, e2⟩ := M.bind_some e
    obtain ⟨hm, rfl⟩ := M.ok_some e1
    obtain ⟨rfl, rfl⟩ := M.ret_some e2
    have hm' : 0 ≤ m ∧ m ≤ y := by simpa using hm
    cases c with
    | none => exact hc.elim
    | some v =>
      obtain rfl := RA.int hc
      exact ⟨rfl, .inr ⟨kk, m.toNat, by rw [Int.toNat_of_nonneg hm'.1], by omega, rfl⟩⟩
  · exact (M.fail_some e).elim

/-- the model's bounds; y: how far the upper one may go -/
theorem bounds_run {n y cap : Nat} (hy : n ≤ y) (hcap : y ≤ cap) {lo hi : Option AV} {cl ch : Option Value} {l h : Option Nat} {g0 g1 g2 : Hp} (isS : Bool)
    (eh : (bound y hi).run g0 = some (h, g1)) (el : (bound (h.getD n) lo).run g1 = some (l, g2)) (hh : RO ν g ch hi) (hl : RO ν g cl lo) (w : World) :
    g2 = g0 ∧ l.getD 0 ≤ h.getD n ∧ h.getD n ≤ y ∧ (Instr.sliceBounds isS n cap cl ch none).run P w = .ok (l.getD 0, h.getD n, cap) w := by
  obtain ⟨rfl, h1⟩ := bound_run eh hh
  obtain ⟨rfl, h2⟩ := bound_run el hl
  refine ⟨rfl, ?_⟩
  rcases h1 with ⟨-, rfl, rfl⟩ | ⟨k1, m1, rfl, hm1, rfl⟩
  · rcases h2 with ⟨-, rfl, rfl⟩ | ⟨k2, m2, rfl, hm2, rfl⟩
    · simp [Instr.sliceBounds, hy]
    · simp only [Option.getD_none] at hm2
      have : (Instr.sliceBound (.int k2 m2) n .sliceB).run P w = .ok m2 w := by simp [Instr.sliceBound, asIntOf, hm2]
      simp [Instr.sliceBounds, this, hm2, hy]
  · have hs : ∀ c, (Instr.sliceBound (.int k1 m1) cap c).run P w = .ok m1 w := fun c => by
      have : m1 ≤ cap := by omega
      simp [Instr.sliceBound, asIntOf, this]
    rcases h2 with ⟨-, rfl, rfl⟩ | ⟨k2, m2, rfl, hm2, rfl⟩
    · simp [Instr.sliceBounds, hs, hm1]
    · simp only [Option.getD_some] at hm2
      have : (Instr.sliceBound (.int k2 m2) m1 .sliceB).run P w = .ok m2 w := by simp [Instr.sliceBound, asIntOf, hm2]
      simp [Instr.sliceBounds, hs, this, hm2, hm1]

/-- what a row says of its slices -/
theorem OwnAt.row {id o n ver e L : Nat} {ob : Ob} (hg : get g.h id = some ob) (hl : rowLen ob ver e = some L) {v : Value} (h : OwnAt g v id o n ver) :
    SlAt g.w (g.φ id) e L o n v ∧ ∀ v' o' n', SlAt g.w (g.φ id) e L o' n' v' → OwnAt g v' id o' n' ver := by
  unfold OwnAt at h
  rw [hg] at h
  cases ob with
  | buf v' e' es =>
    simp only [rowLen] at hl
    split at hl
    · rename_i hh
      cases hl
      obtain ⟨rfl, rfl⟩ := hh
      exact ⟨h.2 rfl, fun v2 o' n' hs => by unfold OwnAt; rw [hg]; exact ⟨Nat.le_refl _, fun _ => hs⟩⟩
    · cases hl
  | imm v' e' es =>
    simp only [rowLen] at hl
    split at hl
    · rename_i hh
      cases hl
      obtain ⟨rfl, rfl⟩ := hh
      exact ⟨h.2 rfl, fun v2 o' n' hs => by unfold OwnAt; rw [hg]; exact ⟨Nat.le_refl _, fun _ => hs⟩⟩
    · cases hl
  | cells cs =>
    simp only [rowLen] at hl
    split at hl
    · rename_i hh
      cases hl
      obtain ⟨rfl, rfl⟩ := hh
      exact ⟨h.2, fun v2 o' n' hs => by unfold OwnAt; rw [hg]; exact ⟨rfl, hs⟩⟩
    · cases hl
  | icl cs =>
    simp only [rowLen] at hl
    split at hl
    · rename_i hh
      cases hl
      obtain ⟨rfl, rfl⟩ := hh
      exact ⟨h.2, fun v2 o' n' hs => by unfold OwnAt; rw [hg]; exact ⟨rfl, hs⟩⟩
    · cases hl
  | map _ => exact h.elim

theorem sliceAt_run {t el : TypeId} {i : TypeInfo} (hu : P.underlying t = some (.slice el)) (hi : P.info? el = some i) {a : Option Addr} {n cap l h : Nat} {cl ch : Option Value} {w : World}
    (hb : (Instr.sliceBounds true n cap cl ch none).run P w = .ok (l, h, cap) w) :
    (Instr.sliceAt t (.slice a n cap) cl ch none).run P w = .ok (.slice (if cap = l then a else a.map (·.add (l * i.size))) (h - l) (cap - l)) w := by
  have : (Instr.slice t (.slice a n cap) cl ch none).run P w = .ok (.slice (if cap = l then a else a.map (·.add (l * i.size))) (h - l) (cap - l)) w := by
    simp [Instr.slice, run_underlying hu, hb, run_sizeOf hi]
  simp [Instr.sliceAt, run_underlying hu, this]

theorem slc_ok (r : Rel ν k g) {t : TypeId} {e : Nat} (ht : sliceB P t e = true) {v : Value} {cl ch : Option Value} {x y : AV} {lo hi : Option AV} {h' : Hp} (hv : RA ν g v x) (hl : RO ν g cl lo) (hh : RO ν g ch hi)
    (e' : (slc e x lo hi).run g.h = some (y, h')) : Done ν k g h' y ((Instr.sliceAt t v cl ch none).run P g.w) := by
  obtain ⟨el, i, hu, hi', rfl⟩ := sliceB_spec ht
  cases hv with
  | undef => exact (M.fail_some e').elim
  | nul => exact (M.fail_some e').elim
  | agg => exact (M.fail_some e').elim
  | tup => exact (M.fail_some e').elim
  | ref => exact (M.fail_some e').elim
  | clo => exact (M.fail_some e').elim
  | iv hr =>
    cases hr with
    | nsl a e'' =>
      obtain ⟨hb, h2, e3, e4⟩ := M.bind_some e'
      obtain ⟨lb, h3, e5, e6⟩ := M.bind_some e4
      obtain ⟨rfl, h4, h5, h6⟩ := bounds_run (ν := ν) (g := g) (P := P) (n := 0) (y := 0) (cap := 0) (Nat.le_refl _) (Nat.le_refl _) true e3 e5 hh hl g.w
      obtain ⟨rfl, rfl⟩ := M.ret_some e6
      have hz : hb.getD 0 = 0 := by omega
      have hz' : lb.getD 0 = 0 := by omega
      refine .same r (sliceAt_run hu hi' h6) (.iv ?_)
      simp only [hz, hz', Nat.sub_zero, if_true]
      exact .nsl _ _
    | sl0 a cap e'' =>
      obtain ⟨_, h1, e1, e2⟩ := M.bind_some e'
      obtain ⟨-, rfl⟩ := M.ok_some e1
      obtain ⟨hb, h2, e3, e4⟩ := M.bind_some e2
      obtain ⟨lb, h3, e5, e6⟩ := M.bind_some e4
      obtain ⟨rfl, h4, h5, h6⟩ := bounds_run (ν := ν) (g := g) (P := P) (n := 0) (y := 0) (cap := cap) (Nat.le_refl _) (Nat.zero_le _) true e3 e5 hh hl g.w
      obtain ⟨rfl, rfl⟩ := M.ret_some e6
      simp only [List.length_nil] at *
      have hz : hb.getD 0 = 0 := by omega
      have hz' : lb.getD 0 = 0 := by omega
      refine .same r (sliceAt_run hu hi' h6) (.iv ?_)
      simp only [hz, hz', List.take_nil, List.drop_nil, Nat.sub_zero]
      exact .sl0 _ _ _
    | sl b off n cap e'' es f hI hn hcap hll hc hr =>
      obtain ⟨_, h1, e1, e2⟩ := M.bind_some e'
      obtain ⟨he, rfl⟩ := M.ok_some e1
      obtain ⟨hb, h2, e3, e4⟩ := M.bind_some e2
      obtain ⟨lb, h3, e5, e6⟩ := M.bind_some e4
      subst hn
      obtain ⟨rfl, h4, h5, h6⟩ := bounds_run (ν := ν) (g := g) (P := P) (Nat.le_refl _) hcap true e3 e5 hh hl g.w
      obtain ⟨rfl, rfl⟩ := M.ret_some e6
      have he' : e'' = i.size := by simpa using he
      subst he'
      refine .same r (sliceAt_run hu hi' h6) (.iv ?_)
      generalize lb.getD 0 = l at *
      generalize hb.getD es.length = h at *
      by_cases hlh : l = h
      · subst hlh
        have : (es.take l).drop l = [] := by simp
        rw [this, Nat.sub_self]
        exact .sl0 _ _ _
      · have hne : ¬ cap = l := by omega
        rw [if_neg hne]
        simp only [Option.map_some, Addr.add_lit]
        have hsub : ∀ (j : Nat) (c : List IV), ((es.take h).drop l)[j]? = some c → es[l + j]? = some c := by
          intro j c hj
          rw [List.getElem?_drop, List.getElem?_take] at hj
          split at hj
          · exact hj
          · cases hj
        refine .sl b _ _ _ i.size _ (fun a b => f (l + a) b) hI (by simp; omega) (by omega) (fun c hc' => hll c (List.mem_of_mem_take (List.mem_of_mem_drop hc'))) (fun a j c x h1 h2 => ?_) fun a j c x h1 h2 => hr _ _ _ _ (hsub a c h1) h2
        have := hc _ _ _ _ (hsub a c h1) h2
        rwa [Nat.add_mul, ← Nat.add_assoc] at this
    | _ => exact (M.fail_some e').elim
  | @own _ id o m ver ho1 ho =>
    obtain ⟨ob, h4, e7, e8⟩ := M.bind_some e'
    obtain ⟨hg, rfl⟩ := M.look_some e7
    obtain ⟨L, h5, e9, e10⟩ := M.bind_some e8
    obtain ⟨hL, rfl⟩ := M.lift_some e9
    obtain ⟨hb, h2, e3, e4⟩ := M.bind_some e10
    obtain ⟨lb, h3, e5, e6⟩ := M.bind_some e4
    obtain ⟨hs, hback⟩ := ho.row hg hL
    have hfit := hs.fits
    cases hφ : g.φ id with
    | none =>
      rw [hφ] at hs
      obtain ⟨⟨a, rfl⟩, rfl, rfl, rfl⟩ := hs
      obtain ⟨rfl, h4, h5, h6⟩ := bounds_run (ν := ν) (g := g) (P := P) (n := 0) (y := 0) (cap := 0) (Nat.le_refl _) (Nat.le_refl _) true e3 e5 hh hl g.w
      obtain ⟨rfl, rfl⟩ := M.ret_some e6
      refine .same r (sliceAt_run hu hi' h6) (.own rfl (hback _ _ _ ?_))
      rw [hφ]
      have h1 : hb.getD 0 = 0 := by omega
      have h2 : lb.getD 0 = 0 := by omega
      exact ⟨⟨a, by simp [h1, h2]⟩, by omega, by omega, rfl⟩
    | some b =>
      rw [hφ] at hs
      obtain ⟨x, cap, rfl, q2, qL, q3, q4, q5⟩ := hs
      obtain ⟨rfl, h4, h5, h6⟩ := bounds_run (ν := ν) (g := g) (P := P) (n := m) (y := L - o) (cap := cap) (by omega) (by omega) true e3 e5 hh hl g.w
      obtain ⟨rfl, rfl⟩ := M.ret_some e6
      refine .same r (sliceAt_run hu hi' h6) (.own rfl (hback _ _ _ ?_))
      rw [hφ]
      generalize lb.getD 0 = l at *
      generalize hb.getD m = h at *
      by_cases hcl : cap = l
      · rw [if_pos hcl]
        refine ⟨x, cap - l, rfl, by omega, by omega, by omega, ?_, fun hx c hc => ?_⟩
        · rcases q4 with q4 | q4
          · by_cases hl0 : l = 0
            · left; subst hl0; simpa using q4
            · right; omega
          · right; omega
        · by_cases hxo : x = o * i.size
          · exact q5 hxo c (Nat.lt_of_lt_of_le hc (Nat.mul_le_mul_right _ (by omega)))
          · have := q4.resolve_left hxo
            have hl0 : l = 0 := by omega
            subst hl0
            exact absurd (by simpa using hx) hxo
      · rw [if_neg hcl]
        refine ⟨x + l * i.size, cap - l, by simp [Addr.add_lit], by omega, by omega, by omega, ?_, fun hx c hc => ?_⟩
        · rcases q4 with q4 | q4
          · left; rw [q4, Nat.add_mul]
          · right; omega
        · have hxo : x = o * i.size := by rw [Nat.add_mul] at hx; omega
          exact q5 hxo c (Nat.lt_of_lt_of_le hc (Nat.mul_le_mul_right _ (by omega)))

/-- of the variable of an array -/
def slaB (P : Program) (t : TypeId) (n : Nat) : Bool :=
  match P.underlying t with
  | some (.array m e) => m == n && sizeB P e 1
  | some (.pointer a) => (match P.underlying a with
    | some (.array m e) => m == n && sizeB P e 1
    | _ => false)
  | _ => false
theorem slaB_spec {t n : Nat} (h : slaB P t n = true) : ∃ el i, P.info? el = some i ∧ i.size = 1 ∧ ∀ {b l h : Nat} {cl ch : Option Value} {w : World}, (Instr.sliceBounds false n n cl ch none).run P w = .ok (l, h, n) w →
    (Instr.sliceAt t (.pointer (some ⟨b, 0, none⟩)) cl ch none).run P w = .ok (.slice (some (if n = l then ⟨b, 0, none⟩ else ⟨b, l * i.size, none⟩)) (h - l) (n - l)) w := by
  unfold slaB at h
  split at h
  · rename_i m el hu
    simp only [Bool.and_eq_true, beq_iff_eq] at h
    obtain ⟨rfl, hsz⟩ := h
    obtain ⟨i, hi, his⟩ := sizeB_spec hsz
    refine ⟨el, i, hi, his, fun hb => ?_⟩
    simp [Instr.sliceAt, run_underlying hu, hb, run_sizeOf hi, Instr.sureAddr, Addr.add_lit]
  · rename_i a hu
    split at h
    · rename_i m el ha
      simp only [Bool.and_eq_true, beq_iff_eq] at h
      obtain ⟨rfl, hsz⟩ := h
      obtain ⟨i, hi, his⟩ := sizeB_spec hsz
      refine ⟨el, i, hi, his, fun hb => ?_⟩
      simp [Instr.sliceAt, Instr.slice, run_underlying hu, run_underlying ha, asAddr, hb, run_sizeOf hi, Addr.add_lit]
    · cases h
  · cases h
theorem sla_ok (r : Rel ν k g) {t : TypeId} {n : Nat} (ht : slaB P t n = true) {v : Value} {cl ch : Option Value} {x y : AV} {lo hi : Option AV} {h' : Hp} (hv : RA ν g v x) (hl : RO ν g cl lo) (hh : RO ν g ch hi)
    (e' : (sla n x lo hi).run g.h = some (y, h')) : Done ν k g h' y ((Instr.sliceAt t v cl ch none).run P g.w) := by
  obtain ⟨el, i, hi', his, hrun⟩ := slaB_spec ht
  unfold sla at e'
  split at e'
  case h_2 => exact (M.fail_some e').elim
  rename_i id
  obtain ⟨ob, h1, e1, e2⟩ := M.bind_some e'
  obtain ⟨hg, rfl⟩ := M.look_some e1
  cases ob with
  | buf _ _ _ => exact (M.fail_some e2).elim
  | imm _ _ _ => exact (M.fail_some e2).elim
  | icl _ => exact (M.fail_some e2).elim
  | map _ => exact (M.fail_some e2).elim
  | cells cs =>
    obtain ⟨_, h2, e3, e4⟩ := M.bind_some e2
    obtain ⟨hlen, rfl⟩ := M.ok_some e3
    have hlen' : cs.length = n := by simpa using hlen
    obtain ⟨hb, h3, e5, e6⟩ := M.bind_some e4
    obtain ⟨lb, h4, e7, e8⟩ := M.bind_some e6
    cases hv with
    | ref _ hr =>
      unfold RefAt at hr
      rw [hg] at hr
      obtain ⟨-, -, b, hφ, rfl⟩ := hr
      obtain ⟨rfl, q4, q5, q6⟩ := bounds_run (ν := ν) (g := g) (P := P) (n := n) (y := n) (cap := n) (Nat.le_refl _) (Nat.le_refl _) false e5 e7 hh hl g.w
      obtain ⟨rfl, rfl⟩ := M.ret_some e8
      refine .same r (hrun q6) (.own rfl ?_)
      unfold OwnAt
      rw [hg]
      refine ⟨rfl, ?_⟩
      rw [hφ]
      generalize lb.getD 0 = l at *
      generalize hb.getD n = h at *
      obtain ⟨b', hφ', _, _, hc⟩ := r.ob id _ hg
      rw [hφ] at hφ'; cases hφ'
      have hcell : ∀ c, c < n → (g.w.cell? ⟨b, c, none⟩).isSome = true := fun c hcm => by
        obtain ⟨u, hu', _⟩ := hc c _ (List.getElem?_eq_getElem (by omega))
        rw [hu']; rfl
      by_cases hlm : n = l
      · rw [if_pos hlm]
        refine ⟨0, n - l, rfl, by omega, by omega, by omega, ?_, fun hx c hc' => hcell c (by simp at hc'; omega)⟩
        by_cases h0 : l = 0
        · left; simp [h0]
        · right; omega
      · rw [if_neg hlm]
        exact ⟨l * i.size, n - l, rfl, by omega, by omega, by omega, .inl (by rw [his]), fun hx c hc' => hcell c (by simp at hc'; omega)⟩

theorem slcs_ok (r : Rel ν k g) {t : TypeId} (ht : P.underlying t = some .string) {v : Value} {cl ch : Option Value} {x y : AV} {lo hi : Option AV} {h' : Hp} (hv : RA ν g v x) (hl : RO ν g cl lo) (hh : RO ν g ch hi)
    (e : (slcs x lo hi).run g.h = some (y, h')) : Done ν k g h' y ((Instr.sliceAt t v cl ch none).run P g.w) := by
  unfold slcs at e
  split at e
  · rename_i s
    obtain rfl := hv.str
    obtain ⟨hb, h2, e3, e4⟩ := M.bind_some e
    obtain ⟨lb, h3, e5, e6⟩ := M.bind_some e4
    obtain ⟨rfl, h4, h5, h6⟩ := bounds_run (ν := ν) (g := g) (P := P) (n := s.size) (y := s.size) (cap := s.size) (Nat.le_refl _) (Nat.le_refl _) false e3 e5 hh hl g.w
    obtain ⟨rfl, rfl⟩ := M.ret_some e6
    refine .same r (v := .string (s.extract (lb.getD 0) (hb.getD s.size))) ?_ mkStr
    simp [Instr.sliceAt, Instr.slice, run_underlying ht, h6]
  · exact (M.fail_some e).elim

theorem slz_ok (r : Rel ν k g) {t : TypeId} {e : Nat} (ht : sliceB P t e = true) {v : Value} {cl : Option Value} {k1 k2 : IntKind} (hcl : cl = none ∨ ∃ k3, cl = some (.int k3 0)) {x y : AV} {h' : Hp} (hv : RA ν g v x)
    (e' : (slz e x).run g.h = some (y, h')) : Done ν k g h' y ((Instr.sliceAt t v cl (some (.int k1 0)) (some (.int k2 0))).run P g.w) := by
  obtain ⟨el, i, hu, hi, rfl⟩ := sliceB_spec ht
  have key : ∀ a n cap, Done ν k g g.h (.iv (.nsl i.size)) ((Instr.sliceAt t (.slice a n cap) cl (some (.int k1 0)) (some (.int k2 0))).run P g.w) := by
    intro a n cap
    obtain ⟨a', h⟩ := slz_run (k1 := k1) (k2 := k2) hu hi (a := a) (n := n) (cap := cap) hcl g.w
    exact .same r h (.iv (.nsl _ _))
  cases hv with
  | undef => exact (M.fail_some e').elim
  | nul => exact (M.fail_some e').elim
  | agg => exact (M.fail_some e').elim
  | tup => exact (M.fail_some e').elim
  | ref => exact (M.fail_some e').elim
  | clo => exact (M.fail_some e').elim
  | iv hr =>
    cases hr with
    | nsl a e'' => obtain ⟨rfl, rfl⟩ := M.ret_some e'; exact key _ _ _
    | sl0 a cap e'' => obtain ⟨rfl, rfl⟩ := M.ret_some e'; exact key _ _ _
    | sl b off n cap e'' es f hI hn hcap hll hc hr => obtain ⟨rfl, rfl⟩ := M.ret_some e'; exact key _ _ _
    | _ => exact (M.fail_some e').elim
  | @own _ id o m ver ho1 ho =>
    obtain ⟨ob, h1, e1, e2⟩ := M.bind_some e'
    obtain ⟨hg, rfl⟩ := M.look_some e1
    obtain ⟨L, h2, e3, e4⟩ := M.bind_some e2
    obtain ⟨hL, rfl⟩ := M.lift_some e3
    obtain ⟨rfl, rfl⟩ := M.ret_some e4
    obtain ⟨hs, -⟩ := ho.row hg hL
    cases hφ : g.φ id with
    | none => rw [hφ] at hs; obtain ⟨⟨a, rfl⟩, _⟩ := hs; exact key _ _ _
    | some b => rw [hφ] at hs; obtain ⟨x, cap, rfl, _⟩ := hs; exact key _ _ _

theorem len_ok (r : Rel ν k g) {t ty : TypeId} {str : Bool} (ht : lenB P t str = true) {v : Value} {x y : AV} {h' : Hp} (hv : RA ν g v x) (e : (len str x).run g.h = some (y, h')) :
    Done ν k g h' y ((Builtin.len_ #[t] ty #[v]).run P g.w) := by
  unfold lenB at ht
  split at ht
  · rename_i el hu
    have : str = false := by simpa using ht
    subst this
    have key : ∀ (a : Option Addr) (n cap : Nat), Done ν k g g.h (.iv (.int .i64 n)) ((Builtin.len_ #[t] ty #[.slice a n cap]).run P g.w) := fun a n cap =>
      .same r (v := .int .i64 n) (by simp [Builtin.len_, run_underlying hu, goInt]) mkInt
    cases hv with
    | undef => exact (M.fail_some e).elim
    | nul => exact (M.fail_some e).elim
    | agg => exact (M.fail_some e).elim
    | tup => exact (M.fail_some e).elim
    | ref => exact (M.fail_some e).elim
    | clo => exact (M.fail_some e).elim
    | iv hr =>
      cases hr with
      | nsl a e'' => obtain ⟨rfl, rfl⟩ := M.ret_some e; exact key _ _ _
      | sl0 a cap e'' => obtain ⟨rfl, rfl⟩ := M.ret_some e; exact key _ 0 _
      | sl b off n cap e'' es f hI hn hcap hll hc hr => obtain ⟨rfl, rfl⟩ := M.ret_some e; rw [hn]; exact key _ _ _
      | _ => exact (M.fail_some e).elim
    | @own _ id o m ver ho1 ho =>
      obtain ⟨ob, h1, e1, e2⟩ := M.bind_some e
      obtain ⟨hg, rfl⟩ := M.look_some e1
      unfold OwnAt at ho
      rw [hg] at ho
      have fin : ∀ {e'' L : Nat}, SlAt g.w (g.φ id) e'' L o m v → Done ν k g g.h (.iv (.int .i64 m)) ((Builtin.len_ #[t] ty #[v]).run P g.w) := by
        intro e'' L hs
        cases hφ : g.φ id with
        | none => rw [hφ] at hs; obtain ⟨⟨a, rfl⟩, rfl, _⟩ := hs; exact key _ _ _
        | some b => rw [hφ] at hs; obtain ⟨x, cap, rfl, _⟩ := hs; exact key _ _ _
      cases ob with
      | cells cs =>
        obtain ⟨_, h2, e3, e4⟩ := M.bind_some e2
        obtain ⟨hva, rfl⟩ := M.ok_some e3
        obtain ⟨rfl, rfl⟩ := M.ret_some e4
        exact fin ho.2
      | icl cs =>
        obtain ⟨_, h2, e3, e4⟩ := M.bind_some e2
        obtain ⟨hva, rfl⟩ := M.ok_some e3
        obtain ⟨rfl, rfl⟩ := M.ret_some e4
        exact fin ho.2
      | buf v' e'' es =>
        obtain ⟨_, h2, e3, e4⟩ := M.bind_some e2
        obtain ⟨hva, rfl⟩ := M.ok_some e3
        obtain ⟨rfl, rfl⟩ := M.ret_some e4
        exact fin (ho.2 (by simpa using hva))
      | imm v' e'' es =>
        obtain ⟨_, h2, e3, e4⟩ := M.bind_some e2
        obtain ⟨hva, rfl⟩ := M.ok_some e3
        obtain ⟨rfl, rfl⟩ := M.ret_some e4
        exact fin (ho.2 (by simpa using hva))
      | map _ => exact ho.elim
  · rename_i hu
    have : str = true := ht
    subst this
    unfold len at e
    split at e
    · rename_i h; cases h
    · rename_i h; cases h
    · rename_i h; cases h
    · obtain ⟨rfl, rfl⟩ := M.ret_some e
      obtain rfl := hv.str
      exact .same r (v := .int .i64 _) (by simp [Builtin.len_, run_underlying hu, goInt]) mkInt
    · exact (M.fail_some e).elim
  · cases ht

theorem mn_ok (P : Program) (w : World) : ∀ (xs : List AV) (vs : List Value) (a : Int) (kk : IntKind) (z : Int), mnI a xs kk = some z → vs.length = xs.length → (∀ (j : Nat) (v : Value) (x : AV), vs[j]? = some v → xs[j]? = some x → RA ν g v x) →
    (vs.foldlM Builtin.min2 (.int kk a)).run P w = .ok (.int kk z) w := by
  intro xs
  induction xs with
  | nil =>
    intro vs a kk z h hl _
    have : vs = [] := List.eq_nil_of_length_eq_zero hl
    subst this
    simp [mnI] at h; subst h; rfl
  | cons x xs ih =>
    intro vs a kk z h hl hr
    cases vs with
    | nil => simp at hl
    | cons v vs =>
      have h0 := hr 0 v x rfl rfl
      unfold mnI at h
      split at h
      · rename_i heq; cases heq
      · rename_i kk' b r heq
        cases heq
        split at h
        · rename_i hk; subst hk
          obtain rfl := h0.int
          simp only [List.foldlM_cons, Sem.run_bind, Builtin.min2, Sem.run_pure, Result.andThen_ok]
          exact ih vs _ _ _ h (by simpa using hl) fun j v' x' h1 h2 => hr (j + 1) v' x' (by simpa using h1) (by simpa using h2)
        · cases h
      · cases h
theorem mx_ok (P : Program) (w : World) : ∀ (xs : List AV) (vs : List Value) (a : Int) (kk : IntKind) (z : Int), mxI a xs kk = some z → vs.length = xs.length → (∀ (j : Nat) (v : Value) (x : AV), vs[j]? = some v → xs[j]? = some x → RA ν g v x) →
    (vs.foldlM Builtin.max2 (.int kk a)).run P w = .ok (.int kk z) w := by
  intro xs
  induction xs with
  | nil =>
    intro vs a kk z h hl _
    have : vs = [] := List.eq_nil_of_length_eq_zero hl
    subst this
    simp [mxI] at h; subst h; rfl
  | cons x xs ih =>
    intro vs a kk z h hl hr
    cases vs with
    | nil => simp at hl
    | cons v vs =>
      have h0 := hr 0 v x rfl rfl
      unfold mxI at h
      split at h
      · rename_i heq; cases heq
      · rename_i kk' b r heq
        cases heq
        split at h
        · rename_i hk; subst hk
          obtain rfl := h0.int
          simp only [List.foldlM_cons, Sem.run_bind, Builtin.max2, Sem.run_pure, Result.andThen_ok]
          exact ih vs _ _ _ h (by simpa using hl) fun j v' x' h1 h2 => hr (j + 1) v' x' (by simpa using h1) (by simpa using h2)
        · cases h
      · cases h

/-! ### parts put together -/
theorem cells_run {x : AV} {l : List AV} {h h' : Hp} (e : (cellsM x).run h = some (l, h')) {v : Value} (hv : RA ν g v x) :
    h' = h ∧ v.cells.size = l.length ∧ ∀ (j : Nat) (c : AV), l[j]? = some c → ∃ u, v.cells[j]? = some u ∧ u.oneCell' = true ∧ RA ν g u c := by
  have one : ∀ {z : AV}, (M.ret [z]).run h = some (l, h') → RA ν g v z → v.oneCell' = true → h' = h ∧ v.cells.size = l.length ∧ ∀ (j : Nat) (c : AV), l[j]? = some c → ∃ u, v.cells[j]? = some u ∧ u.oneCell' = true ∧ RA ν g u c := by
    intro z e hz h1
    obtain ⟨rfl, rfl⟩ := M.ret_some e
    have hc : v.cells = #[v] := by cases v <;> first | rfl | simp [Value.oneCell'] at h1
    refine ⟨rfl, by rw [hc]; rfl, fun j c hj => ?_⟩
    cases j with
    | zero => simp at hj; subst hj; exact ⟨v, by rw [hc]; rfl, h1, hz⟩
    | succ j => simp at hj
  cases hv with
  | undef => exact (M.fail_some e).elim
  | nul h => exact one e (.nul h) (by rw [h]; exact nulV_one _)
  | tup => exact (M.fail_some e).elim
  | agg hn h1 hr =>
    obtain ⟨rfl, rfl⟩ := M.ret_some e
    refine ⟨rfl, hn, fun j c hj => ?_⟩
    obtain ⟨u, hu, hR⟩ := RA.agg_get (.agg hn h1 hr) j c hj
    exact ⟨u, hu, h1 j u hu, hR⟩
  | iv hr => exact one e (.iv hr) hr.one
  | own h1 h2 => exact one e (.own h1 h2) h1
  | ref h1 h2 => exact one e (.ref h1 h2) h1
  | clo hm hs hn hr => exact one e (.clo hm hs hn hr) rfl

/-- cells, and what they are -/
def RC (ν : Nat → Nat) (g : Gh) (vs : Array Value) (cs : List AV) : Prop :=
  vs.size = cs.length ∧ ∀ (j : Nat) (c : AV), cs[j]? = some c → ∃ u, vs[j]? = some u ∧ u.oneCell' = true ∧ RA ν g u c
theorem RC.agg {vs : Array Value} {cs : List AV} (h : RC ν g vs cs) : RA ν g (.agg vs) (.agg cs) := by
  have key : ∀ (j : Nat) (v : Value), vs[j]? = some v → ∃ c, cs[j]? = some c ∧ v.oneCell' = true ∧ RA ν g v c := by
    intro j v hv
    have hj : j < vs.size := (Array.getElem?_eq_some_iff.1 hv).1
    have hc : cs[j]? = some (cs[j]'(by have := h.1; omega)) := List.getElem?_eq_getElem _
    obtain ⟨u, hu, h1, hR⟩ := h.2 j _ hc
    rw [hv] at hu; cases hu
    exact ⟨_, hc, h1, hR⟩
  exact .agg h.1 (fun j v hv => let ⟨_, _, h1, _⟩ := key j v hv; h1) fun j v c hv hc => by
    obtain ⟨c', hc', _, hR⟩ := key j v hv
    rw [hc] at hc'; cases hc'; exact hR

theorem RC.splice {vs us : Array Value} {cs l : List AV} {o : Nat} (h : RC ν g vs cs) (hu : RC ν g us l) (hfit : o + l.length ≤ cs.length) :
    RC ν g ((us.toList.zipIdx).foldl (fun cs (p : Value × Nat) => cs.setIfInBounds (o + p.2) p.1) vs) (splice cs o l) := by
  have hs := fillFold_spec o us.toList 0 vs (by have := h.1; have := hu.1; simp; omega)
  simp only [Nat.add_zero, Array.length_toList] at hs
  refine ⟨by rw [hs.1, splice_length _ _ _ hfit, h.1], fun j c hc => ?_⟩
  rw [splice_get _ _ _ hfit] at hc
  rw [hs.2 j]
  have := hu.1
  by_cases hj : o ≤ j ∧ j < o + l.length
  · rw [if_pos hj] at hc
    rw [if_pos (by omega)]
    simpa using hu.2 _ c hc
  · rw [if_neg hj] at hc
    rw [if_neg (by omega)]
    exact h.2 j c hc
end
end Arx

/-
  ONE OPERATION, the rest: what makes variables; constants.
-/
namespace Arx
open Go Go.RowKit Arb

section
variable {ν : Nat → Nat} {P : Program} {k : Cx} {g : Gh}

theorem RC.mono {g' : Gh} {vs : Array Value} {cs : List AV} (h : RC ν g vs cs) (hm : Mono ν g g') : RC ν g' vs cs :=
  ⟨h.1, fun j c hc => let ⟨u, h1, h2, h3⟩ := h.2 j c hc; ⟨u, h1, h2, hm _ _ h3⟩⟩

/-- a new variable -/
theorem newVar_ok (r : Rel ν k g) {slot : Nat} {t : TypeId} {vs : Array Value} {cs : List AV} (hv : RC ν g vs cs) (hty : TyOK ν (g.w.alloc (.cells vs t)) slot g.w.heap.size) {h' : Hp} {y : AV}
    (e : ((M.fresh slot).bind fun _ => (M.write slot (.cells cs)).bind fun _ => M.ret (.ref slot 0 0 0)).run g.h = some (y, h')) :
    Done ν k g h' y (.ok (.pointer (some ⟨g.w.heap.size, 0, none⟩)) (g.w.alloc (.cells vs t))) := by
  obtain ⟨_, h1, e1, e2⟩ := M.bind_some e
  obtain ⟨hf, rfl⟩ := M.fresh_some e1
  obtain ⟨_, h3, e5, e6⟩ := M.bind_some e2
  obtain rfl := M.write_some e5
  obtain ⟨rfl, rfl⟩ := M.ret_some e6
  have hn := r.new (s := slot) (ob := .cells cs) (p := some g.w.heap.size) (w' := g.w.alloc (.cells vs t)) hf (by simp) rfl rfl rfl (fun b hb => alloc_old _ _ _ hb)
    (fun b h => by cases h; exact Nat.le_refl _) (fun b h => by cases h; exact hty) fun hm => by
      refine ⟨g.w.heap.size, updφ_same _ _ _, fun hi => ?_, ⟨by simp, fun o => World.frozen?_alloc_new _ _ _ _⟩, fun j c hc => ?_⟩
      · exact Nat.lt_irrefl _ (r.small _ hi)
      · obtain ⟨u, h1, h2, h3⟩ := hv.2 j c hc
        exact ⟨u, by rw [World.cell?_alloc_new]; exact h1, h2, hm _ _ h3⟩
  refine ⟨_, _, rfl, rfl, hn.1, hn.2, .ref rfl ?_⟩
  unfold RefAt
  simp only [get_set_same, updφ_same]
  exact ⟨trivial, trivial, _, rfl, rfl⟩

theorem shape_alloc_new (w : World) (vs : Array Value) (t : TypeId) : (w.alloc (.cells vs t)).shape? w.heap.size = some (t, vs.size) := by
  unfold World.shape?
  rw [heap_alloc_new]
theorem box_ok (r : Rel ν k g) {slot tag : Nat} {t : TypeId} (htag : (tag == 0 || tag == 1 && t == ν tyBld) = true) {v : Value} {x y : AV} (hv : RA ν g v x) {h' : Hp}
    (e : ((cellsM x).bind fun xs => (M.ok (tag == 0 || tag == 1 && xs.length == 2)).bind fun _ => (M.fresh (4 * slot + tag)).bind fun _ => (M.write (4 * slot + tag) (.cells xs)).bind fun _ => M.ret (.ref (4 * slot + tag) 0 0 0)).run g.h = some (y, h')) :
    Done ν k g h' y ((Instr.box t v).run P g.w) := by
  obtain ⟨xs, h1, e1, e2⟩ := M.bind_some e
  obtain ⟨rfl, hs, hc⟩ := cells_run e1 hv
  obtain ⟨_, h2, e3, e4⟩ := M.bind_some e2
  obtain ⟨hok, rfl⟩ := M.ok_some e3
  have hty : TyOK ν (g.w.alloc (.cells v.cells t)) (4 * slot + tag) g.w.heap.size := by
    simp only [Bool.or_eq_true, Bool.and_eq_true, beq_iff_eq] at htag hok
    by_cases h0 : tag = 0
    · subst h0; exact .zero (by omega)
    · obtain ⟨rfl, rfl⟩ := htag.resolve_left h0
      have h2 := (hok.resolve_left h0).2
      exact ⟨fun _ => by rw [shape_alloc_new, hs, h2], by omega, by omega⟩
  have := newVar_ok (t := t) r ⟨hs, hc⟩ hty e4
  simpa [Instr.box, newVar, newRow] using this

/-- a constant of the model -/
def kVal : Value → AV → Bool
  | v, .iv x => cVal v x
  | .nilFunc, .nul 0 => true
  | .nilIface, .nul 1 => true
  | .map none, .nul 2 => true
  | _, _ => false
theorem kVal_ok {v : Value} {x : AV} (h : kVal v x = true) (g : Gh) : v.oneCell' = true ∧ RA ν g v x := by
  unfold kVal at h
  split at h
  · have hR : RI ν g.I g.w v _ := cVal_ok h _ _
    exact ⟨hR.one, .iv hR⟩
  · exact ⟨rfl, .nul rfl⟩
  · exact ⟨rfl, .nul rfl⟩
  · exact ⟨rfl, .nul rfl⟩
  · cases h
def kVals : List Value → List AV → Bool
  | [], [] => true
  | v :: vs, x :: xs => kVal v x && kVals vs xs
  | _, _ => false
theorem kVals_ok : ∀ {vs : List Value} {xs : List AV}, kVals vs xs = true → vs.length = xs.length ∧ ∀ (j : Nat) (x : AV), xs[j]? = some x → ∃ v, vs[j]? = some v ∧ kVal v x = true
  | [], [], _ => ⟨rfl, fun j x h => by simp at h⟩
  | v :: vs, x :: xs, h => by
    simp only [kVals, Bool.and_eq_true] at h
    obtain ⟨h1, h2⟩ := kVals_ok h.2
    refine ⟨by simp [h1], fun j y hj => ?_⟩
    cases j with
    | zero => simp at hj; subst hj; exact ⟨v, rfl, h.1⟩
    | succ j => simpa using h2 j y (by simpa using hj)
  | [], _ :: _, h => by simp [kVals] at h
  | _ :: _, [], h => by simp [kVals] at h
theorem kVals_RC {vs : Array Value} {xs : List AV} (h : kVals vs.toList xs = true) : RC ν g vs xs := by
  obtain ⟨h1, h2⟩ := kVals_ok h
  refine ⟨by simpa using h1, fun j c hc => ?_⟩
  obtain ⟨v, hv, hcv⟩ := h2 j c hc
  obtain ⟨h3, h4⟩ := kVal_ok (ν := ν) hcv g
  exact ⟨v, by simpa using hv, h3, h4⟩

def zeroK (P : Program) (t : TypeId) (z : List AV) : Bool :=
  match P.info? t with
  | some i => (match i.zero with | some v => kVals v.cells.toList z | none => false)
  | none => false
theorem zeroK_spec {t : TypeId} {z : List AV} (h : zeroK P t z = true) : ∃ i v, P.info? t = some i ∧ i.zero = some v ∧ kVals v.cells.toList z = true := by
  unfold zeroK at h
  split at h
  · rename_i i hi
    split at h
    · rename_i v hv; exact ⟨i, v, hi, hv, h⟩
    · cases h
  · cases h
def tagB (ν : Nat → Nat) (t : TypeId) (tag : Nat) (z : List AV) : Bool := tag == 0 || (tag == 1 && t == ν tyBld && z.length == 2)
theorem allocI_ok (r : Rel ν k g) {slot tag : Nat} {t : TypeId} {z : List AV} (ht : zeroK P t z = true) (htag : tagB ν t tag z = true) {y : AV} {h' : Hp}
    (e : ((M.ok (Nat.ble tag 1)).bind fun _ => (M.fresh (4 * slot + tag)).bind fun _ => (M.write (4 * slot + tag) (.cells z)).bind fun _ => M.ret (.ref (4 * slot + tag) 0 0 0)).run g.h = some (y, h')) :
    Done ν k g h' y ((Instr.alloc t true (.tuple #[])).run P g.w) := by
  obtain ⟨i, v, hi, hz, hc⟩ := zeroK_spec ht
  obtain ⟨_, h1, e1, e2⟩ := M.bind_some e
  obtain ⟨-, rfl⟩ := M.ok_some e1
  have hty : TyOK ν (g.w.alloc (.cells v.cells t)) (4 * slot + tag) g.w.heap.size := by
    simp only [tagB, Bool.or_eq_true, Bool.and_eq_true, beq_iff_eq] at htag
    rcases htag with rfl | ⟨⟨rfl, rfl⟩, h2⟩
    · exact .zero (by omega)
    · have := (kVals_ok hc).1
      simp only [Array.length_toList] at this
      exact ⟨fun _ => by rw [shape_alloc_new, this, h2], by omega, by omega⟩
  have := newVar_ok (t := t) r (kVals_RC hc) hty e2
  simpa [Instr.alloc, zeroValue, typeInfo, hi, hz, newVar, newRow] using this
end
end Arx

/-
  ONE OPERATION, the rest: stores.
-/
namespace Arx
open Go Go.RowKit Arb

section
variable {ν : Nat → Nat} {P : Program} {k : Cx} {g : Gh}

theorem SlAt.put {w w' : World} {b e o n L L' : Nat} {v : Value} (h : SlAt w (some b) e L o n v) (hl : L = L')
    (hc : ∀ c, (w.cell? ⟨b, c, none⟩).isSome = true → (w'.cell? ⟨b, c, none⟩).isSome = true) : SlAt w' (some b) e L' o n v := by
  subst hl
  obtain ⟨x, cap, e1, e2, eL, e3, e4, e5⟩ := h
  exact ⟨x, cap, e1, e2, eL, e3, e4, fun hx c h' => hc c (e5 hx c h')⟩

theorem shape_setCells (w : World) (b : Nat) : ∀ (vs : List Value) (o c : Nat), (w.setCells b o vs).shape? c = w.shape? c := by
  intro vs
  induction vs generalizing w with
  | nil => intro o c; rfl
  | cons v vs ih =>
    intro o c
    rw [World.setCells, ih]
    simp only [World.shape?, World.setCell, Array.getElem?_modify]
    by_cases h : b = c
    · subst h
      cases hb : w.heap[b]? with
      | none => simp
      | some ob => cases ob <;> simp
    · simp [h]

/-- a row is written in place; its length stays, or it is a new version -/
theorem Rel.put (r : Rel ν k g) {id v e b off v' : Nat} {es es' : List (List AV)} {vs : List Value} (hg : get g.h id = some (.buf v e es)) (hφ : g.φ id = some b)
    (hcells : ∀ j, j < vs.length → (g.w.cell? ⟨b, off + j, none⟩).isSome = true) (hv : v' = v ∧ es.length = es'.length ∨ v' = v + 1)
    (hrow : ∀ g' : Gh, g'.w = g.w.setCells b off vs → Mono ν g g' → RowG ν g' b e es') :
    Rel ν k { g with w := g.w.setCells b off vs, h := set g.h id (.buf v' e es') } ∧ Mono ν g { g with w := g.w.setCells b off vs, h := set g.h id (.buf v' e es') } := by
  obtain ⟨hnI, hsoft⟩ : ¬ g.I b ∧ Soft g.w b := by
    obtain ⟨b', h1, h2, h3, _⟩ := r.ob id _ hg
    rw [hφ] at h1; cases h1; exact ⟨h2, h3⟩
  have hrest := setCells_rest g.w b vs off
  have ht := r.turn (s := id) (ob := .buf v' e es') (p := g.φ id) (w' := g.w.setCells b off vs) (I' := g.I) hg (fun b' h => by rw [hφ] at h; cases h; exact hnI) (by rw [setCells_size]; exact Nat.le_refl _) hrest.1 hrest.2.1 hrest.2.2
    (fun b' _ hne => setCells_other _ _ _ _ _ fun he => hne (by rw [he]; exact hφ)) (fun _ h => h) (fun _ h => .inl h) (.inl rfl) (fun b' h => (r.ty id _ b' hg h).same (shape_setCells _ _ _ _ _))
    (fun u o n ver ho => by
      unfold OwnAt at ho ⊢
      rw [hg] at ho
      simp only [get_set_same, updφ_same]
      obtain ⟨h1, h2⟩ := ho
      rcases hv with ⟨rfl, hl⟩ | rfl
      · refine ⟨h1, fun he => ?_⟩
        have := h2 he
        rw [hφ] at this ⊢
        exact this.put hl fun c hc => setCells_some _ _ _ _ hcells _ hc
      · exact ⟨by omega, fun he => by omega⟩)
    (fun u ver i j hr => by
      unfold RefAt at hr ⊢
      rw [hg] at hr
      simp only [get_set_same, updφ_same]
      obtain ⟨h1, h2⟩ := hr
      rcases hv with ⟨rfl, hl⟩ | rfl
      · exact ⟨h1, h2⟩
      · exact ⟨by omega, fun he => by omega⟩)
    (fun _ hm => ⟨b, (updφ_same _ _ _).trans hφ, hnI, ⟨by rw [setCells_size]; exact hsoft.1, fun o => by rw [World.frozen?_setCells]; exact hsoft.2 o⟩, hrow _ rfl hm⟩)
  rw [updφ_self] at ht
  exact ht

theorem RowG.len {b e : Nat} {es : List (List AV)} (h : RowG ν g b e es) {i j : Nat} {c : List AV} {x : AV} (h1 : es[i]? = some c) (h2 : c[j]? = some x) : j < e := by
  have := lt_of_some h2
  rwa [h.1 c (List.mem_of_getElem? h1)] at this

/-- one element's cells, written -/
theorem row_set {g' : Gh} {b e i j : Nat} {es : List (List AV)} {c l : List AV} {vs : List Value} (hrow : RowG ν g b e es) (hc : es[i]? = some c) (hfit : j + l.length ≤ e) (hl : vs.length = l.length)
    (hv : ∀ (m : Nat) (x : AV), l[m]? = some x → ∃ u, vs[m]? = some u ∧ u.oneCell' = true ∧ RA ν g u x) (hex : ∀ m, m < vs.length → (g.w.cell? ⟨b, i * e + j + m, none⟩).isSome = true)
    (hw : g'.w = g.w.setCells b (i * e + j) vs) (hm : Mono ν g g') : RowG ν g' b e (es.set i (splice c j l)) := by
  have hce : c.length = e := hrow.1 c (List.mem_of_getElem? hc)
  have hi := lt_of_some hc
  refine ⟨fun c' hc' => ?_, fun i2 j2 c' x' h1 h2 => ?_⟩
  · rcases List.mem_or_eq_of_mem_set hc' with h | h
    · exact hrow.1 c' h
    · rw [h, splice_length _ _ _ (by omega)]; exact hce
  · rw [hw, setCells_cell _ _ _ _ hex]
    rw [List.getElem?_set] at h1
    by_cases h2i : i = i2
    · subst h2i
      rw [if_pos rfl, if_pos hi] at h1
      cases h1
      rw [splice_get _ _ _ (by omega)] at h2
      by_cases hin : j ≤ j2 ∧ j2 < j + l.length
      · rw [if_pos hin] at h2
        rw [if_pos (by omega)]
        obtain ⟨u, hu, h3, h4⟩ := hv _ x' h2
        exact ⟨u, by rw [show i * e + j2 - (i * e + j) = j2 - j by omega]; exact hu, h3, hm _ _ h4⟩
      · rw [if_neg hin] at h2
        rw [if_neg (by omega)]
        obtain ⟨u, h3, h4, h5⟩ := hrow.2 i j2 c x' hc h2
        exact ⟨u, h3, h4, hm _ _ h5⟩
    · rw [if_neg h2i] at h1
      have hj2 := hrow.len h1 h2
      have hapart : ¬ (i * e + j ≤ i2 * e + j2 ∧ i2 * e + j2 < i * e + j + vs.length) := by
        intro ⟨ha, hb⟩
        rcases Nat.lt_or_gt_of_ne h2i with hlt | hlt
        · have : i * e + e ≤ i2 * e := by rw [← Nat.succ_mul]; exact Nat.mul_le_mul_right _ hlt
          omega
        · have : i2 * e + e ≤ i * e := by rw [← Nat.succ_mul]; exact Nat.mul_le_mul_right _ hlt
          omega
      rw [if_neg hapart]
      obtain ⟨u, h3, h4, h5⟩ := hrow.2 i2 j2 c' x' h1 h2
      exact ⟨u, h3, h4, hm _ _ h5⟩

theorem store_at (r : Rel ν k g) {sz : Nat} {va vx : Value} {a x y : AV} (hva : RA ν g va a) (hvx : RA ν g vx x) {h' : Hp}
    (e' : (store sz a x).run g.h = some (y, h')) :
    ∃ b off g', va = .pointer (some ⟨b, off, none⟩) ∧ y = .tup [] ∧ g'.w = g.w.setCells b off vx.cells.toList ∧ vx.cells.size = sz ∧ (∀ o, g.w.frozen? ⟨b, o, none⟩ = false) ∧ (∀ m, m < sz → (g.w.cell? ⟨b, off + m, none⟩).isSome = true) ∧
      g'.h = h' ∧ Rel ν k g' ∧ Mono ν g g' ∧ ∀ u ∈ vx.cells.toList, u.oneCell' = true := by
  obtain ⟨xs, h1, e1, e2⟩ := M.bind_some e'
  obtain ⟨rfl, hs, hc⟩ := cells_run e1 hvx
  obtain ⟨_, h2, e3, e4⟩ := M.bind_some e2
  obtain ⟨hl, rfl⟩ := M.ok_some e3
  have hl' : xs.length = sz := by simpa using hl
  have hone : ∀ u ∈ vx.cells.toList, u.oneCell' = true := by
    intro u hu
    obtain ⟨j, hj, rfl⟩ := List.getElem_of_mem hu
    simp only [Array.length_toList] at hj
    obtain ⟨u', h1, h2, _⟩ := hc j _ (List.getElem?_eq_getElem (by omega))
    rw [Array.getElem?_eq_getElem hj] at h1
    cases h1
    simpa using h2
  split at e4
  case h_2 => exact (M.fail_some e4).elim
  rename_i id ver i' j
  cases hva with
  | ref hr1 hr =>
    obtain ⟨ob, h3, e5, e6⟩ := M.bind_some e4
    obtain ⟨hg, rfl⟩ := M.look_some e5
    unfold RefAt at hr
    rw [hg] at hr
    cases ob with
    | imm _ _ _ => exact (M.fail_some e6).elim
    | icl _ => exact (M.fail_some e6).elim
    | map _ => exact (M.fail_some e6).elim
    | cells cs =>
      obtain ⟨rfl, rfl, b, hφ, rfl⟩ := hr
      obtain ⟨_, h4, e7, e8⟩ := M.bind_some e6
      obtain ⟨hfit, rfl⟩ := M.ok_some e7
      have hfit' : j + sz ≤ cs.length := by simpa using hfit
      obtain ⟨_, h6, e11, e12⟩ := M.bind_some e8
      obtain rfl := M.write_some e11
      obtain ⟨rfl, rfl⟩ := M.ret_some e12
      obtain ⟨b', hφ', hnI, hsoft, hcc⟩ := r.ob id _ hg
      rw [hφ] at hφ'; cases hφ'
      have hex : ∀ m, m < vx.cells.toList.length → (g.w.cell? ⟨b, j + m, none⟩).isSome = true := by
        intro m hm
        simp only [Array.length_toList] at hm
        obtain ⟨u, hu, _⟩ := hcc (j + m) _ (List.getElem?_eq_getElem (by omega))
        rw [hu]; rfl
      have hrest := setCells_rest g.w b vx.cells.toList j
      have ht := r.turn (s := id) (ob := .cells (splice cs j xs)) (p := g.φ id) (w' := g.w.setCells b j vx.cells.toList) (I' := g.I) hg (fun b' h => by rw [hφ] at h; cases h; exact hnI)
        (by rw [setCells_size]; exact Nat.le_refl _) hrest.1 hrest.2.1 hrest.2.2
        (fun b' _ hne => setCells_other _ _ _ _ _ fun he => hne (by rw [he]; exact hφ)) (fun _ h => h) (fun _ h => .inl h) (.inl rfl) (fun b' h => (r.ty id _ b' hg h).same (shape_setCells _ _ _ _ _))
        (fun u o n ver ho => by
          unfold OwnAt at ho ⊢
          rw [hg] at ho
          simp only [get_set_same, updφ_same]
          refine ⟨ho.1, ?_⟩
          have := ho.2
          rw [hφ] at this ⊢
          exact this.put (by rw [splice_length _ _ _ (by omega)]) fun c hc => setCells_some _ _ _ _ hex _ hc)
        (fun u ver m n hr => by
          unfold RefAt at hr ⊢
          rw [hg] at hr
          simp only [get_set_same, updφ_same]
          exact hr)
        (fun _ hm => by
          refine ⟨b, (updφ_same _ _ _).trans hφ, hnI, ⟨by rw [setCells_size]; exact hsoft.1, fun o => by rw [World.frozen?_setCells]; exact hsoft.2 o⟩, fun m c hm' => ?_⟩
          rw [splice_get _ _ _ (by omega)] at hm'
          simp only []
          rw [setCells_cell _ _ _ _ hex]
          simp only [Array.length_toList, hs, hl']
          by_cases hin : j ≤ m ∧ m < j + sz
          · rw [if_pos (by omega)] at hm'
            rw [if_pos hin]
            obtain ⟨u, h1, h2, h3⟩ := hc _ c hm'
            exact ⟨u, by simpa using h1, h2, hm _ _ h3⟩
          · rw [if_neg (by omega)] at hm'
            rw [if_neg hin]
            obtain ⟨u, h1, h2, h3⟩ := hcc m c hm'
            exact ⟨u, h1, h2, hm _ _ h3⟩)
      rw [updφ_self] at ht
      exact ⟨b, j, _, rfl, rfl, rfl, by omega, hsoft.2, by simpa [hs, hl'] using hex, rfl, ht.1, ht.2, hone⟩
    | buf v e es =>
      obtain ⟨_, h6, e11, e12⟩ := M.bind_some e6
      obtain ⟨hok, rfl⟩ := M.ok_some e11
      simp only [Bool.and_eq_true, beq_iff_eq, Nat.ble_eq] at hok
      obtain ⟨hv, hfit⟩ := hok
      obtain ⟨c, h7, e13, e14⟩ := M.bind_some e12
      obtain ⟨hci, rfl⟩ := M.lift_some e13
      obtain ⟨_, h8, e15, e16⟩ := M.bind_some e14
      obtain rfl := M.write_some e15
      obtain ⟨rfl, rfl⟩ := M.ret_some e16
      obtain ⟨b, hφ, rfl⟩ := hr.2 hv
      obtain ⟨b', h1, hnI, hsoft, hrow⟩ := r.ob id _ hg
      rw [hφ] at h1; cases h1
      have hce : c.length = e := hrow.1 c (List.mem_of_getElem? hci)
      have hex : ∀ m, m < vx.cells.toList.length → (g.w.cell? ⟨b, i' * e + j + m, none⟩).isSome = true := by
        intro m hm
        simp only [Array.length_toList] at hm
        obtain ⟨u, hu, _⟩ := hrow.2 i' (j + m) c _ hci (List.getElem?_eq_getElem (by omega))
        rw [Nat.add_assoc, hu]; rfl
      have hput := r.put (id := id) (v := v) (e := e) (b := b) (off := i' * e + j) (v' := v) (es := es) (es' := es.set i' (splice c j xs)) (vs := vx.cells.toList) hg hφ hex (.inl ⟨rfl, by simp⟩)
        (fun g' hw hm => row_set hrow hci (by omega) (by simp; omega) (fun m x h => by obtain ⟨u, h1, h2, h3⟩ := hc m x h; exact ⟨u, by simpa using h1, h2, h3⟩) hex hw hm)
      exact ⟨b, i' * e + j, _, rfl, rfl, rfl, by omega, hsoft.2, by simpa [hs, hl'] using hex, rfl, hput.1, hput.2, hone⟩
theorem store_ok (r : Rel ν k g) {t : TypeId} {sz : Nat} (ht : sizeB P t sz = true) {va vx : Value} {a x y : AV} (hva : RA ν g va a) (hvx : RA ν g vx x) {h' : Hp}
    (e' : (store sz a x).run g.h = some (y, h')) :
    ∃ g', (Instr.storeAt t va vx).run P g.w = .ok () g'.w ∧ y = .tup [] ∧ g'.h = h' ∧ Rel ν k g' ∧ Mono ν g g' := by
  obtain ⟨i, hi, rfl⟩ := sizeB_spec ht
  obtain ⟨b, off, g', rfl, h1, h2, h3, h4, h5, h6, h7, h8, h9⟩ := store_at r hva hvx e'
  exact ⟨g', by rw [h2]; exact storeAt_run hi h3 (by simpa using h5) h4 h9, h1, h6, h7, h8⟩
end
end Arx

/-
  ONE OPERATION, the rest: rows of elements written out.
-/
namespace Arx
open Go Go.RowKit Arb

section
variable {ν : Nat → Nat} {P : Program} {k : Cx} {g : Gh}

/-- cells of a row that isn't laid yet -/
def RowA (ν : Nat → Nat) (g : Gh) (vs : Array Value) (e : Nat) (es : List (List AV)) : Prop :=
  vs.size = es.length * e ∧ (∀ c ∈ es, c.length = e) ∧ ∀ (i j : Nat) (c : List AV) (x : AV), es[i]? = some c → c[j]? = some x → ∃ u, vs[i * e + j]? = some u ∧ u.oneCell' = true ∧ RA ν g u x

theorem RowA.step {vs us : Array Value} {e i0 : Nat} {es : List (List AV)} {l : List AV} (h : RowA ν g vs e es) (hi : i0 < es.length) (hu : us.size = e) (hl : l.length = e)
    (hr : ∀ (m : Nat) (x : AV), l[m]? = some x → ∃ u, us[m]? = some u ∧ u.oneCell' = true ∧ RA ν g u x) :
    RowA ν g ((us.toList.zipIdx).foldl (fun cs (p : Value × Nat) => cs.setIfInBounds (i0 * e + p.2) p.1) vs) e (es.set i0 l) := by
  have hfit : i0 * e + e ≤ vs.size := by rw [h.1, ← Nat.succ_mul]; exact Nat.mul_le_mul_right _ hi
  have hs := fillFold_spec (i0 * e) us.toList 0 vs (by simp; omega)
  simp only [Nat.add_zero, Array.length_toList, hu] at hs
  refine ⟨by rw [hs.1, h.1]; simp, fun c hc => ?_, fun i j c x h1 h2 => ?_⟩
  · rcases List.mem_or_eq_of_mem_set hc with h' | h'
    · exact h.2.1 c h'
    · rw [h', hl]
  · rw [hs.2, List.getElem?_set] at *
    by_cases hii : i0 = i
    · subst hii
      rw [if_pos rfl, if_pos hi] at h1
      cases h1
      have hj := lt_of_some h2
      rw [if_pos (by omega), show i0 * e + j - i0 * e = j by omega]
      simpa using hr j x h2
    · rw [if_neg hii] at h1
      have hj : j < e := by have := lt_of_some h2; rw [h.2.1 c (List.mem_of_getElem? h1)] at this; exact this
      have hapart : ¬ (i0 * e ≤ i * e + j ∧ i * e + j < i0 * e + e) := by
        intro ⟨ha, hb⟩
        rcases Nat.lt_or_gt_of_ne hii with hlt | hlt
        · have : i0 * e + e ≤ i * e := by rw [← Nat.succ_mul]; exact Nat.mul_le_mul_right _ hlt
          omega
        · have : i * e + e ≤ i0 * e := by rw [← Nat.succ_mul]; exact Nat.mul_le_mul_right _ hlt
          omega
      rw [if_neg hapart]
      exact h.2.2 i j c x h1 h2

/-- the parts, each with its place -/
theorem parts_run {e n : Nat} : ∀ (ps : List (Nat × AV)) (h h' : Hp) (out : List (Nat × List AV)),
    (M.mapL (fun p : Nat × AV => (cellsM p.2).bind fun xs => (M.ok (xs.length == e && Nat.blt p.1 n)).bind fun _ => M.ret (p.1, xs)) ps).run h = some (out, h') →
    ∀ vs : List (Nat × Value), vs.length = ps.length → (∀ (j : Nat) (q : Nat × Value) (p : Nat × AV), vs[j]? = some q → ps[j]? = some p → q.1 = p.1 ∧ RA ν g q.2 p.2) →
    h' = h ∧ out.length = vs.length ∧ ∀ (j : Nat) (p : Nat × List AV) (q : Nat × Value), out[j]? = some p → vs[j]? = some q →
      q.1 = p.1 ∧ p.1 < n ∧ q.2.cells.size = e ∧ p.2.length = e ∧ ∀ (m : Nat) (x : AV), p.2[m]? = some x → ∃ u, q.2.cells[m]? = some u ∧ u.oneCell' = true ∧ RA ν g u x := by
  intro ps
  induction ps with
  | nil =>
    intro h h' out e' vs hl _
    obtain ⟨rfl, rfl⟩ := M.mapL_nil e'
    have : vs = [] := List.eq_nil_of_length_eq_zero hl
    subst this
    exact ⟨rfl, rfl, fun j p q h => by simp at h⟩
  | cons p ps ih =>
    intro h h' out e' vs hl hv
    obtain ⟨y, h1, zs, e1, e2, rfl⟩ := M.mapL_cons e'
    cases vs with
    | nil => simp at hl
    | cons q vs =>
      obtain ⟨hq, hqR⟩ := hv 0 q p rfl rfl
      obtain ⟨xs, h2, e3, e4⟩ := M.bind_some e1
      obtain ⟨rfl, hs, hc⟩ := cells_run e3 hqR
      obtain ⟨_, h3, e5, e6⟩ := M.bind_some e4
      obtain ⟨hok, rfl⟩ := M.ok_some e5
      simp only [Bool.and_eq_true, beq_iff_eq, Nat.blt_eq] at hok
      obtain ⟨rfl, rfl⟩ := M.ret_some e6
      obtain ⟨rfl, hl2, hr2⟩ := ih _ h' zs e2 vs (by simpa using hl) fun j q' p' h1 h2 => hv (j + 1) q' p' (by simpa using h1) (by simpa using h2)
      refine ⟨rfl, by simp [hl2], fun j p' q' h1 h2 => ?_⟩
      cases j with
      | zero =>
        simp at h1 h2
        subst h1 h2
        exact ⟨hq, hok.2, by omega, hok.1, hc⟩
      | succ j => exact hr2 j p' q' (by simpa using h1) (by simpa using h2)

theorem fill_row {e : Nat} : ∀ (out : List (Nat × List AV)) (vs : List (Nat × Value)) (cells : Array Value) (es : List (List AV)), out.length = vs.length → RowA ν g cells e es →
    (∀ (j : Nat) (p : Nat × List AV) (q : Nat × Value), out[j]? = some p → vs[j]? = some q →
      q.1 = p.1 ∧ p.1 < es.length ∧ q.2.cells.size = e ∧ p.2.length = e ∧ ∀ (m : Nat) (x : AV), p.2[m]? = some x → ∃ u, q.2.cells[m]? = some u ∧ u.oneCell' = true ∧ RA ν g u x) →
    ∃ cells', Instr.fill (fun i => some (i * e, e)) cells vs = some cells' ∧ RowA ν g cells' e (setAll es out) := by
  intro out
  induction out with
  | nil =>
    intro vs cells es hl hrow _
    have : vs = [] := List.eq_nil_of_length_eq_zero hl.symm
    subst this
    exact ⟨cells, rfl, hrow⟩
  | cons p out ih =>
    intro vs cells es hl hrow hh
    cases vs with
    | nil => simp at hl
    | cons q vs =>
      obtain ⟨h1, h2, h3, h4, h5⟩ := hh 0 p q rfl rfl
      have hstep := hrow.step (i0 := p.1) (us := q.2.cells) (l := p.2) h2 h3 h4 h5
      obtain ⟨c', hc', hr'⟩ := ih vs _ (es.set p.1 p.2) (by simpa using hl) hstep fun j p' q' a b => by
        obtain ⟨x1, x2, x3⟩ := hh (j + 1) p' q' (by simpa using a) (by simpa using b)
        exact ⟨x1, by simpa using x2, x3⟩
      refine ⟨c', ?_, hr'⟩
      rw [← hc']
      have hfit : ¬ (cells.size < q.1 * e + e) := by
        have : p.1 * e + e ≤ es.length * e := by rw [← Nat.succ_mul]; exact Nat.mul_le_mul_right _ h2
        rw [hrow.1, h1]; omega
      obtain ⟨i, v⟩ := q
      simp only at h1 h3 hfit
      subst h1
      simp only [Instr.fill, h3]
      rw [if_neg (by simp; omega)]
      congr 1
      rw [← Array.foldl_toList, Array.toList_zipIdx]

def bslK (P : Program) (t : TypeId) (len e : Nat) (z : List AV) : Bool :=
  match P.underlying t with
  | some (.slice el) => sizeB P el e && zeroK P el z && Nat.ble (len * e) 16777216 && z.length == e && Nat.blt 0 e
  | _ => false

theorem zeros_row {zs : Array Value} {z : List AV} (hz : kVals zs.toList z = true) (n : Nat) :
    RowA ν g ((Array.range (n * zs.size)).map (zs[· % zs.size]!)) zs.size (List.replicate n z) := by
  obtain ⟨h1, h2⟩ := kVals_ok hz
  refine ⟨by simp, fun c hc => by rw [List.eq_of_mem_replicate hc]; simpa using h1.symm, fun i j c x hi hj => ?_⟩
  have hi' := lt_of_some hi
  simp only [List.length_replicate] at hi'
  rw [List.getElem?_replicate, if_pos hi'] at hi
  cases hi
  have hjl := lt_of_some hj
  obtain ⟨v, hv, hc⟩ := h2 j x hj
  have hjz : j < zs.size := by simp at h1; omega
  have hlt : i * zs.size + j < n * zs.size := by
    have : i * zs.size + zs.size ≤ n * zs.size := by rw [← Nat.succ_mul]; exact Nat.mul_le_mul_right _ hi'
    omega
  obtain ⟨k1, k2⟩ := kVal_ok (ν := ν) hc g
  refine ⟨v, ?_, k1, k2⟩
  have hmod : (i * zs.size + j) % zs.size = j := by rw [Nat.add_comm, Nat.add_mul_mod_self_right, Nat.mod_eq_of_lt hjz]
  simp only [Array.getElem?_map, Array.getElem?_range, if_pos hlt, Option.map_some, hmod]
  rw [getElem!_pos zs j hjz]
  have : zs[j]? = some v := by simpa using hv
  rw [Array.getElem?_eq_getElem hjz] at this
  exact this

/-- a new row, laid -/
theorem newRow_ok (r : Rel ν k g) {slot e n cap : Nat} {el : TypeId} {es : List (List AV)} {cells : Array Value} {w0 : World} (hw : w0 = g.w ∨ w0 = g.w.drew) (hf : get g.h slot = none) (hty : slot % 4 = 0 ∨ slot % 4 = 2 ∧ el = ν tyByte) (hn : es.length = n) (hl : ∀ c ∈ es, c.length = e) (hcap : n ≤ cap)
    (hsz : cells.size = cap * e) (hrow : ∀ (i j : Nat) (c : List AV) (x : AV), es[i]? = some c → c[j]? = some x → ∃ u, cells[i * e + j]? = some u ∧ u.oneCell' = true ∧ RA ν g u x) :
    Done ν k g (set g.h slot (.buf 0 e es)) (.own slot 0 n 0) (.ok (.slice (some ⟨g.w.heap.size, 0, none⟩) n cap) (w0.alloc (.cells cells el))) := by
  have hhp : w0.heap = g.w.heap := by rcases hw with rfl | rfl <;> rfl
  have hosz : (w0.alloc (.cells cells el)).os = g.w.os ∧ (w0.alloc (.cells cells el)).tape = g.w.tape ∧ (w0.alloc (.cells cells el)).output = g.w.output := by rcases hw with rfl | rfl <;> exact ⟨rfl, rfl, rfl⟩
  have hn' := r.new (s := slot) (ob := .buf 0 e es) (p := some g.w.heap.size) (w' := w0.alloc (.cells cells el)) hf (by simp [hhp]) hosz.1 hosz.2.1 hosz.2.2 (fun b hb => by rw [alloc_old w0 _ _ (by rw [hhp]; exact hb), hhp])
    (fun b h => by cases h; exact Nat.le_refl _) (fun b h => by
      cases h
      rcases hty with h | ⟨h, rfl⟩
      · exact .zero h
      · exact ⟨by omega, fun _ => ⟨cells.size, by rw [← hhp]; exact shape_alloc_new _ _ _⟩, by omega⟩) fun hm => by
      refine ⟨g.w.heap.size, updφ_same _ _ _, fun hi' => Nat.lt_irrefl _ (r.small _ hi'), ⟨by simp [hhp], fun o => by rw [← hhp]; exact World.frozen?_alloc_new _ _ _ _⟩, hl, fun a b c x h1 h2 => ?_⟩
      obtain ⟨u, hu', h3, hR⟩ := hrow a b c x h1 h2
      exact ⟨u, by simp only []; rw [← hhp, World.cell?_alloc_new]; exact hu', h3, hm _ _ hR⟩
  refine ⟨_, _, rfl, rfl, hn'.1, hn'.2, .own rfl ?_⟩
  unfold OwnAt
  simp only [get_set_same, updφ_same]
  refine ⟨Nat.le_refl _, fun _ => ⟨0, cap, rfl, by omega, by omega, hcap, .inl (by simp), fun _ c hc => ?_⟩⟩
  rw [← hhp, World.cell?_alloc_new, Array.getElem?_eq_getElem (by rw [hsz]; simpa using hc)]
  rfl

theorem bsl_ok (r : Rel ν k g) {slot : Nat} {t : TypeId} {n e : Nat} {z : List AV} (ht : bslK P t n e z = true) {ps : List (Nat × AV)} {vs : List (Nat × Value)} (hl : vs.length = ps.length)
    (hv : ∀ (j : Nat) (q : Nat × Value) (p : Nat × AV), vs[j]? = some q → ps[j]? = some p → q.1 = p.1 ∧ RA ν g q.2 p.2) {y : AV} {h' : Hp}
    (e' : ((M.ok (z.length == e)).bind fun _ =>
      (M.mapL (fun p : Nat × AV => (cellsM p.2).bind fun xs => (M.ok (xs.length == e && Nat.blt p.1 n)).bind fun _ => M.ret (p.1, xs)) ps).bind fun l =>
      (M.fresh (4 * slot)).bind fun _ => (M.write (4 * slot) (.buf 0 e (setAll (List.replicate n z) l))).bind fun _ => M.ret (.own (4 * slot) 0 n 0)).run g.h = some (y, h')) :
    Done ν k g h' y ((Instr.buildSlice t n vs.toArray).run P g.w) := by
  unfold bslK at ht
  split at ht
  case h_2 => cases ht
  rename_i el hu
  simp only [Bool.and_eq_true, beq_iff_eq, Nat.ble_eq, Nat.blt_eq] at ht
  obtain ⟨⟨⟨⟨hsz, hz⟩, hbig⟩, hzl⟩, he0⟩ := ht
  obtain ⟨i, hi, hie⟩ := sizeB_spec hsz
  obtain ⟨i', v, hi', hzv, hcv⟩ := zeroK_spec hz
  rw [hi] at hi'; cases hi'
  subst hie
  have hvs : v.cells.size = i.size := by have := (kVals_ok hcv).1; simp at this; omega
  obtain ⟨_, h1, e1, e2⟩ := M.bind_some e'
  obtain ⟨-, rfl⟩ := M.ok_some e1
  obtain ⟨out, h2, e3, e4⟩ := M.bind_some e2
  obtain ⟨rfl, hol, hout⟩ := parts_run ps _ _ out e3 vs hl hv
  obtain ⟨_, h3, e5, e6⟩ := M.bind_some e4
  obtain ⟨hf, rfl⟩ := M.fresh_some e5
  obtain ⟨_, h4, e7, e8⟩ := M.bind_some e6
  obtain rfl := M.write_some e7
  obtain ⟨rfl, rfl⟩ := M.ret_some e8
  have hrow0 := zeros_row (ν := ν) (g := g) hcv n
  rw [hvs] at hrow0
  obtain ⟨cells, hfill, hrow⟩ := fill_row out vs _ _ hol hrow0 fun j p q a b => by
    obtain ⟨x1, x2, x3⟩ := hout j p q a b
    exact ⟨x1, by simpa using x2, x3⟩
  have hlen : (setAll (List.replicate n z) out).length = n := by
    have : ∀ (o : List (Nat × List AV)) (l : List (List AV)), (setAll l o).length = l.length := by
      intro o
      induction o with
      | nil => intro l; rfl
      | cons a o ih => intro l; simp [setAll, ih]
    rw [this]; simp
  have hrun : (Instr.buildSlice t n vs.toArray).run P g.w = .ok (.slice (some ⟨g.w.heap.size, 0, none⟩) n n) (g.w.alloc (.cells cells el)) := by
    have hnb : ¬ (2 ^ 24 < n * i.size) := by omega
    by_cases hn0 : n = 0
    · subst hn0
      simp only [Nat.zero_mul, Array.range_zero', List.map_toArray] at hfill
      simp only [Instr.buildSlice, Sem.run_bind, run_underlying hu, Result.andThen_ok, run_sizeOf hi]
      simp at hfill
      simp [hfill, newRow, Array.range_zero']
    · simp only [Instr.buildSlice, Sem.run_bind, run_underlying hu, Result.andThen_ok, run_sizeOf hi]
      have hnz : ¬ n * i.size = 0 := Nat.mul_ne_zero hn0 (by omega)
      simp [hnb, hnz, zeroValue, typeInfo, hi, hzv, hvs, hfill, newRow]
  rw [hrun]
  exact newRow_ok r (.inl rfl) hf (.inl (by omega)) hlen hrow.2.1 (Nat.le_refl _) (by rw [hrow.1, hlen]) hrow.2.2
/-- a row of none -/
theorem bs0_ok (r : Rel ν k g) {t : TypeId} {e : Nat} (ht : sliceB P t e = true) : Done ν k g g.h (.iv (.nsl e)) ((Instr.buildSlice t 0 #[]).run P g.w) := by
  obtain ⟨el, i, hu, hi, rfl⟩ := sliceB_spec ht
  have hrun : (Instr.buildSlice t 0 #[]).run P g.w = .ok (.slice (some ⟨g.w.heap.size, 0, none⟩) 0 0) (g.w.alloc (.cells #[] el)) := by
    simp only [Instr.buildSlice, Sem.run_bind, run_underlying hu, Result.andThen_ok, run_sizeOf hi]
    simp [newRow, Array.range_zero', Instr.fill]
  obtain ⟨r', m⟩ := r.world (w' := g.w.alloc (.cells #[] el)) (I' := g.I) (fun _ h => h) (fun _ h => .inl h) (by simp) rfl rfl rfl fun b hb => alloc_old _ _ _ hb
  exact ⟨{ g with I := g.I, w := g.w.alloc (.cells #[] el) }, _, hrun, rfl, r', m, .iv (.nsl _ _)⟩
end
end Arx

/-
  ONE OPERATION, the rest: appends; clear; rows of zeros.
-/
namespace Arx
open Go Go.RowKit Arb

section
variable {ν : Nat → Nat} {P : Program} {k : Cx} {g : Gh}

/-- what is appended -/
def Gives (ν : Nat → Nat) (P : Program) (g : Gh) (v : Value) (e : Nat) (ys : List (List AV)) (news : List Value) : Prop :=
  (∀ w : World, (∀ b off u, g.w.cell? ⟨b, off, none⟩ = some u → w.cell? ⟨b, off, none⟩ = some u) → (Builtin.lenOf v).run P w = .ok ys.length w ∧ (Builtin.firstCells e ys.length v).run P w = .ok news.toArray w) ∧
  news.length = ys.length * e ∧ (∀ c ∈ ys, c.length = e) ∧
  ∀ (i j : Nat) (c : List AV) (x : AV), ys[i]? = some c → c[j]? = some x → ∃ u, news[i * e + j]? = some u ∧ u.oneCell' = true ∧ RA ν g u x

/-- the elements of a slice, as they lie in memory -/
def Lies (ν : Nat → Nat) (g : Gh) (v : Value) (e : Nat) (ys : List (List AV)) (news : List Value) : Prop :=
  (∃ a c, v = .slice a ys.length c ∧ (ys.length = 0 ∨ ∃ b off, a = some ⟨b, off, none⟩ ∧ ∀ (p : Nat) (u : Value), news[p]? = some u → g.w.cell? ⟨b, off + p, none⟩ = some u)) ∧
  news.length = ys.length * e ∧ (∀ c ∈ ys, c.length = e) ∧
  ∀ (i j : Nat) (c : List AV) (x : AV), ys[i]? = some c → c[j]? = some x → ∃ u, news[i * e + j]? = some u ∧ u.oneCell' = true ∧ RA ν g u x

theorem Lies.gives {v : Value} {e : Nat} {ys : List (List AV)} {news : List Value} (h : Lies ν g v e ys news) : Gives ν P g v e ys news := by
  obtain ⟨⟨a, c, rfl, ha⟩, hn, hr⟩ := h
  refine ⟨fun w hw => ⟨by simp [Builtin.lenOf], ?_⟩, hn, hr⟩
  rcases ha with h0 | ⟨b, off, rfl, hc⟩
  · have : news = [] := List.eq_nil_of_length_eq_zero (by rw [hn, h0]; simp)
    subst this
    cases a with
    | none => simp [Builtin.firstCells]
    | some a => simp [Builtin.firstCells, h0, loadCells, loadCellsFrom]
  · exact run_firstCells_some w e ys.length _ _ _ news hn fun j u hu => by rw [Addr.add_lit]; exact hw _ _ _ (hc j u hu)

theorem lies_row {b off e m cap : Nat} {ys : List (List AV)} (hm : m = ys.length) (hl : ∀ c ∈ ys, c.length = e)
    (hc : ∀ (i j : Nat) (c : List AV) (x : AV), ys[i]? = some c → c[j]? = some x → ∃ u, g.w.cell? ⟨b, off + i * e + j, none⟩ = some u ∧ u.oneCell' = true ∧ RA ν g u x) :
    ∃ news, Lies ν g (.slice (some ⟨b, off, none⟩) m cap) e ys news := by
  subst hm
  obtain ⟨F, hF⟩ := pickT (cs := ys) (P := fun i (f : Nat → Value) c => ∀ (j : Nat) (x : AV), c[j]? = some x → g.w.cell? ⟨b, off + i * e + j, none⟩ = some (f j) ∧ (f j).oneCell' = true ∧ RA ν g (f j) x)
    fun i c hci => pick fun j x hx => hc i j c x hci hx
  obtain ⟨news, hn, hget'⟩ := rows_flat (e := e) (m := ys.length) (f := F)
  refine ⟨news, ⟨_, cap, rfl, .inr ⟨b, off, rfl, fun p u hu => ?_⟩⟩, hn, hl, fun i j c x h1 h2 => ?_⟩
  · have hp := lt_of_some hu
    rw [hn] at hp
    obtain ⟨i, j, hi, hj, rfl⟩ := flat_split hp
    rw [hget' i j hi hj] at hu
    cases hu
    have hle := hl _ (List.getElem_mem hi)
    rw [← Nat.add_assoc]
    exact (hF i _ (List.getElem?_eq_getElem hi) j _ (List.getElem?_eq_getElem (by omega))).1
  · have hi := lt_of_some h1
    have hj : j < e := by have := lt_of_some h2; rwa [hl c (List.mem_of_getElem? h1)] at this
    exact ⟨_, hget' i j hi hj, (hF i c h1 j x h2).2⟩

theorem lies_nil {v : Value} {e : Nat} {a : Option Addr} {c : Nat} (hv : v = .slice a 0 c) : Lies ν g v e [] [] :=
  ⟨⟨a, c, hv, .inl rfl⟩, by simp, fun c h => by simp at h, fun i j c x h => by simp at h⟩

theorem elems_ok (r : Rel ν k g) {e : Nat} {x : AV} {ys : List (List AV)} {h' : Hp} (e' : (elems e x).run g.h = some (ys, h')) {v : Value} (hv : RA ν g v x) : h' = g.h ∧ ∃ news, Lies ν g v e ys news := by
  cases hv with
  | undef => exact (M.fail_some e').elim
  | nul => exact (M.fail_some e').elim
  | agg => exact (M.fail_some e').elim
  | tup => exact (M.fail_some e').elim
  | ref => exact (M.fail_some e').elim
  | clo => exact (M.fail_some e').elim
  | iv hr =>
    cases hr with
    | nsl a _ => obtain ⟨rfl, rfl⟩ := M.ret_some e'; exact ⟨rfl, _, lies_nil rfl⟩
    | sl0 a cap _ =>
      obtain ⟨_, h1, e1, e2⟩ := M.bind_some e'
      obtain ⟨-, rfl⟩ := M.ok_some e1
      obtain ⟨rfl, rfl⟩ := M.ret_some e2
      exact ⟨rfl, _, lies_nil rfl⟩
    | sl b off n cap e'' es f hI hn hcap hll hc hr =>
      obtain ⟨_, h1, e1, e2⟩ := M.bind_some e'
      obtain ⟨he, rfl⟩ := M.ok_some e1
      obtain ⟨rfl, rfl⟩ := M.ret_some e2
      have he' : e'' = e := by simpa using he
      subst he'
      refine ⟨rfl, lies_row (by simpa using hn) (fun c hc' => ?_) (fun i j c x h1 h2 => ?_)⟩
      · simp only [List.mem_map] at hc'
        obtain ⟨c', hc', rfl⟩ := hc'
        simpa using hll c' hc'
      · simp only [List.getElem?_map, Option.map_eq_some_iff] at h1
        obtain ⟨c', h1, rfl⟩ := h1
        simp only [List.getElem?_map, Option.map_eq_some_iff] at h2
        obtain ⟨x', h2, rfl⟩ := h2
        exact ⟨_, hc i j c' x' h1 h2, (hr i j c' x' h1 h2).one, .iv (hr i j c' x' h1 h2)⟩
    | _ => exact (M.fail_some e').elim
  | @own _ id o m ver ho1 ho =>
    obtain ⟨ob, h1, e1, e2⟩ := M.bind_some e'
    obtain ⟨hg, rfl⟩ := M.look_some e1
    -- the row's elements from o on
    have fin : ∀ {L : Nat} {ys : List (List AV)}, ys.length = m → (∀ c ∈ ys, c.length = e) →
        (∀ b, g.φ id = some b → ∀ (i j : Nat) (c : List AV) (x : AV), ys[i]? = some c → c[j]? = some x → ∃ u, g.w.cell? ⟨b, (o + i) * e + j, none⟩ = some u ∧ u.oneCell' = true ∧ RA ν g u x) →
        SlAt g.w (g.φ id) e L o m v → ∃ news, Lies ν g v e ys news := by
      intro L ys hyl hye hyc hs
      by_cases hm : m = 0
      · subst hm
        have : ys = [] := List.eq_nil_of_length_eq_zero hyl
        subst this
        cases hφ : g.φ id with
        | none => rw [hφ] at hs; obtain ⟨⟨a, rfl⟩, _⟩ := hs; exact ⟨[], lies_nil rfl⟩
        | some b => rw [hφ] at hs; obtain ⟨x, cap, rfl, _⟩ := hs; exact ⟨[], lies_nil rfl⟩
      · cases hφ : g.φ id with
        | none => rw [hφ] at hs; obtain ⟨_, h0, _⟩ := hs; exact absurd h0 hm
        | some b =>
          rw [hφ] at hs
          obtain ⟨x, cap, rfl, h2, _, h3, h4, _⟩ := hs
          have hx : x = o * e := h4.resolve_right fun h => hm h.1
          subst hx
          exact lies_row hyl.symm hye fun i j c y h1 h2 => by
            obtain ⟨u, hu, hR⟩ := hyc b hφ i j c y h1 h2
            exact ⟨u, by rwa [Nat.add_mul] at hu, hR⟩
    unfold OwnAt at ho
    rw [hg] at ho
    cases ob with
    | map _ => exact ho.elim
    | buf v' e'' es =>
      obtain ⟨_, h3, e9, e10⟩ := M.bind_some e2
      obtain ⟨hve, rfl⟩ := M.ok_some e9
      obtain ⟨rfl, rfl⟩ := M.ret_some e10
      simp only [Bool.and_eq_true, beq_iff_eq] at hve
      obtain ⟨rfl, rfl⟩ := hve
      have hs := ho.2 rfl
      have hf := hs.fits
      obtain ⟨b', h1, _, _, hrow⟩ := r.ob id _ hg
      exact ⟨rfl, fin (by simp; omega) (fun c hc => hrow.1 c (List.mem_of_mem_drop (List.mem_of_mem_take hc))) (fun b hb i j c x h2 h3 => by
        rw [hb] at h1; cases h1
        exact hrow.2 _ j c x (sub_get h2).2 h3) hs⟩
    | imm v' e'' es =>
      obtain ⟨_, h3, e9, e10⟩ := M.bind_some e2
      obtain ⟨hve, rfl⟩ := M.ok_some e9
      obtain ⟨rfl, rfl⟩ := M.ret_some e10
      simp only [Bool.and_eq_true, beq_iff_eq] at hve
      obtain ⟨rfl, rfl⟩ := hve
      have hs := ho.2 rfl
      have hf := hs.fits
      obtain ⟨b', h1, _, hrow⟩ := r.ob id _ hg
      refine ⟨rfl, fin (by simp; omega) (fun c hc => ?_) (fun b hb i j c x h2 h3 => ?_) hs⟩
      · simp only [List.mem_map] at hc
        obtain ⟨c', hc', rfl⟩ := hc
        simpa using hrow.1 c' (List.mem_of_mem_drop (List.mem_of_mem_take hc'))
      · rw [hb] at h1; cases h1
        simp only [List.getElem?_map, Option.map_eq_some_iff] at h2
        obtain ⟨c', h2, rfl⟩ := h2
        simp only [List.getElem?_map, Option.map_eq_some_iff] at h3
        obtain ⟨x', h3, rfl⟩ := h3
        obtain ⟨u, hu, hR⟩ := hrow.2 _ j c' x' (sub_get h2).2 h3
        exact ⟨u, hu, hR.one, .iv hR⟩
    | cells cs =>
      obtain ⟨_, h3, e9, e10⟩ := M.bind_some e2
      obtain ⟨hve, rfl⟩ := M.ok_some e9
      obtain ⟨rfl, rfl⟩ := M.ret_some e10
      simp only [Bool.and_eq_true, beq_iff_eq] at hve
      obtain ⟨-, rfl⟩ := hve
      have hf := ho.2.fits
      obtain ⟨b', h1, _, _, hrow⟩ := r.ob id _ hg
      refine ⟨rfl, fin (by simp; omega) (fun c hc => ?_) (fun b hb i j c x h2 h3 => ?_) ho.2⟩
      · simp only [List.mem_map] at hc
        obtain ⟨c', hc', rfl⟩ := hc
        rfl
      · rw [hb] at h1; cases h1
        simp only [List.getElem?_map, Option.map_eq_some_iff] at h2
        obtain ⟨c', h2, rfl⟩ := h2
        cases j with
        | succ j => simp at h3
        | zero =>
          simp at h3
          subst h3
          have := hrow _ _ (sub_get h2).2
          simpa using this
    | icl cs =>
      obtain ⟨_, h3, e9, e10⟩ := M.bind_some e2
      obtain ⟨hve, rfl⟩ := M.ok_some e9
      obtain ⟨rfl, rfl⟩ := M.ret_some e10
      simp only [Bool.and_eq_true, beq_iff_eq] at hve
      obtain ⟨-, rfl⟩ := hve
      have hf := ho.2.fits
      obtain ⟨b', h1, _, hrow⟩ := r.ob id _ hg
      refine ⟨rfl, fin (by simp; omega) (fun c hc => ?_) (fun b hb i j c x h2 h3 => ?_) ho.2⟩
      · simp only [List.mem_map] at hc
        obtain ⟨c', hc', rfl⟩ := hc
        rfl
      · rw [hb] at h1; cases h1
        simp only [List.getElem?_map, Option.map_eq_some_iff] at h2
        obtain ⟨c', h2, rfl⟩ := h2
        cases j with
        | succ j => simp at h3
        | zero =>
          simp at h3
          subst h3
          obtain ⟨u, hu, hR⟩ := hrow _ _ (sub_get h2).2
          exact ⟨u, by simpa using hu, hR.one, .iv hR⟩

theorem elemsS_ok (r : Rel ν k g) {e : Nat} {x : AV} {ys : List (List AV)} {h' : Hp} (e' : (elemsS e x).run g.h = some (ys, h')) {v : Value} (hv : RA ν g v x) : h' = g.h ∧ ∃ news, Gives ν P g v e ys news := by
  unfold elemsS at e'
  split at e'
  · rename_i s
    obtain ⟨_, h1, e1, e2⟩ := M.bind_some e'
    obtain ⟨he, rfl⟩ := M.ok_some e1
    obtain ⟨rfl, rfl⟩ := M.ret_some e2
    have he' : e = 1 := by simpa using he
    subst he'
    obtain rfl := hv.str
    refine ⟨rfl, s.data.toList.map fun b => .int .u8 b.toNat, fun w _ => ⟨by simp [Builtin.lenOf, bytesIV], ?_⟩, by simp [bytesIV], fun c hc => ?_, fun i j c x h1 h2 => ?_⟩
    · have hx : s.extract 0 (bytesIV s).length = s := by
        have : (bytesIV s).length = s.size := by simp [bytesIV]
        rw [this]
        apply ByteArray.ext
        simp
      simp only [Builtin.firstCells, hx]
      simp [Array.ext_iff]
    · simp only [bytesIV, List.mem_map] at hc
      obtain ⟨b, _, rfl⟩ := hc
      rfl
    · simp only [bytesIV, List.getElem?_map, Option.map_eq_some_iff] at h1
      obtain ⟨b, hb, rfl⟩ := h1
      cases j with
      | succ j => simp at h2
      | zero =>
        simp at h2
        subst h2
        exact ⟨.int .u8 b.toNat, by simp [hb], rfl, .iv (.int _ _)⟩
  · obtain ⟨h1, news, h2⟩ := elems_ok r e' hv
    exact ⟨h1, news, h2.gives⟩

/-- what append comes to, where the first slice's cells are known -/
theorem append_run {t u ty : TypeId} {e : Nat} (ht : appB P t u e = true) {base : Option Addr} {n cap : Nat} {olds : List Value} (hol : olds.length = n * e)
    (ho : n = 0 ∨ ∃ b x, base = some ⟨b, x, none⟩ ∧ ∀ (p : Nat) (u : Value), olds[p]? = some u → g.w.cell? ⟨b, x + p, none⟩ = some u) {y : Value} {ys : List (List AV)} {news : List Value} (hy : Gives ν P g y e ys news)
    (hroom : cap < n + ys.length → n + ys.length ≤ 1073741824) :
    (n + ys.length ≤ cap ∧ ∀ R, (match base with | some a => (storeCells (a.add (n * e)) news).run P g.w | none => .ok () g.w) = .ok () R →
        (Builtin.append_ #[t, u] ty #[.slice base n cap, y]).run P g.w = .ok (.slice base (n + ys.length) cap) R) ∨
    (cap < n + ys.length ∧ ∃ (el newcap : Nat) (arr : Array Value), P.underlying t = some (.slice el) ∧ n + ys.length ≤ newcap ∧ arr.size = newcap * e ∧ (∀ (p : Nat) (x : Value), (olds ++ news)[p]? = some x → arr[p]? = some x) ∧
        (Builtin.append_ #[t, u] ty #[.slice base n cap, y]).run P g.w = .ok (.slice (some ⟨g.w.heap.size, 0, none⟩) (n + ys.length) newcap) (g.w.drew.alloc (.cells arr el))) := by
  obtain ⟨el, d, i, z, hu, hd, hdi, hi, rfl, hb, hz, hzs, he0⟩ := appB_spec ht
  obtain ⟨f1, f2⟩ := hy.1 g.w fun _ _ _ h => h
  by_cases hc : n + ys.length ≤ cap
  · refine .inl ⟨hc, fun R hR => ?_⟩
    cases base with
    | none =>
      simp only [Result.ok.injEq, true_and] at hR
      subst hR
      simp [Builtin.append_, run_underlying hu, run_underlying hd, run_sizeOf hi, f1, f2, hc]
    | some a =>
      simp only [] at hR
      simp [Builtin.append_, run_underlying hu, run_underlying hd, run_sizeOf hi, f1, f2, hc, hR]
  · have hroom := hroom (by omega)
    refine .inr ⟨by omega, el, grownCap g.w (n + ys.length) cap el, olds.toArray ++ news.toArray ++ Builtin.zeroCells z.cells (grownCap g.w (n + ys.length) cap el - (n + ys.length)), hu, grownCap_ge _ _ _ _, ?_, ?_, ?_⟩
    · have := grownCap_ge g.w (n + ys.length) cap el
      simp only [Array.size_append, List.size_toArray]
      rw [size_zeroCells, hzs, hol, hy.2.1, ← Nat.add_mul, ← Nat.add_mul]
      congr 1
      omega
    · intro p x hx
      have hp := lt_of_some hx
      rw [Array.getElem?_append_left (by simpa using hp)]
      simpa using hx
    · obtain ⟨-, f2'⟩ := hy.1 g.w.drew fun _ _ _ h => h
      have hold : (Builtin.firstCells i.size n (.slice base n cap)).run P g.w.drew = .ok olds.toArray g.w.drew := by
        rcases ho with h0 | ⟨b, x, rfl, hcell⟩
        · have : olds = [] := List.eq_nil_of_length_eq_zero (by rw [hol, h0]; simp)
          subst this
          cases base with
          | none => simp [Builtin.firstCells]
          | some a => simp [Builtin.firstCells, h0, loadCells, loadCellsFrom]
        · exact run_firstCells_some g.w.drew i.size n _ _ _ olds hol fun j x hx => by rw [Addr.add_lit]; exact hcell j x hx
      have hcap := nextcap_fits (need := n + ys.length) (cap := cap) (bytes := i.bytes) (by omega) hroom hb
      have h48 : ¬ (281474976710656 < Builtin.nextslicecap (n + ys.length) cap * i.bytes) := by omega
      have h63 : ¬ ((9223372036854775807 : Int) < (n : Int) + ys.length) := by omega
      simp [Builtin.append_, run_underlying hu, run_underlying hd, run_sizeOf hi, f1, hc, h63, typeInfo, hi, h48, Question.forced, hold, f2', zeroValue, hz, newRow, grownCap]
      congr 2
      apply Array.ext'
      simp

/-- append, to a row or to none -/
theorem app_ok (r : Rel ν k g) {slot : Nat} {t u ty : TypeId} {e : Nat} (ht : appB P t u e = true) {byte : Bool} (hbyte : byte = true → P.underlying t = some (.slice (ν tyByte))) {v yv : Value} {x y z : AV} (hv : RA ν g v x) (hyv : RA ν g yv y) {h' : Hp}
    (e' : (app e slot byte x y).run g.h = some (z, h')) : Done ν k g h' z ((Builtin.append_ #[t, u] ty #[v, yv]).run P g.w) := by
  obtain ⟨ys, h1, e1, e2⟩ := M.bind_some e'
  obtain ⟨rfl, news, hy⟩ := elemsS_ok (P := P) r e1 hyv
  have hys := hy.2.1
  have hye := hy.2.2.1
  have hyr := hy.2.2.2
  have hyone : ∀ u ∈ news, u.oneCell' = true := by
    intro u hu
    obtain ⟨p, hp⟩ := List.getElem?_of_mem hu
    have hlt := lt_of_some hp
    rw [hys] at hlt
    obtain ⟨i, j, hi, hj, rfl⟩ := flat_split hlt
    have hle := hye _ (List.getElem_mem hi)
    obtain ⟨u', hu', h1, _⟩ := hyr i j _ _ (List.getElem?_eq_getElem hi) (List.getElem?_eq_getElem (by omega))
    rw [hp] at hu'; cases hu'; exact h1
  cases hv with
  | undef => exact (M.fail_some e2).elim
  | nul => exact (M.fail_some e2).elim
  | agg => exact (M.fail_some e2).elim
  | tup => exact (M.fail_some e2).elim
  | ref => exact (M.fail_some e2).elim
  | clo => exact (M.fail_some e2).elim
  | iv hr =>
    cases hr with
    | nsl a _ =>
      simp only [] at e2
      split at e2
      · rename_i h0
        have h0 : ys = [] := by simpa using h0
        subst h0
        obtain ⟨rfl, rfl⟩ := M.ret_some e2
        have hn0 : news = [] := List.eq_nil_of_length_eq_zero (by simpa using hys)
        subst hn0
        rcases append_run (ty := ty) (base := a) (n := 0) (cap := 0) (olds := []) ht (by simp) (.inl rfl) hy (by simp) with ⟨hc, hrun⟩ | ⟨hc, _⟩
        · exact .same r (hrun g.w (by cases a <;> simp [storeCells])) (.iv (.nsl _ _))
        · simp at hc
      · rename_i h0
        obtain ⟨_, h2, e3, e4⟩ := M.bind_some e2
        obtain ⟨hroom, rfl⟩ := M.ok_some e3
        obtain ⟨_, h3, e5, e6⟩ := M.bind_some e4
        obtain ⟨hf, rfl⟩ := M.fresh_some e5
        obtain ⟨_, h4, e7, e8⟩ := M.bind_some e6
        obtain rfl := M.write_some e7
        obtain ⟨rfl, rfl⟩ := M.ret_some e8
        have hroom' : 0 + ys.length ≤ 1073741824 := by simpa [roomy] using hroom
        rcases append_run (ty := ty) (base := a) (n := 0) (cap := 0) (olds := []) ht (by simp) (.inl rfl) hy (fun _ => hroom') with ⟨hc, _⟩ | ⟨hc, el, newcap, arr, hel, h1, h2, h3, hrun⟩
        · exact absurd (List.eq_nil_of_length_eq_zero (show ys.length = 0 by omega)) (by simpa using h0)
        · simp only [Nat.zero_add, List.nil_append] at *
          rw [hrun]
          exact newRow_ok r (.inr rfl) hf (by
            cases byte with
            | false => left; simp
            | true =>
              right
              have := hbyte rfl
              rw [hel] at this
              refine ⟨by simp, ?_⟩
              cases this; rfl) rfl hye h1 h2 fun i j c x hi hj => by
            obtain ⟨u, hu, h4, h5⟩ := hyr i j c x hi hj
            exact ⟨u, h3 _ _ hu, h4, h5⟩
    | _ => exact (M.fail_some e2).elim
  | @own _ id o n ver ho1 ho =>
    obtain ⟨ob, h2, e3, e4⟩ := M.bind_some e2
    obtain ⟨hg, rfl⟩ := M.look_some e3
    unfold OwnAt at ho
    rw [hg] at ho
    cases ob with
    | cells _ => exact (M.fail_some e4).elim
    | icl _ => exact (M.fail_some e4).elim
    | imm _ _ _ => exact (M.fail_some e4).elim
    | map _ => exact (M.fail_some e4).elim
    | buf v' e'' es =>
      obtain ⟨_, h3, e5, e6⟩ := M.bind_some e4
      obtain ⟨hok, rfl⟩ := M.ok_some e5
      simp only [Bool.and_eq_true, beq_iff_eq] at hok
      obtain ⟨rfl, rfl⟩ := hok
      have hs := ho.2 rfl
      obtain ⟨b, hφ, hnI, hsoft, hrow⟩ := r.ob id _ hg
      rw [hφ] at hs
      obtain ⟨x, cap, rfl, q2, qL, q3, q4, q5⟩ := hs
      -- the elements that it has
      obtain ⟨V, hV⟩ := row_pick hrow
      obtain ⟨olds, hol, holds⟩ := rows_flat (e := e'') (m := n) (f := fun i j => V (o + i) j)
      have hcells : n = 0 ∨ ∃ b' x', some (⟨b, x, none⟩ : Addr) = some ⟨b', x', none⟩ ∧ ∀ (p : Nat) (u : Value), olds[p]? = some u → g.w.cell? ⟨b', x' + p, none⟩ = some u := by
        by_cases hn : n = 0
        · exact .inl hn
        · have hx : x = o * e'' := q4.resolve_right fun h => hn h.1
          refine .inr ⟨b, x, rfl, fun p u hp => ?_⟩
          have hlt := lt_of_some hp
          rw [hol] at hlt
          obtain ⟨i, j, hi, hj, rfl⟩ := flat_split hlt
          rw [holds i j hi hj] at hp
          cases hp
          have hci : es[o + i]? = some es[o + i] := List.getElem?_eq_getElem (by omega)
          have hle := hrow.1 _ (List.getElem_mem (show o + i < es.length by omega))
          have := (hV (o + i) j _ _ hci (List.getElem?_eq_getElem (by omega))).1
          rw [hx, ← Nat.add_assoc, ← Nat.add_mul]; exact this
      split at e6
      · -- it is known that there is room
        rename_i hfit
        obtain ⟨_, h4, e7, e8⟩ := M.bind_some e6
        obtain rfl := M.write_some e7
        obtain ⟨rfl, rfl⟩ := M.ret_some e8
        rcases append_run (ty := ty) (base := some ⟨b, x, none⟩) (n := n) (cap := cap) (olds := olds) ht hol hcells hy (fun h => by omega) with ⟨hc, hrun⟩ | ⟨hc, _⟩
        · by_cases hk : ys.length = 0
          · have h0 : ys = [] := List.eq_nil_of_length_eq_zero hk
            subst h0
            have hn0 : news = [] := List.eq_nil_of_length_eq_zero (by simpa using hys)
            subst hn0
            have hrun' := hrun g.w (by simp [storeCells])
            have hsp : splice es (o + n) [] = es := by simp [splice]
            rw [hsp]
            have hput := r.put (id := id) (v := v') (e := e'') (b := b) (off := 0) (v' := v') (es := es) (es' := es) (vs := []) hg hφ (fun j hj => by simp at hj) (.inl ⟨rfl, rfl⟩) (fun g' hw hm => hrow.mono hm fun off v hc => by rw [hw]; exact hc)
            refine ⟨{ g with w := g.w.setCells b 0 [], h := set g.h id (.buf v' e'' es) }, _, hrun', rfl, hput.1, hput.2, .own rfl ?_⟩
            unfold OwnAt
            simp only [get_set_same, hφ]
            exact ⟨Nat.le_refl _, fun _ => ⟨x, cap, rfl, q2, qL, q3, q4, q5⟩⟩
          · have hx : x = o * e'' := q4.resolve_right fun h => by have := h.2.2; omega
            subst hx
            have q5 := q5 rfl
            have hex : ∀ j, j < news.length → (g.w.cell? ⟨b, (o + n) * e'' + j, none⟩).isSome = true := fun j hj => q5 _ (by
              have : (o + n) * e'' + ys.length * e'' ≤ (o + cap) * e'' := by rw [← Nat.add_mul]; exact Nat.mul_le_mul_right _ (by omega)
              omega)
            have hst := run_storeCells_cells (P := P) b ((o + n) * e'') news 0 g.w (by simpa using hex) (fun _ _ => hsoft.2 _) hyone
            have hrun' := hrun (g.w.setCells b ((o + n) * e'') news) (by simp only [Addr.add_lit, ← Nat.add_mul]; simpa using hst)
            have hput := r.put (id := id) (v := v') (e := e'') (b := b) (off := (o + n) * e'') (v' := v') (es := es) (es' := splice es (o + n) ys) (vs := news) hg hφ hex (.inl ⟨rfl, (splice_length _ _ _ hfit).symm⟩) (fun g' hw hm => by
              refine ⟨fun c hc => ?_, fun i j c x hi hj => ?_⟩
              · simp only [splice, List.mem_append] at hc
                rcases hc with (h | h) | h
                · exact hrow.1 c (List.mem_of_mem_take h)
                · exact hye c h
                · exact hrow.1 c (List.mem_of_mem_drop h)
              · rw [hw, setCells_cell _ _ _ _ hex]
                rw [splice_get _ _ _ hfit] at hi
                split at hi
                · rename_i hin
                  obtain ⟨w, hw', h5, hR⟩ := hyr (i - (o + n)) j c x hi hj
                  have hlt := lt_of_some hw'
                  have : (o + n) * e'' + (i - (o + n)) * e'' = i * e'' := by rw [← Nat.add_mul]; congr 1; omega
                  rw [if_pos (by omega), show i * e'' + j - (o + n) * e'' = (i - (o + n)) * e'' + j by omega]
                  exact ⟨w, hw', h5, hm _ _ hR⟩
                · rename_i hin
                  have hj' := hrow.len hi hj
                  have hapart : ¬ ((o + n) * e'' ≤ i * e'' + j ∧ i * e'' + j < (o + n) * e'' + news.length) := by
                    intro ⟨ha, hb⟩
                    rw [hys] at hb
                    rcases Nat.lt_or_ge i (o + n) with hlt | hge
                    · have : i * e'' + e'' ≤ (o + n) * e'' := by rw [← Nat.succ_mul]; exact Nat.mul_le_mul_right _ hlt
                      omega
                    · have : (o + n) * e'' + ys.length * e'' ≤ i * e'' := by rw [← Nat.add_mul]; exact Nat.mul_le_mul_right _ (by omega)
                      omega
                  rw [if_neg hapart]
                  obtain ⟨w, hw', h5, hR⟩ := hrow.2 i j c x hi hj
                  exact ⟨w, hw', h5, hm _ _ hR⟩)
            refine ⟨_, _, hrun', rfl, hput.1, hput.2, .own rfl ?_⟩
            unfold OwnAt
            simp only [get_set_same, hφ]
            rw [splice_length _ _ _ hfit]
            exact ⟨Nat.le_refl _, fun _ => ⟨_, cap, rfl, by omega, by omega, by omega, .inl rfl, fun _ c hc => setCells_some _ _ _ _ hex _ (q5 c hc)⟩⟩
        · omega
      · -- in place or in a new block: who knows
        rename_i hfit
        obtain ⟨_, h4, e7, e8⟩ := M.bind_some e6
        obtain ⟨hok, rfl⟩ := M.ok_some e7
        obtain ⟨_, h5, e9, e10⟩ := M.bind_some e8
        obtain rfl := M.write_some e9
        obtain ⟨rfl, rfl⟩ := M.ret_some e10
        simp only [Bool.and_eq_true, beq_iff_eq, Bool.or_eq_true] at hok
        obtain ⟨⟨rfl, hroom⟩, hidty⟩ := hok
        have hroom' : n + ys.length ≤ 1073741824 := by simpa [roomy] using hroom
        have hx : x = 0 := by rcases q4 with h | h; · simpa using h
                              · exact absurd rfl h.2.1
        subst hx
        have q5 := q5 (by simp)
        have htn : (es.take n).length = n := by simp; omega
        rcases append_run (ty := ty) (base := some ⟨b, 0, none⟩) (n := n) (cap := cap) (olds := olds) ht hol hcells hy (fun _ => hroom') with ⟨hc, hrun⟩ | ⟨hc, el, newcap, arr, hel, h1, h2, h3, hrun⟩
        · -- in place
          have hex : ∀ j, j < news.length → (g.w.cell? ⟨b, n * e'' + j, none⟩).isSome = true := fun j hj => q5 _ (by
            have : n * e'' + ys.length * e'' ≤ cap * e'' := by rw [← Nat.add_mul]; exact Nat.mul_le_mul_right _ hc
            rw [Nat.zero_add]; omega)
          have hst := run_storeCells_cells (P := P) b (n * e'') news 0 g.w (by simpa using hex) (fun _ _ => hsoft.2 _) hyone
          have hrun' := hrun (g.w.setCells b (n * e'') news) (by simpa [Addr.add_lit] using hst)
          have hput := r.put (id := id) (v := v') (e := e'') (b := b) (off := n * e'') (v' := v' + 1) (es := es) (es' := es.take n ++ ys) (vs := news) hg hφ hex (.inr rfl) (fun g' hw hm => by
            refine ⟨fun c hc => ?_, fun i j c x hi hj => ?_⟩
            · rcases List.mem_append.1 hc with h | h
              · exact hrow.1 c (List.mem_of_mem_take h)
              · exact hye c h
            · rw [hw, setCells_cell _ _ _ _ hex]
              rw [List.getElem?_append] at hi
              simp only [htn] at hi
              split at hi
              · rename_i hin
                rw [List.getElem?_take, if_pos hin] at hi
                have hj' := hrow.len hi hj
                have : i * e'' + e'' ≤ n * e'' := by rw [← Nat.succ_mul]; exact Nat.mul_le_mul_right _ hin
                rw [if_neg (by omega)]
                obtain ⟨w, hw, h5, hR⟩ := hrow.2 i j c x hi hj
                exact ⟨w, hw, h5, hm _ _ hR⟩
              · rename_i hin
                obtain ⟨w, hw, h5, hR⟩ := hyr (i - n) j c x hi hj
                have hlt := lt_of_some hw
                have : n * e'' + (i - n) * e'' = i * e'' := by rw [← Nat.add_mul]; congr 1; omega
                rw [if_pos (by omega), show i * e'' + j - n * e'' = (i - n) * e'' + j by omega]
                exact ⟨w, hw, h5, hm _ _ hR⟩)
          refine ⟨_, _, hrun', rfl, hput.1, hput.2, .own rfl ?_⟩
          unfold OwnAt
          simp only [get_set_same, hφ]
          refine ⟨Nat.le_refl _, fun _ => ⟨0, cap, rfl, by simp; omega, by simp; omega, hc, .inl (by simp), fun _ c hc => setCells_some _ _ _ _ hex _ (q5 c hc)⟩⟩
        · -- a new block
          have ht := r.turn (s := id) (ob := .buf (v' + 1) e'' (es.take n ++ ys)) (p := some g.w.heap.size) (w' := g.w.drew.alloc (.cells arr el)) (I' := g.I) hg (fun b' h => by rw [hφ] at h; cases h; exact hnI) (by simp) rfl rfl rfl
            (fun b hb _ => alloc_old g.w.drew _ _ hb) (fun _ h => h) (fun _ h => .inl h) (.inr ⟨_, rfl, Nat.le_refl _⟩)
            (fun b h => by
              cases h
              rcases hidty with h | ⟨h, hb⟩
              · exact .zero h
              · have := hbyte hb
                rw [hel] at this
                cases this
                exact ⟨by omega, fun _ => ⟨_, shape_alloc_new g.w.drew _ _⟩, by omega⟩)
            (fun w o n ver h => by
              unfold OwnAt at h ⊢
              rw [hg] at h
              simp only [get_set_same, updφ_same]
              have := h.1
              exact ⟨by omega, fun he => by omega⟩)
            (fun w ver i j h => by
              unfold RefAt at h ⊢
              rw [hg] at h
              simp only [get_set_same, updφ_same]
              have := h.1
              exact ⟨by omega, fun he => by omega⟩)
            (fun _ hm => by
              refine ⟨g.w.heap.size, updφ_same _ _ _, fun hi' => Nat.lt_irrefl _ (r.small _ hi'), ⟨by simp, fun o => World.frozen?_alloc_new g.w.drew _ _ _⟩, fun c hc => ?_, fun i j c x hi hj => ?_⟩
              · rcases List.mem_append.1 hc with h | h
                · exact hrow.1 c (List.mem_of_mem_take h)
                · exact hye c h
              · have key : ∃ u, (olds ++ news)[i * e'' + j]? = some u ∧ u.oneCell' = true ∧ RA ν g u x := by
                  rw [List.getElem?_append] at hi
                  simp only [htn] at hi
                  split at hi
                  · rename_i hin
                    rw [List.getElem?_take, if_pos hin] at hi
                    have hj' := hrow.len hi hj
                    have : i * e'' + e'' ≤ n * e'' := by rw [← Nat.succ_mul]; exact Nat.mul_le_mul_right _ hin
                    refine ⟨V i j, ?_, (hV i j c x hi hj).2⟩
                    rw [List.getElem?_append_left (by omega), holds i j hin hj', Nat.zero_add]
                  · rename_i hin
                    obtain ⟨w, hw, h5, hR⟩ := hyr (i - n) j c x hi hj
                    have : n * e'' + (i - n) * e'' = i * e'' := by rw [← Nat.add_mul]; congr 1; omega
                    refine ⟨w, ?_, h5, hR⟩
                    rw [List.getElem?_append_right (by omega), hol, show i * e'' + j - n * e'' = (i - n) * e'' + j by omega]
                    exact hw
                obtain ⟨u, hu, h5, hR⟩ := key
                exact ⟨u, by simp only []; rw [show (g.w.drew.alloc (.cells arr el)).cell? ⟨g.w.heap.size, i * e'' + j, none⟩ = arr[i * e'' + j]? from World.cell?_alloc_new g.w.drew _ _ _]; exact h3 _ _ hu, h5, hm _ _ hR⟩)
          refine ⟨_, _, hrun, rfl, ht.1, ht.2, .own rfl ?_⟩
          unfold OwnAt
          simp only [get_set_same, updφ_same]
          refine ⟨Nat.le_refl _, fun _ => ⟨0, newcap, rfl, by simp; omega, by simp; omega, h1, .inl (by simp), fun _ c hc => ?_⟩⟩
          rw [show (g.w.drew.alloc (.cells arr el)).cell? ⟨g.w.heap.size, c, none⟩ = arr[c]? from World.cell?_alloc_new g.w.drew _ _ _, Array.getElem?_eq_getElem (by rw [h2]; simpa using hc)]
          rfl
end
end Arx
