/-
  WHICH TWO ARE MERGED FIRST.
-/
import Derived.Test.YtiggikalagohaaaGreatArbA
import Derived.Test.YtiggikalagohaaaGreatArbB
import Derived.Test.YtiggikalagohaaaGreatArbC
import Derived.Test.YtiggikalagohaaaGreatArbD
import Derived.Test.YtiggikalagohaaaGreatArbE
import Derived.Test.YtiggikalagohaaaGreatArbF
import Derived.Test.YtiggikalagohaaaGreatArbG
import Derived.Test.YtiggikalagohaaaGreatArbH
import Derived.Test.YtiggikalagohaaaGreatArbI
set_option linter.unusedSimpArgs false
namespace Arb
open Go

structure EN where
  i : Int
  f : List B
  s : Int
def EN.enc (x : EN) : List IV := entry x.i x.f x.s
structure EN.ok (x : EN) : Prop where
  l : x.f.length ≤ maxLen
  b : ∀ z ∈ x.f, z.ok
  s : 0 ≤ x.s ∧ x.s ≤ far
def ents (l : List EN) : AV := .iv (.sl 3 (l.map EN.enc))

/-- the first of the next m from j on -/
def rowF (P : Nat → Bool) : Nat → Nat → Option Nat
  | 0, _ => none
  | m + 1, j => if P j then some j else rowF P m (j + 1)
/-- the first pair, its first one among the next m from i on -/
def pairF (P : Nat → Nat → Bool) (n : Nat) : Nat → Nat → Option (Nat × Nat)
  | 0, _ => none
  | m + 1, i => match rowF (P i) (n - (i + 1)) (i + 1) with
    | some j => some (i, j)
    | none => pairF P n m (i + 1)
theorem rowF_congr {P Q : Nat → Bool} : ∀ m j, (∀ k, j ≤ k → k < j + m → P k = Q k) → rowF P m j = rowF Q m j
  | 0, _, _ => rfl
  | m + 1, j, h => by rw [rowF, rowF, h j (by omega) (by omega), rowF_congr m (j + 1) fun k h1 h2 => h k (by omega) (by omega)]
theorem rowF_none {P : Nat → Bool} : ∀ m j, rowF P m j = none → ∀ k, j ≤ k → k < j + m → P k = false
  | 0, j, _, k, h1, h2 => by omega
  | m + 1, j, h, k, h1, h2 => by
    rw [rowF] at h
    split at h
    · cases h
    · rename_i hp
      by_cases hk : k = j
      · subst hk; simpa using hp
      · exact rowF_none m (j + 1) h k (by omega) (by omega)
theorem pairF_none {P : Nat → Nat → Bool} {n : Nat} : ∀ m i, i + m ≤ n → pairF P n m i = none → ∀ a b, i ≤ a → a < i + m → a < b → b < n → P a b = false
  | 0, i, _, _, a, b, h1, h2, _, _ => by omega
  | m + 1, i, hn, h, a, b, h1, h2, h3, h4 => by
    rw [pairF] at h
    split at h
    · cases h
    · rename_i hr
      by_cases ha : a = i
      · subst ha; exact rowF_none _ _ hr b (by omega) (by omega)
      · exact pairF_none m (i + 1) (by omega) h a b (by omega) (by omega) h3 h4
theorem pairF_congr {P Q : Nat → Nat → Bool} {n : Nat} : ∀ m i, i + m ≤ n → (∀ a b, a < b → b < n → P a b = Q a b) → pairF P n m i = pairF Q n m i
  | 0, _, _, _ => rfl
  | m + 1, i, hn, h => by
    rw [pairF, pairF, rowF_congr (P := P i) (Q := Q i) _ _ fun k h1 h2 => h i k (by omega) (by omega), pairF_congr m (i + 1) (by omega) h]

def onTwo (l : List EN) (P : EN → EN → Bool) (i j : Nat) : Bool := match l[i]?, l[j]? with
  | some a, some b => P a b
  | _, _ => false
def tryT (slack : Int) (t : Nat) (a b : EN) : Bool := (tryF (howR a.f b.f t) a.s b.s slack).2.2
def goOn (r : Option (Nat × Nat)) (p : Bool) (e : Int × Int × Bool × Bool) : Int × Int × Bool × Bool := match r with
  | some (i, j) => (i, j, p, true)
  | none => e
def bestR (l : List EN) (slack : Int) : Nat → Int × Int × Bool × Bool
  | 0 => goOn (pairF (onTwo l (tryT slack 0)) l.length l.length 0) true (goOn (pairF (onTwo l (tryT slack 1)) l.length l.length 0) false (0, 0, false, false))
  | 1 => goOn (pairF (onTwo l (tryT slack 1)) l.length l.length 0) false (0, 0, false, false)
  | _ => (0, 0, false, false)

section
variable {prog : Nat → Option IFn}

set_option maxHeartbeats 16000000 in
theorem p_best (H : Lib6 prog) (h : prog 13 = some F13) (l : List EN) (slack : Int) (hl : l.length ≤ 8) (hL : ∀ x ∈ l, x.ok) :
    Ans prog 13 [ents l, .iv (.int .u64 slack)] (.tup [.iv (.int .i64 (bestR l slack 0).1), .iv (.int .i64 (bestR l slack 0).2.1), .iv (.bool (bestR l slack 0).2.2.1), .iv (.bool (bestR l slack 0).2.2.2)]) := by
  generalize hr : bestR l slack 0 = res
  refine Ans.of h rfl rfl (Wp.seq ?_)
  refine Wp.rgn (K := 0) (fun n _ => by simp [evalRgn, Option.map_some, evalOps, step, wants, osem, M.run_bind, M.mapL, M.run, M.ok, M.fresh, M.write, M.look, M.lift, putD, Arb.set, ev, Arb.get, keepFr, bin, intBin, strBin, mk, params, cellsM, load, obRead, fadr, fld, isl, iarr, xarr, idx, len, valid, slc, bound, store, splice, nilc, un, eqs, eq0, evalFeet, footOf, M.foot, orderOk, apartAll, apart1, clash, meets, callM, fcallM, callee, fz1, fzC, fz, flat, flat1, flat0, flatI, Option.bind_some, putAll, M.bind]; rfl) ?_
  refine Wp.seq (Wp.seq ?_)
  refine Wp.rgn (K := 0) (fun n _ => by simp [evalRgn, Option.map_some, evalOps, step, wants, osem, M.run_bind, M.mapL, M.run, M.ok, M.fresh, M.write, M.look, M.lift, putD, Arb.set, ev, Arb.get, keepFr, bin, intBin, strBin, mk, params, cellsM, load, obRead, fadr, fld, isl, iarr, xarr, idx, len, valid, slc, bound, store, splice, nilc, un, eqs, eq0, evalFeet, footOf, M.foot, orderOk, apartAll, apart1, clash, meets, callM, fcallM, callee, fz1, fzC, fz, flat, flat1, flat0, flatI, Option.bind_some, putAll, M.bind, setAll]; rfl) ?_
  refine Wp.block ?_
  refine Wp.range 2 (fun t => ⟨[(0, ents l), (1, .iv (.int .u64 slack)), (14, .own 1256 0 2 0), (15, .iv (.int .i64 2)), (16, .iv (.int .i64 t))], [(1256, .buf 0 1 [[.fn 21 []], [.fn 7 []]])], 1448⟩) (fun t => res = bestR l slack t) rfl hr.symm ?_ ?_
  · intro t ht hg
    have ht0 : (t : Int) < 2 := by omega
    have hf : ([[.fn 21 []], [.fn 7 []]] : List (List IV))[t]? = some [.fn (howN t) []] := by
      match t, ht with
      | 0, _ => rfl
      | 1, _ => rfl
    have hf' : ([[.fn 21 []], [.fn 7 []]] : List (List IV))[t] = [.fn (howN t) []] := (List.getElem?_eq_some_iff.1 hf).2
    have hwt : IntKind.wrap .i64 ((t : Int) + 1) = (t : Int) + 1 := IntWalk.i64_in _ (by omega)
    have hg : res = goOn (pairF (onTwo l (tryT slack t)) l.length l.length 0) (t == 0) (bestR l slack (t + 1)) := by
      rw [hg]
      match t, ht with
      | 0, _ => rfl
      | 1, _ => rfl
    refine Wp.seq ?_
    refine Wp.rgn (K := 0) (fun n _ => by simp [evalRgn, Option.map_some, evalOps, step, wants, osem, M.run_bind, M.mapL, M.run, M.ok, M.fresh, M.write, M.look, M.lift, putD, Arb.set, ev, Arb.get, keepFr, bin, intBin, strBin, mk, params, cellsM, load, obRead, fadr, fld, isl, iarr, xarr, idx, len, valid, slc, bound, store, splice, nilc, un, eqs, eq0, evalFeet, footOf, M.foot, orderOk, apartAll, apart1, clash, meets, callM, fcallM, callee, fz1, fzC, fz, flat, flat1, flat0, flatI, Option.bind_some, putAll, M.bind, ht0]; rfl) ?_
    refine Wp.seq (Wp.cond rfl (Wp.skip (Wp.seq (Wp.block (Wp.seq ?_)))))
    refine Wp.rgn (K := 0) (s' := ⟨[(0, ents l), (1, .iv (.int .u64 slack)), (8, .iv (.int .i64 t)), (9, .iv (.fn (howN t) [])), (14, .own 1256 0 2 0), (15, .iv (.int .i64 2)), (16, .iv (.int .i64 t))], [(1256, .buf 0 1 [[.fn 21 []], [.fn 7 []]])], 1832⟩) (fun n _ => by simp [evalRgn, Option.map_some, evalOps, step, wants, osem, M.run_bind, M.mapL, M.run, M.ok, M.fresh, M.write, M.look, M.lift, putD, Arb.set, ev, Arb.get, keepFr, bin, intBin, strBin, mk, params, cellsM, load, obRead, fadr, fld, isl, iarr, xarr, idx, len, valid, slc, bound, store, splice, nilc, un, eqs, eq0, evalFeet, footOf, M.foot, orderOk, apartAll, apart1, clash, meets, callM, fcallM, callee, fz1, fzC, fz, flat, flat1, flat0, flatI, Option.bind_some, putAll, M.bind, ht, ht0, hf, hf']) ?_
    refine Wp.seq ?_
    refine Wp.rgn (K := 0) (fun n _ => by simp [evalRgn, Option.map_some, evalOps, step, wants, osem, M.run_bind, M.mapL, M.run, M.ok, M.fresh, M.write, M.look, M.lift, putD, Arb.set, ev, Arb.get, keepFr, bin, intBin, strBin, mk, params, cellsM, load, obRead, fadr, fld, isl, iarr, xarr, idx, len, valid, slc, bound, store, splice, nilc, un, eqs, eq0, evalFeet, footOf, M.foot, orderOk, apartAll, apart1, clash, meets, callM, fcallM, callee, fz1, fzC, fz, flat, flat1, flat0, flatI, Option.bind_some, putAll, M.bind, ents]; rfl) ?_
    refine Wp.block ?_
    refine Wp.range l.length (fun i => ⟨[(0, ents l), (1, .iv (.int .u64 slack)), (8, .iv (.int .i64 t)), (9, .iv (.fn (howN t) [])), (14, .own 1256 0 2 0), (15, .iv (.int .i64 2)), (16, .iv (.int .i64 t)), (22, .iv (.int .i64 l.length)), (23, .iv (.int .i64 i))], [(1256, .buf 0 1 [[.fn 21 []], [.fn 7 []]])], 2024⟩)
      (fun i => res = goOn (pairF (onTwo l (tryT slack t)) l.length (l.length - i) i) (t == 0) (bestR l slack (t + 1))) (by simp [keepFr, get, ents]) hg ?_ ?_
    · intro i hi hgi
      have hi0 : (i : Int) < l.length := by omega
      have hwi : IntKind.wrap .i64 ((i : Int) + 1) = (i : Int) + 1 := IntWalk.i64_in _ (by omega)
      obtain ⟨a, ha⟩ : ∃ a, l[i]? = some a := ⟨_, List.getElem?_eq_getElem hi⟩
      have oa := hL a (List.mem_of_getElem? ha)
      have hgi : res = (match rowF (onTwo l (tryT slack t) i) (l.length - (i + 1)) (i + 1) with
          | some j => ((i : Int), (j : Int), t == 0, true)
          | none => goOn (pairF (onTwo l (tryT slack t)) l.length (l.length - (i + 1)) (i + 1)) (t == 0) (bestR l slack (t + 1))) := by
        rw [hgi, show l.length - i = (l.length - (i + 1)) + 1 by omega, pairF]
        cases rowF (onTwo l (tryT slack t) i) (l.length - (i + 1)) (i + 1) <;> rfl
      generalize goOn (pairF (onTwo l (tryT slack t)) l.length (l.length - (i + 1)) (i + 1)) (t == 0) (bestR l slack (t + 1)) = els at hgi
      refine Wp.seq ?_
      refine Wp.rgn (K := 0) (fun n _ => by simp [evalRgn, Option.map_some, evalOps, step, wants, osem, M.run_bind, M.mapL, M.run, M.ok, M.fresh, M.write, M.look, M.lift, putD, Arb.set, ev, Arb.get, keepFr, bin, intBin, strBin, mk, params, cellsM, load, obRead, fadr, fld, isl, iarr, xarr, idx, len, valid, slc, bound, store, splice, nilc, un, eqs, eq0, evalFeet, footOf, M.foot, orderOk, apartAll, apart1, clash, meets, callM, fcallM, callee, fz1, fzC, fz, flat, flat1, flat0, flatI, Option.bind_some, putAll, M.bind, hi0]; rfl) ?_
      refine Wp.seq (Wp.cond rfl (Wp.skip (Wp.seq (Wp.block (Wp.seq ?_)))))
      refine Wp.rgn (K := 0) (fun n _ => by simp [evalRgn, Option.map_some, evalOps, step, wants, osem, M.run_bind, M.mapL, M.run, M.ok, M.fresh, M.write, M.look, M.lift, putD, Arb.set, ev, Arb.get, keepFr, bin, intBin, strBin, mk, params, cellsM, load, obRead, fadr, fld, isl, iarr, xarr, idx, len, valid, slc, bound, store, splice, nilc, un, eqs, eq0, evalFeet, footOf, M.foot, orderOk, apartAll, apart1, clash, meets, callM, fcallM, callee, fz1, fzC, fz, flat, flat1, flat0, flatI, Option.bind_some, putAll, M.bind]; rfl) ?_
      refine Wp.seq ?_
      refine Wp.rgn (K := 0) (fun n _ => by simp [evalRgn, Option.map_some, evalOps, step, wants, osem, M.run_bind, M.mapL, M.run, M.ok, M.fresh, M.write, M.look, M.lift, putD, Arb.set, ev, Arb.get, keepFr, bin, intBin, strBin, mk, params, cellsM, load, obRead, fadr, fld, isl, iarr, xarr, idx, len, valid, slc, bound, store, splice, nilc, un, eqs, eq0, evalFeet, footOf, M.foot, orderOk, apartAll, apart1, clash, meets, callM, fcallM, callee, fz1, fzC, fz, flat, flat1, flat0, flatI, Option.bind_some, putAll, M.bind, hwi]; rfl) ?_
      refine Wp.block ?_
      refine Wp.range (l.length - (i + 1)) (fun k => ⟨[(0, ents l), (1, .iv (.int .u64 slack)), (8, .iv (.int .i64 t)), (9, .iv (.fn (howN t) [])), (10, .iv (.int .i64 i)), (11, .iv (.int .i64 ((i : Int) + 1 + k))), (14, .own 1256 0 2 0), (15, .iv (.int .i64 2)), (16, .iv (.int .i64 t)), (22, .iv (.int .i64 l.length)), (23, .iv (.int .i64 i))], [(1256, .buf 0 1 [[.fn 21 []], [.fn 7 []]])], 2408⟩)
        (fun k => res = (match rowF (onTwo l (tryT slack t) i) (l.length - (i + 1) - k) (i + 1 + k) with
          | some j => ((i : Int), (j : Int), t == 0, true)
          | none => els)) (by simp [keepFr, get]) hgi ?_ ?_
      · intro k hk hgk
        have hcj : (i : Int) + 1 + k = ((i + 1 + k : Nat) : Int) := by omega
        have hcj2 : (i : Int) + 1 + ((k + 1 : Nat) : Int) = ((i + 1 + k : Nat) : Int) + 1 := by omega
        have hj : i + 1 + k < l.length := by omega
        rw [show l.length - (i + 1) - k = (l.length - (i + 1) - (k + 1)) + 1 by omega, rowF] at hgk
        rw [hcj, hcj2, show i + 1 + (k + 1) = i + 1 + k + 1 by omega]
        generalize i + 1 + k = j at hj hgk
        have hj0 : (j : Int) < l.length := by omega
        have hwj : IntKind.wrap .i64 ((j : Int) + 1) = (j : Int) + 1 := IntWalk.i64_in _ (by omega)
        obtain ⟨b, hb⟩ : ∃ b, l[j]? = some b := ⟨_, List.getElem?_eq_getElem hj⟩
        have ob := hL b (List.mem_of_getElem? hb)
        have hP : onTwo l (tryT slack t) i j = (tryF (howR a.f b.f t) a.s b.s slack).2.2 := by unfold onTwo; rw [ha, hb]; rfl
        rw [hP] at hgk
        have hA : Ans prog (howN t) [filt a.f, filt b.f] (.tup [filt (howR a.f b.f t).1, .iv (.int .u64 (howR a.f b.f t).2.1), .iv (.bool (howR a.f b.f t).2.2)]) := by
          unfold howN howR
          split
          · exact p_perf1 H a.f b.f (fun z h => (oa.b z h).fits) (fun z h => (ob.b z h).fits)
          · exact p_hull H.toLib5 a.f b.f (fun z h => (oa.b z h).fits) (fun z h => (ob.b z h).fits)
        obtain ⟨K1, hK1⟩ := p_try H hA a.i b.i a.s b.s slack
        generalize tryF (howR a.f b.f t) a.s b.s slack = tr at hgk hK1
        refine Wp.seq (Wp.seq ?_)
        refine Wp.rgn (K := 0) (fun n _ => by simp [evalRgn, Option.map_some, evalOps, step, wants, osem, M.run_bind, M.mapL, M.run, M.ok, M.fresh, M.write, M.look, M.lift, putD, Arb.set, ev, Arb.get, keepFr, bin, intBin, strBin, mk, params, cellsM, load, obRead, fadr, fld, isl, iarr, xarr, idx, len, valid, slc, bound, store, splice, nilc, un, eqs, eq0, evalFeet, footOf, M.foot, orderOk, apartAll, apart1, clash, meets, callM, fcallM, callee, fz1, fzC, fz, flat, flat1, flat0, flatI, Option.bind_some, putAll, M.bind, ents, hj]; rfl) ?_
        refine Wp.cond rfl (Wp.skip (Wp.seq (Wp.block (Wp.seq ?_))))
        refine Wp.rgn (K := K1) (fun n hn => by
          have e1 := hK1 n hn
          simp only [entry, List.map_cons, List.map_nil] at e1
          generalize evalF prog n = g at e1
          simp [evalRgn, Option.map_some, evalOps, step, wants, osem, M.run_bind, M.mapL, M.run, M.ok, M.fresh, M.write, M.look, M.lift, putD, Arb.set, ev, Arb.get, keepFr, bin, intBin, strBin, mk, params, cellsM, load, obRead, fadr, fld, isl, iarr, xarr, idx, len, valid, slc, bound, store, splice, nilc, un, eqs, eq0, evalFeet, footOf, M.foot, orderOk, apartAll, apart1, clash, meets, callM, fcallM, callee, fz1, fzC, fz, flat, flat1, flat0, flatI, Option.bind_some, putAll, M.bind, ents, EN.enc, entry, ha, hb, e1]
          rfl) ?_
        refine Wp.seq ?_
        refine Wp.rgn (K := 0) (fun n _ => by simp [evalRgn, Option.map_some, evalOps, step, wants, osem, M.run_bind, M.mapL, M.run, M.ok, M.fresh, M.write, M.look, M.lift, putD, Arb.set, ev, Arb.get, keepFr, bin, intBin, strBin, mk, params, cellsM, load, obRead, fadr, fld, isl, iarr, xarr, idx, len, valid, slc, bound, store, splice, nilc, un, eqs, eq0, evalFeet, footOf, M.foot, orderOk, apartAll, apart1, clash, meets, callM, fcallM, callee, fz1, fzC, fz, flat, flat1, flat0, flatI, Option.bind_some, putAll, M.bind]; rfl) ?_
        refine Wp.cond rfl ?_
        cases hok : tr.2.2 with
        | true =>
          rw [hok, if_pos rfl] at hgk
          simp only at hgk
          refine Wp.seq ?_
          refine Wp.rgn (K := 0) (fun n _ => by simp [evalRgn, Option.map_some, evalOps, step, wants, osem, M.run_bind, M.mapL, M.run, M.ok, M.fresh, M.write, M.look, M.lift, putD, Arb.set, ev, Arb.get, keepFr, bin, intBin, strBin, mk, params, cellsM, load, obRead, fadr, fld, isl, iarr, xarr, idx, len, valid, slc, bound, store, splice, nilc, un, eqs, eq0, evalFeet, footOf, M.foot, orderOk, apartAll, apart1, clash, meets, callM, fcallM, callee, fz1, fzC, fz, flat, flat1, flat0, flatI, Option.bind_some, putAll, M.bind]; rfl) ?_
          refine Wp.ret ?_
          rw [hgk]
          have ht1 : ((t : Int) == 0) = (t == 0) := by rw [Bool.eq_iff_iff]; simp
          show FinS F13.res _ .ret _
          simp [FinS, F13, resAll, resM, outA, ev, get, M.run, shut, fzA, fz1, fzC, fz, M.run_bind, M.bind, M.mapL, ht1]
        | false =>
          rw [hok, if_neg Bool.false_ne_true] at hgk
          refine Wp.skip ?_
          simp only [Ex.then, Ex.inBlock]
          refine Wp.rgn (K := 0) (fun n _ => by simp [evalRgn, Option.map_some, evalOps, step, wants, osem, M.run_bind, M.mapL, M.run, M.ok, M.fresh, M.write, M.look, M.lift, putD, Arb.set, ev, Arb.get, keepFr, bin, intBin, strBin, mk, params, cellsM, load, obRead, fadr, fld, isl, iarr, xarr, idx, len, valid, slc, bound, store, splice, nilc, un, eqs, eq0, evalFeet, footOf, M.foot, orderOk, apartAll, apart1, clash, meets, callM, fcallM, callee, fz1, fzC, fz, flat, flat1, flat0, flatI, Option.bind_some, putAll, M.bind]; rfl) ?_
          exact ⟨by simp [again, keepFr, get, nrm, nrmO, ents, hwj], hgk⟩
      · intro hgk
        rw [Nat.sub_self, rowF] at hgk
        simp only at hgk
        refine Wp.seq (Wp.seq ?_)
        refine Wp.rgn (K := 0) (fun n _ => by simp [evalRgn, Option.map_some, evalOps, step, wants, osem, M.run_bind, M.mapL, M.run, M.ok, M.fresh, M.write, M.look, M.lift, putD, Arb.set, ev, Arb.get, keepFr, bin, intBin, strBin, mk, params, cellsM, load, obRead, fadr, fld, isl, iarr, xarr, idx, len, valid, slc, bound, store, splice, nilc, un, eqs, eq0, evalFeet, footOf, M.foot, orderOk, apartAll, apart1, clash, meets, callM, fcallM, callee, fz1, fzC, fz, flat, flat1, flat0, flatI, Option.bind_some, putAll, M.bind, ents]; rfl) ?_
        have hno : decide ((i : Int) + 1 + ((l.length - (i + 1) : Nat) : Int) < l.length) = false := decide_eq_false (by omega)
        refine Wp.cond rfl ?_
        rw [hno]
        refine Wp.exit ?_
        simp only [Ex.then, Ex.inBlock, if_true]
        refine Wp.rgn (K := 0) (fun n _ => by simp [evalRgn, Option.map_some, evalOps, step, wants, osem, M.run_bind, M.mapL, M.run, M.ok, M.fresh, M.write, M.look, M.lift, putD, Arb.set, ev, Arb.get, keepFr, bin, intBin, strBin, mk, params, cellsM, load, obRead, fadr, fld, isl, iarr, xarr, idx, len, valid, slc, bound, store, splice, nilc, un, eqs, eq0, evalFeet, footOf, M.foot, orderOk, apartAll, apart1, clash, meets, callM, fcallM, callee, fz1, fzC, fz, flat, flat1, flat0, flatI, Option.bind_some, putAll, M.bind]; rfl) ?_
        exact ⟨by simp [again, keepFr, get, nrm, nrmO, ents, hwi], hgk⟩
    · intro hgi
      rw [Nat.sub_self, pairF] at hgi
      refine Wp.seq ?_
      refine Wp.rgn (K := 0) (fun n _ => by simp [evalRgn, Option.map_some, evalOps, step, wants, osem, M.run_bind, M.mapL, M.run, M.ok, M.fresh, M.write, M.look, M.lift, putD, Arb.set, ev, Arb.get, keepFr, bin, intBin, strBin, mk, params, cellsM, load, obRead, fadr, fld, isl, iarr, xarr, idx, len, valid, slc, bound, store, splice, nilc, un, eqs, eq0, evalFeet, footOf, M.foot, orderOk, apartAll, apart1, clash, meets, callM, fcallM, callee, fz1, fzC, fz, flat, flat1, flat0, flatI, Option.bind_some, putAll, M.bind]; rfl) ?_
      refine Wp.seq (Wp.cond rfl (Wp.exit ?_))
      simp only [Ex.then, Ex.inBlock, if_true]
      refine Wp.rgn (K := 0) (fun n _ => by simp [evalRgn, Option.map_some, evalOps, step, wants, osem, M.run_bind, M.mapL, M.run, M.ok, M.fresh, M.write, M.look, M.lift, putD, Arb.set, ev, Arb.get, keepFr, bin, intBin, strBin, mk, params, cellsM, load, obRead, fadr, fld, isl, iarr, xarr, idx, len, valid, slc, bound, store, splice, nilc, un, eqs, eq0, evalFeet, footOf, M.foot, orderOk, apartAll, apart1, clash, meets, callM, fcallM, callee, fz1, fzC, fz, flat, flat1, flat0, flatI, Option.bind_some, putAll, M.bind]; rfl) ?_
      exact ⟨by simp [again, keepFr, get, nrm, nrmO, ents, hwt], hgi⟩
  · intro hg
    refine Wp.seq ?_
    refine Wp.rgn (K := 0) (fun n _ => by simp [evalRgn, Option.map_some, evalOps, step, wants, osem, M.run_bind, M.mapL, M.run, M.ok, M.fresh, M.write, M.look, M.lift, putD, Arb.set, ev, Arb.get, keepFr, bin, intBin, strBin, mk, params, cellsM, load, obRead, fadr, fld, isl, iarr, xarr, idx, len, valid, slc, bound, store, splice, nilc, un, eqs, eq0, evalFeet, footOf, M.foot, orderOk, apartAll, apart1, clash, meets, callM, fcallM, callee, fz1, fzC, fz, flat, flat1, flat0, flatI, Option.bind_some, putAll, M.bind]; rfl) ?_
    refine Wp.seq (Wp.cond rfl (Wp.exit ?_))
    simp only [Ex.then, Ex.inBlock, if_true]
    refine Wp.seq ?_
    refine Wp.rgn (K := 0) (fun n _ => by simp [evalRgn, Option.map_some, evalOps, step, wants, osem, M.run_bind, M.mapL, M.run, M.ok, M.fresh, M.write, M.look, M.lift, putD, Arb.set, ev, Arb.get, keepFr, bin, intBin, strBin, mk, params, cellsM, load, obRead, fadr, fld, isl, iarr, xarr, idx, len, valid, slc, bound, store, splice, nilc, un, eqs, eq0, evalFeet, footOf, M.foot, orderOk, apartAll, apart1, clash, meets, callM, fcallM, callee, fz1, fzC, fz, flat, flat1, flat0, flatI, Option.bind_some, putAll, M.bind]; rfl) ?_
    refine Wp.ret ?_
    rw [hg]; rfl
end
end Arb

/-
  WHICH TWO ARE MERGED FIRST: the document's answer is the same.
-/
set_option linter.unusedSimpArgs false
namespace Arb
open Go

theorem rowF_some {P : Nat → Bool} : ∀ m j k, rowF P m j = some k → P k = true ∧ j ≤ k ∧ k < j + m
  | 0, _, _, h => by cases h
  | m + 1, j, k, h => by
    rw [rowF] at h
    split at h
    · rename_i hp; cases h; exact ⟨hp, Nat.le_refl _, by omega⟩
    · obtain ⟨h1, h2, h3⟩ := rowF_some m (j + 1) k h; exact ⟨h1, by omega, by omega⟩
theorem pairF_some {P : Nat → Nat → Bool} {n : Nat} : ∀ m i a b, i + m ≤ n → pairF P n m i = some (a, b) → P a b = true ∧ a < b ∧ b < n
  | 0, _, _, _, _, h => by cases h
  | m + 1, i, a, b, hn, h => by
    rw [pairF] at h
    split at h
    · rename_i j hj
      cases h
      obtain ⟨h1, h2, h3⟩ := rowF_some _ _ _ hj
      exact ⟨h1, by omega, by omega⟩
    · exact pairF_some m (i + 1) a b (by omega) h

def docT (slack : Int) (t : Nat) (a b : EN) : Bool := (entriesF a.f b.f a.s b.s slack).2.2 && ((perfF a.f b.f).2 || t == 1)
def perfT (a b : EN) : Bool := (perfF a.f b.f).2
def goOnD (l : List EN) (r : Option (Nat × Nat)) (e : Int × Int × Bool × Bool) : Int × Int × Bool × Bool := match r with
  | some (i, j) => (i, j, onTwo l perfT i j, true)
  | none => e
def bestD (l : List EN) (slack : Int) : Nat → Int × Int × Bool × Bool
  | 0 => goOnD l (pairF (onTwo l (docT slack 0)) l.length l.length 0) (goOnD l (pairF (onTwo l (docT slack 1)) l.length l.length 0) (0, 0, false, false))
  | 1 => goOnD l (pairF (onTwo l (docT slack 1)) l.length l.length 0) (0, 0, false, false)
  | _ => (0, 0, false, false)

theorem tryF_not {r : List B × Int × Bool} {sa sb slack : Int} (h : r.2.2 = false) : (tryF r sa sb slack).2.2 = false := by
  cases ht : (tryF r sa sb slack).2.2 with
  | false => rfl
  | true => have := (tryF_some ht).1; rw [h] at this; cases this
theorem doc0 (slack : Int) (a b : EN) : docT slack 0 a b = tryT slack 0 a b := by
  unfold docT tryT howR entriesF
  cases h : (perfF a.f b.f).2 with
  | true => simp
  | false =>
    have : (tryF (perfH a.f b.f) a.s b.s slack).2.2 = false := tryF_not (by unfold perfH; exact h)
    simp [this]
theorem doc1 {slack : Int} {a b : EN} (ha : a.ok) (hb : b.ok) (h0 : tryT slack 0 a b = false) : docT slack 1 a b = tryT slack 1 a b ∧ (docT slack 1 a b = true → perfT a b = false) := by
  unfold docT tryT perfT at *
  unfold howR at *
  simp only [if_true, if_neg (show ¬ (1 : Nat) = 0 by decide)] at *
  have hnb := not_both ha.b hb.b
  unfold entriesF
  cases h : (perfF a.f b.f).2 with
  | true =>
    rw [h, Bool.true_and] at hnb
    rw [if_pos rfl, h0, tryF_not hnb]
    simp
  | false =>
    rw [if_neg Bool.false_ne_true]
    cases hh : (hullF a.f b.f).2.2 with
    | true => simp
    | false => rw [if_neg Bool.false_ne_true, tryF_not hh]; simp
theorem bestD_eq {l : List EN} (hL : ∀ x ∈ l, x.ok) (slack : Int) : bestD l slack 0 = bestR l slack 0 := by
  have e0 : onTwo l (docT slack 0) = onTwo l (tryT slack 0) := by
    funext i j
    unfold onTwo
    split
    · exact doc0 _ _ _
    · rfl
  unfold bestD bestR
  rw [e0]
  cases h : pairF (onTwo l (tryT slack 0)) l.length l.length 0 with
  | some q =>
    obtain ⟨i, j⟩ := q
    obtain ⟨hp, -, -⟩ := pairF_some _ _ _ _ (by omega) h
    have : onTwo l perfT i j = true := by
      unfold onTwo at hp ⊢
      split at hp
      · rename_i a b ha hb
        unfold perfT
        rw [← doc0] at hp
        unfold docT at hp
        rw [Bool.and_eq_true] at hp
        simpa using hp.2
      · cases hp
    simp only [goOnD, goOn, this]
  | none =>
    have hno := pairF_none _ _ (by omega) h
    have hall : ∀ a b, a < b → b < l.length → onTwo l (docT slack 1) a b = onTwo l (tryT slack 1) a b ∧ (onTwo l (docT slack 1) a b = true → onTwo l perfT a b = false) := by
      intro a b hab hb
      obtain ⟨x, hx⟩ : ∃ x, l[a]? = some x := ⟨_, List.getElem?_eq_getElem (by omega)⟩
      obtain ⟨y, hy⟩ : ∃ y, l[b]? = some y := ⟨_, List.getElem?_eq_getElem hb⟩
      have h0 := hno a b (by omega) (by omega) hab hb
      unfold onTwo at h0 ⊢
      rw [hx, hy] at h0 ⊢
      exact doc1 (hL x (List.mem_of_getElem? hx)) (hL y (List.mem_of_getElem? hy)) h0
    have e1 : pairF (onTwo l (docT slack 1)) l.length l.length 0 = pairF (onTwo l (tryT slack 1)) l.length l.length 0 := pairF_congr _ _ (by omega) fun a b h1 h2 => (hall a b h1 h2).1
    simp only [goOnD, goOn, e1]
    cases h1 : pairF (onTwo l (tryT slack 1)) l.length l.length 0 with
    | none => rfl
    | some q =>
      obtain ⟨i, j⟩ := q
      obtain ⟨hp, hij, hj⟩ := pairF_some _ _ _ _ (by omega) h1
      obtain ⟨k1, k2⟩ := hall i j hij hj
      rw [← k1] at hp
      simp only [k2 hp]

section
variable {prog : Nat → Option IFn}

set_option maxHeartbeats 16000000 in
theorem p_bestD (D : Doc prog) (h : prog 95 = some F95) (l : List EN) (slack : Int) (hl : l.length ≤ 8) (hL : ∀ x ∈ l, x.ok) :
    Ans prog 95 [ents l, .iv (.int .u64 slack)] (.tup [.iv (.int .i64 (bestR l slack 0).1), .iv (.int .i64 (bestR l slack 0).2.1), .iv (.bool (bestR l slack 0).2.2.1), .iv (.bool (bestR l slack 0).2.2.2)]) := by
  rw [← bestD_eq hL slack]
  generalize hr : bestD l slack 0 = res
  refine Ans.of h rfl rfl (Wp.seq ?_)
  refine Wp.rgn (K := 0) (fun n _ => by simp [evalRgn, Option.map_some, evalOps, step, wants, osem, M.run_bind, M.mapL, M.run, M.ok, M.fresh, M.write, M.look, M.lift, putD, Arb.set, ev, Arb.get, keepFr, bin, intBin, strBin, mk, params, cellsM, load, obRead, fadr, fld, isl, iarr, xarr, idx, len, valid, slc, bound, store, splice, nilc, un, eqs, eq0, evalFeet, footOf, M.foot, orderOk, apartAll, apart1, clash, meets, callM, fcallM, callee, fz1, fzC, fz, flat, flat1, flat0, flatI, Option.bind_some, putAll, M.bind]; rfl) ?_
  refine Wp.seq (Wp.seq ?_)
  refine Wp.rgn (K := 0) (fun n _ => by simp [evalRgn, Option.map_some, evalOps, step, wants, osem, M.run_bind, M.mapL, M.run, M.ok, M.fresh, M.write, M.look, M.lift, putD, Arb.set, ev, Arb.get, keepFr, bin, intBin, strBin, mk, params, cellsM, load, obRead, fadr, fld, isl, iarr, xarr, idx, len, valid, slc, bound, store, splice, nilc, un, eqs, eq0, evalFeet, footOf, M.foot, orderOk, apartAll, apart1, clash, meets, callM, fcallM, callee, fz1, fzC, fz, flat, flat1, flat0, flatI, Option.bind_some, putAll, M.bind]; rfl) ?_
  refine Wp.block ?_
  refine Wp.range 2 (fun t => ⟨[(0, ents l), (1, .iv (.int .u64 slack)), (8, .iv (.int .i64 t))], [], 1320⟩) (fun t => res = bestD l slack t) rfl hr.symm ?_ ?_
  · intro t ht hg
    have ht0 : (t : Int) < 2 := by omega
    have hwt : IntKind.wrap .i64 ((t : Int) + 1) = (t : Int) + 1 := IntWalk.i64_in _ (by omega)
    have hg : res = goOnD l (pairF (onTwo l (docT slack t)) l.length l.length 0) (bestD l slack (t + 1)) := by
      rw [hg]
      match t, ht with
      | 0, _ => rfl
      | 1, _ => rfl
    refine Wp.seq (Wp.seq ?_)
    refine Wp.rgn (K := 0) (fun n _ => by simp [evalRgn, Option.map_some, evalOps, step, wants, osem, M.run_bind, M.mapL, M.run, M.ok, M.fresh, M.write, M.look, M.lift, putD, Arb.set, ev, Arb.get, keepFr, bin, intBin, strBin, mk, params, cellsM, load, obRead, fadr, fld, isl, iarr, xarr, idx, len, valid, slc, bound, store, splice, nilc, un, eqs, eq0, evalFeet, footOf, M.foot, orderOk, apartAll, apart1, clash, meets, callM, fcallM, callee, fz1, fzC, fz, flat, flat1, flat0, flatI, Option.bind_some, putAll, M.bind, ht0]; rfl) ?_
    refine Wp.cond rfl (Wp.skip (Wp.seq (Wp.block (Wp.seq ?_))))
    refine Wp.rgn (K := 0) (fun n _ => by simp [evalRgn, Option.map_some, evalOps, step, wants, osem, M.run_bind, M.mapL, M.run, M.ok, M.fresh, M.write, M.look, M.lift, putD, Arb.set, ev, Arb.get, keepFr, bin, intBin, strBin, mk, params, cellsM, load, obRead, fadr, fld, isl, iarr, xarr, idx, len, valid, slc, bound, store, splice, nilc, un, eqs, eq0, evalFeet, footOf, M.foot, orderOk, apartAll, apart1, clash, meets, callM, fcallM, callee, fz1, fzC, fz, flat, flat1, flat0, flatI, Option.bind_some, putAll, M.bind]; rfl) ?_
    refine Wp.block ?_
    refine Wp.range l.length (fun i => ⟨[(0, ents l), (1, .iv (.int .u64 slack)), (8, .iv (.int .i64 t)), (9, .iv (.int .i64 i))], [], 1512⟩)
      (fun i => res = goOnD l (pairF (onTwo l (docT slack t)) l.length (l.length - i) i) (bestD l slack (t + 1))) (by simp [keepFr, get]) hg ?_ ?_
    · intro i hi hgi
      have hi0 : (i : Int) < l.length := by omega
      have hwi : IntKind.wrap .i64 ((i : Int) + 1) = (i : Int) + 1 := IntWalk.i64_in _ (by omega)
      obtain ⟨a, ha⟩ : ∃ a, l[i]? = some a := ⟨_, List.getElem?_eq_getElem hi⟩
      have oa := hL a (List.mem_of_getElem? ha)
      have hgi : res = (match rowF (onTwo l (docT slack t) i) (l.length - (i + 1)) (i + 1) with
          | some j => ((i : Int), (j : Int), onTwo l perfT i j, true)
          | none => goOnD l (pairF (onTwo l (docT slack t)) l.length (l.length - (i + 1)) (i + 1)) (bestD l slack (t + 1))) := by
        rw [hgi, show l.length - i = (l.length - (i + 1)) + 1 by omega, pairF]
        cases rowF (onTwo l (docT slack t) i) (l.length - (i + 1)) (i + 1) <;> rfl
      generalize goOnD l (pairF (onTwo l (docT slack t)) l.length (l.length - (i + 1)) (i + 1)) (bestD l slack (t + 1)) = els at hgi
      refine Wp.seq (Wp.seq ?_)
      refine Wp.rgn (K := 0) (fun n _ => by simp [evalRgn, Option.map_some, evalOps, step, wants, osem, M.run_bind, M.mapL, M.run, M.ok, M.fresh, M.write, M.look, M.lift, putD, Arb.set, ev, Arb.get, keepFr, bin, intBin, strBin, mk, params, cellsM, load, obRead, fadr, fld, isl, iarr, xarr, idx, len, valid, slc, bound, store, splice, nilc, un, eqs, eq0, evalFeet, footOf, M.foot, orderOk, apartAll, apart1, clash, meets, callM, fcallM, callee, fz1, fzC, fz, flat, flat1, flat0, flatI, Option.bind_some, putAll, M.bind, ents, hi]; rfl) ?_
      refine Wp.cond rfl (Wp.skip (Wp.seq (Wp.block (Wp.seq ?_))))
      refine Wp.rgn (K := 0) (fun n _ => by simp [evalRgn, Option.map_some, evalOps, step, wants, osem, M.run_bind, M.mapL, M.run, M.ok, M.fresh, M.write, M.look, M.lift, putD, Arb.set, ev, Arb.get, keepFr, bin, intBin, strBin, mk, params, cellsM, load, obRead, fadr, fld, isl, iarr, xarr, idx, len, valid, slc, bound, store, splice, nilc, un, eqs, eq0, evalFeet, footOf, M.foot, orderOk, apartAll, apart1, clash, meets, callM, fcallM, callee, fz1, fzC, fz, flat, flat1, flat0, flatI, Option.bind_some, putAll, M.bind, hwi]; rfl) ?_
      refine Wp.block ?_
      refine Wp.range (l.length - (i + 1)) (fun k => ⟨[(0, ents l), (1, .iv (.int .u64 slack)), (8, .iv (.int .i64 t)), (9, .iv (.int .i64 i)), (10, .iv (.int .i64 ((i : Int) + 1 + k)))], [], 1960⟩)
        (fun k => res = (match rowF (onTwo l (docT slack t) i) (l.length - (i + 1) - k) (i + 1 + k) with
          | some j => ((i : Int), (j : Int), onTwo l perfT i j, true)
          | none => els)) (by simp [keepFr, get, ents]) hgi ?_ ?_
      · intro k hk hgk
        have hcj : (i : Int) + 1 + k = ((i + 1 + k : Nat) : Int) := by omega
        have hcj2 : (i : Int) + 1 + ((k + 1 : Nat) : Int) = ((i + 1 + k : Nat) : Int) + 1 := by omega
        have hj : i + 1 + k < l.length := by omega
        rw [show l.length - (i + 1) - k = (l.length - (i + 1) - (k + 1)) + 1 by omega, rowF] at hgk
        rw [hcj, hcj2, show i + 1 + (k + 1) = i + 1 + k + 1 by omega]
        generalize i + 1 + k = j at hj hgk
        have hwj : IntKind.wrap .i64 ((j : Int) + 1) = (j : Int) + 1 := IntWalk.i64_in _ (by omega)
        obtain ⟨b, hb⟩ : ∃ b, l[j]? = some b := ⟨_, List.getElem?_eq_getElem hj⟩
        have ob := hL b (List.mem_of_getElem? hb)
        have hP : onTwo l (docT slack t) i j = ((entriesF a.f b.f a.s b.s slack).2.2 && ((perfF a.f b.f).2 || t == 1)) := by unfold onTwo; rw [ha, hb]; rfl
        have hQ : onTwo l perfT i j = (perfF a.f b.f).2 := by unfold onTwo; rw [ha, hb]; rfl
        rw [hP] at hgk
        obtain ⟨K1, hK1⟩ := p_perfectD D a.f b.f oa.l ob.l oa.b ob.b
        obtain ⟨K2, hK2⟩ := p_entriesD D a.f b.f oa.l ob.l oa.b ob.b a.i b.i a.s b.s slack oa.s ob.s
        generalize perfF a.f b.f = pf at hgk hK1 hQ
        generalize entriesF a.f b.f a.s b.s slack = en at hgk hK2
        refine Wp.seq (Wp.seq ?_)
        refine Wp.rgn (K := 0) (fun n _ => by simp [evalRgn, Option.map_some, evalOps, step, wants, osem, M.run_bind, M.mapL, M.run, M.ok, M.fresh, M.write, M.look, M.lift, putD, Arb.set, ev, Arb.get, keepFr, bin, intBin, strBin, mk, params, cellsM, load, obRead, fadr, fld, isl, iarr, xarr, idx, len, valid, slc, bound, store, splice, nilc, un, eqs, eq0, evalFeet, footOf, M.foot, orderOk, apartAll, apart1, clash, meets, callM, fcallM, callee, fz1, fzC, fz, flat, flat1, flat0, flatI, Option.bind_some, putAll, M.bind, ents, hj]; rfl) ?_
        refine Wp.cond rfl (Wp.skip (Wp.seq (Wp.block (Wp.seq ?_))))
        refine Wp.rgn (K := K1) (s' := ⟨[(0, ents l), (1, .iv (.int .u64 slack)), (8, .iv (.int .i64 t)), (9, .iv (.int .i64 i)), (10, .iv (.int .i64 j)), (12, .iv (.bool pf.2))], [], 3240⟩) (fun n hn => by
          have e1 := hK1 n hn
          simp only [filt] at e1
          generalize evalF prog n = g at e1
          simp [evalRgn, Option.map_some, evalOps, step, wants, osem, M.run_bind, M.mapL, M.run, M.ok, M.fresh, M.write, M.look, M.lift, putD, Arb.set, ev, Arb.get, keepFr, bin, intBin, strBin, mk, params, cellsM, load, obRead, fadr, fld, isl, iarr, xarr, idx, len, valid, slc, bound, store, splice, nilc, un, eqs, eq0, evalFeet, footOf, M.foot, orderOk, apartAll, apart1, clash, meets, callM, fcallM, callee, fz1, fzC, fz, flat, flat1, flat0, flatI, Option.bind_some, putAll, M.bind, ents, EN.enc, entry, filt, ha, hb, e1]) ?_
        refine Wp.seq ?_
        refine Wp.rgn (K := K2) (fun n hn => by
          have e1 := hK2 n hn
          simp only [entry, List.map_cons, List.map_nil] at e1
          generalize evalF prog n = g at e1
          simp [evalRgn, Option.map_some, evalOps, step, wants, osem, M.run_bind, M.mapL, M.run, M.ok, M.fresh, M.write, M.look, M.lift, putD, Arb.set, ev, Arb.get, keepFr, bin, intBin, strBin, mk, params, cellsM, load, obRead, fadr, fld, isl, iarr, xarr, idx, len, valid, slc, bound, store, splice, nilc, un, eqs, eq0, evalFeet, footOf, M.foot, orderOk, apartAll, apart1, clash, meets, callM, fcallM, callee, fz1, fzC, fz, flat, flat1, flat0, flatI, Option.bind_some, putAll, M.bind, ents, EN.enc, entry, ha, hb, e1]
          rfl) ?_
        refine Wp.seq ?_
        have ht1 : ((t : Int) == 1) = (t == 1) := by rw [Bool.eq_iff_iff]; simp; omega
        refine Wp.rgn (K := 0) (s' := ⟨[(0, ents l), (1, .iv (.int .u64 slack)), (8, .iv (.int .i64 t)), (9, .iv (.int .i64 i)), (10, .iv (.int .i64 j)), (12, .iv (.bool pf.2)), (67, .iv (.bool (en.2.2 && (pf.2 || t == 1))))], _, _⟩) (fun n hn => by
          cases h1 : en.2.2 <;> cases h2 : pf.2 <;> simp [evalRgn, Option.map_some, evalOps, step, wants, osem, M.run_bind, M.mapL, M.run, M.ok, M.fresh, M.write, M.look, M.lift, putD, Arb.set, ev, Arb.get, keepFr, bin, intBin, strBin, mk, params, cellsM, load, obRead, fadr, fld, isl, iarr, xarr, idx, len, valid, slc, bound, store, splice, nilc, un, eqs, eq0, evalFeet, footOf, M.foot, orderOk, apartAll, apart1, clash, meets, callM, fcallM, callee, fz1, fzC, fz, flat, flat1, flat0, flatI, Option.bind_some, putAll, M.bind, ents, h1, h2, ht1] <;> exact ⟨rfl, rfl⟩) ?_
        refine Wp.cond rfl ?_
        cases hok : en.2.2 && (pf.2 || t == 1) with
        | true =>
          rw [hok, if_pos rfl] at hgk
          simp only [hQ] at hgk
          refine Wp.seq ?_
          refine Wp.rgn (K := 0) (fun n _ => by simp [evalRgn, Option.map_some, evalOps, step, wants, osem, M.run_bind, M.mapL, M.run, M.ok, M.fresh, M.write, M.look, M.lift, putD, Arb.set, ev, Arb.get, keepFr, bin, intBin, strBin, mk, params, cellsM, load, obRead, fadr, fld, isl, iarr, xarr, idx, len, valid, slc, bound, store, splice, nilc, un, eqs, eq0, evalFeet, footOf, M.foot, orderOk, apartAll, apart1, clash, meets, callM, fcallM, callee, fz1, fzC, fz, flat, flat1, flat0, flatI, Option.bind_some, putAll, M.bind]; rfl) ?_
          refine Wp.ret ?_
          rw [hgk]; rfl
        | false =>
          rw [hok, if_neg Bool.false_ne_true] at hgk
          refine Wp.skip ?_
          simp only [Ex.then, Ex.inBlock]
          refine Wp.rgn (K := 0) (fun n _ => by simp [evalRgn, Option.map_some, evalOps, step, wants, osem, M.run_bind, M.mapL, M.run, M.ok, M.fresh, M.write, M.look, M.lift, putD, Arb.set, ev, Arb.get, keepFr, bin, intBin, strBin, mk, params, cellsM, load, obRead, fadr, fld, isl, iarr, xarr, idx, len, valid, slc, bound, store, splice, nilc, un, eqs, eq0, evalFeet, footOf, M.foot, orderOk, apartAll, apart1, clash, meets, callM, fcallM, callee, fz1, fzC, fz, flat, flat1, flat0, flatI, Option.bind_some, putAll, M.bind]; rfl) ?_
          exact ⟨by simp [again, keepFr, get, nrm, nrmO, ents, hwj], hgk⟩
      · intro hgk
        rw [Nat.sub_self, rowF] at hgk
        simp only at hgk
        refine Wp.seq (Wp.seq ?_)
        refine Wp.rgn (K := 0) (fun n _ => by simp [evalRgn, Option.map_some, evalOps, step, wants, osem, M.run_bind, M.mapL, M.run, M.ok, M.fresh, M.write, M.look, M.lift, putD, Arb.set, ev, Arb.get, keepFr, bin, intBin, strBin, mk, params, cellsM, load, obRead, fadr, fld, isl, iarr, xarr, idx, len, valid, slc, bound, store, splice, nilc, un, eqs, eq0, evalFeet, footOf, M.foot, orderOk, apartAll, apart1, clash, meets, callM, fcallM, callee, fz1, fzC, fz, flat, flat1, flat0, flatI, Option.bind_some, putAll, M.bind, ents]; rfl) ?_
        have hno : decide ((i : Int) + 1 + ((l.length - (i + 1) : Nat) : Int) < l.length) = false := decide_eq_false (by omega)
        refine Wp.cond rfl ?_
        rw [hno]
        refine Wp.exit ?_
        simp only [Ex.then, Ex.inBlock, if_true]
        refine Wp.rgn (K := 0) (fun n _ => by simp [evalRgn, Option.map_some, evalOps, step, wants, osem, M.run_bind, M.mapL, M.run, M.ok, M.fresh, M.write, M.look, M.lift, putD, Arb.set, ev, Arb.get, keepFr, bin, intBin, strBin, mk, params, cellsM, load, obRead, fadr, fld, isl, iarr, xarr, idx, len, valid, slc, bound, store, splice, nilc, un, eqs, eq0, evalFeet, footOf, M.foot, orderOk, apartAll, apart1, clash, meets, callM, fcallM, callee, fz1, fzC, fz, flat, flat1, flat0, flatI, Option.bind_some, putAll, M.bind]; rfl) ?_
        exact ⟨by simp [again, keepFr, get, nrm, nrmO, ents, hwi], hgk⟩
    · intro hgi
      rw [Nat.sub_self, pairF] at hgi
      refine Wp.seq (Wp.seq ?_)
      refine Wp.rgn (K := 0) (fun n _ => by simp [evalRgn, Option.map_some, evalOps, step, wants, osem, M.run_bind, M.mapL, M.run, M.ok, M.fresh, M.write, M.look, M.lift, putD, Arb.set, ev, Arb.get, keepFr, bin, intBin, strBin, mk, params, cellsM, load, obRead, fadr, fld, isl, iarr, xarr, idx, len, valid, slc, bound, store, splice, nilc, un, eqs, eq0, evalFeet, footOf, M.foot, orderOk, apartAll, apart1, clash, meets, callM, fcallM, callee, fz1, fzC, fz, flat, flat1, flat0, flatI, Option.bind_some, putAll, M.bind, ents]; rfl) ?_
      refine Wp.cond rfl (Wp.exit ?_)
      simp only [Ex.then, Ex.inBlock, if_true]
      refine Wp.rgn (K := 0) (fun n _ => by simp [evalRgn, Option.map_some, evalOps, step, wants, osem, M.run_bind, M.mapL, M.run, M.ok, M.fresh, M.write, M.look, M.lift, putD, Arb.set, ev, Arb.get, keepFr, bin, intBin, strBin, mk, params, cellsM, load, obRead, fadr, fld, isl, iarr, xarr, idx, len, valid, slc, bound, store, splice, nilc, un, eqs, eq0, evalFeet, footOf, M.foot, orderOk, apartAll, apart1, clash, meets, callM, fcallM, callee, fz1, fzC, fz, flat, flat1, flat0, flatI, Option.bind_some, putAll, M.bind]; rfl) ?_
      exact ⟨by simp [again, keepFr, get, nrm, nrmO, ents, hwt], hgi⟩
  · intro hg
    refine Wp.seq (Wp.seq ?_)
    refine Wp.rgn (K := 0) (fun n _ => by simp [evalRgn, Option.map_some, evalOps, step, wants, osem, M.run_bind, M.mapL, M.run, M.ok, M.fresh, M.write, M.look, M.lift, putD, Arb.set, ev, Arb.get, keepFr, bin, intBin, strBin, mk, params, cellsM, load, obRead, fadr, fld, isl, iarr, xarr, idx, len, valid, slc, bound, store, splice, nilc, un, eqs, eq0, evalFeet, footOf, M.foot, orderOk, apartAll, apart1, clash, meets, callM, fcallM, callee, fz1, fzC, fz, flat, flat1, flat0, flatI, Option.bind_some, putAll, M.bind]; rfl) ?_
    refine Wp.cond rfl (Wp.exit ?_)
    simp only [Ex.then, Ex.inBlock, if_true]
    refine Wp.seq ?_
    refine Wp.rgn (K := 0) (fun n _ => by simp [evalRgn, Option.map_some, evalOps, step, wants, osem, M.run_bind, M.mapL, M.run, M.ok, M.fresh, M.write, M.look, M.lift, putD, Arb.set, ev, Arb.get, keepFr, bin, intBin, strBin, mk, params, cellsM, load, obRead, fadr, fld, isl, iarr, xarr, idx, len, valid, slc, bound, store, splice, nilc, un, eqs, eq0, evalFeet, footOf, M.foot, orderOk, apartAll, apart1, clash, meets, callM, fcallM, callee, fz1, fzC, fz, flat, flat1, flat0, flatI, Option.bind_some, putAll, M.bind]; rfl) ?_
    refine Wp.ret ?_
    rw [hg]; rfl
end
end Arb

/-
  MergeBest: THE WALK.
-/
set_option linter.unusedSimpArgs false
namespace Arb
open Go

theorem fit_entry {xs : List IV} (h : FitsL shEntry xs) : ∃ x : EN, xs = x.enc ∧ x.ok := by
  obtain ⟨a, _, rfl, ha, h⟩ := h.one
  obtain ⟨b, _, rfl, hb, h⟩ := h.one
  obtain ⟨c, _, rfl, hc, h⟩ := h.one
  obtain rfl := h.none
  obtain ⟨i, rfl, _⟩ := fit_int ha
  obtain ⟨f, rfl, h1, h2⟩ := fit_filter hb
  obtain ⟨s, rfl, hs⟩ := fit_int hc
  exact ⟨⟨i, f, s⟩, rfl, h1, h2, wfu hs⟩
theorem arg_entries {x : AV} (h : ArgIs false [.sl shEntry] x) : ∃ l, x = ents l ∧ l.length ≤ maxLen ∧ ∀ e ∈ l, EN.ok e := by
  obtain ⟨xs, hf, y, rfl, rfl⟩ := h
  obtain ⟨rows, rfl, h1, h2⟩ := fit_sl hf.1
  obtain ⟨l, rfl, hl⟩ := rows_map EN.enc EN.ok rows fun r hr => fit_entry (h2 r hr)
  exact ⟨l, rfl, by rwa [List.length_map] at h1, hl⟩

section
variable {prog : Nat → Option IFn}

set_option maxHeartbeats 16000000 in
theorem p_bestLaw (H : Lib7 prog) (D : Doc prog) (hA : Ans prog 4 [] (.iv (.bool true))) (h13 : prog 13 = some F13) (h95 : prog 95 = some F95) (h91 : prog 91 = some F91) (l : List EN) (slack : Int) (hm : l.length ≤ maxLen) (hL : ∀ x ∈ l, x.ok) :
    ∃ p : AV × Hp, p.1 = .iv (.bool true) ∧ Ev prog 91 [ents l, .iv (.int .u64 slack)] [] p := by
  obtain ⟨KA, hKA⟩ := hA
  refine Ev.ofx h91 rfl rfl _ (Wp.seq ?_)
  refine Wp.rgn (K := 0) (fun n _ => by simp [evalRgn, Option.map_some, evalOps, step, wants, osem, M.run_bind, M.mapL, M.run, M.ok, M.fresh, M.write, M.look, M.lift, putD, Arb.set, ev, Arb.get, keepFr, bin, intBin, strBin, mk, params, cellsM, load, obRead, fadr, fld, isl, iarr, xarr, idx, len, valid, slc, bound, store, splice, nilc, un, eqs, eq0, evalFeet, footOf, M.foot, orderOk, apartAll, apart1, clash, meets, callM, fcallM, callee, fz1, fzC, fz, flat, flat1, flat0, flatI, Option.bind_some, putAll, M.bind]; rfl) ?_
  refine Wp.seq (Wp.seq ?_)
  refine Wp.rgn (K := KA) (s' := ⟨[(0, ents l), (1, .iv (.int .u64 slack)), (21, .iv (.bool (decide (8 < l.length))))], [], 1512⟩) (fun n hn => by
    have e0 := hKA n hn
    have e : decide ((8 : Int) < l.length) = decide (8 < l.length) := decide_eq_decide.2 (by omega)
    generalize evalF prog n = g at e0
    simp [evalRgn, Option.map_some, evalOps, step, wants, osem, M.run_bind, M.mapL, M.run, M.ok, M.fresh, M.write, M.look, M.lift, putD, Arb.set, ev, Arb.get, keepFr, bin, intBin, strBin, mk, params, cellsM, load, obRead, fadr, fld, isl, iarr, xarr, idx, len, valid, slc, bound, store, splice, nilc, un, eqs, eq0, evalFeet, footOf, M.foot, orderOk, apartAll, apart1, clash, meets, callM, fcallM, callee, fz1, fzC, fz, flat, flat1, flat0, flatI, Option.bind_some, putAll, M.bind, ents, e0, e]) ?_
  refine Wp.cond rfl ?_
  cases hc : decide (8 < l.length) with
  | true =>
    refine Wp.seq ?_
    refine Wp.rgn (K := KA) (fun n hn => by
      have e0 := hKA n hn
      generalize evalF prog n = g at e0
      simp [evalRgn, Option.map_some, evalOps, step, wants, osem, M.run_bind, M.mapL, M.run, M.ok, M.fresh, M.write, M.look, M.lift, putD, Arb.set, ev, Arb.get, keepFr, bin, intBin, strBin, mk, params, cellsM, load, obRead, fadr, fld, isl, iarr, xarr, idx, len, valid, slc, bound, store, splice, nilc, un, eqs, eq0, evalFeet, footOf, M.foot, orderOk, apartAll, apart1, clash, meets, callM, fcallM, callee, fz1, fzC, fz, flat, flat1, flat0, flatI, Option.bind_some, putAll, M.bind, e0]; rfl) ?_
    exact Wp.ret ⟨(.iv (.bool true), _), rfl, rfl⟩
  | false =>
    have hl : l.length ≤ 8 := by have := of_decide_eq_false hc; omega
    refine Wp.skip (Wp.seq (Wp.seq ?_))
    refine Wp.rgn (K := 0) (fun n _ => by simp [evalRgn, Option.map_some, evalOps, step, wants, osem, M.run_bind, M.mapL, M.run, M.ok, M.fresh, M.write, M.look, M.lift, putD, Arb.set, ev, Arb.get, keepFr, bin, intBin, strBin, mk, params, cellsM, load, obRead, fadr, fld, isl, iarr, xarr, idx, len, valid, slc, bound, store, splice, nilc, un, eqs, eq0, evalFeet, footOf, M.foot, orderOk, apartAll, apart1, clash, meets, callM, fcallM, callee, fz1, fzC, fz, flat, flat1, flat0, flatI, Option.bind_some, putAll, M.bind, ents]; rfl) ?_
    refine Wp.block ?_
    refine Wp.range l.length (fun i => ⟨[(0, ents l), (1, .iv (.int .u64 slack)), (23, ents l), (24, .iv (.int .i64 l.length)), (25, .iv (.int .i64 i))], [], 1704⟩) (fun _ => True) (by simp [keepFr, get, ents]) trivial ?_ ?_
    · intro i hi _
      obtain ⟨x, hx⟩ : ∃ x, l[i]? = some x := ⟨_, List.getElem?_eq_getElem hi⟩
      have ox := hL x (List.mem_of_getElem? hx)
      obtain ⟨K1, hK1⟩ := p_few6 H.h27 H.h14 H.h5 x.f ox.l
      refine Wp.seq ?_
      refine Wp.rgn (K := 0) (fun n _ => by simp [evalRgn, Option.map_some, evalOps, step, wants, osem, M.run_bind, M.mapL, M.run, M.ok, M.fresh, M.write, M.look, M.lift, putD, Arb.set, ev, Arb.get, keepFr, bin, intBin, strBin, mk, params, cellsM, load, obRead, fadr, fld, isl, iarr, xarr, idx, len, valid, slc, bound, store, splice, nilc, un, eqs, eq0, evalFeet, footOf, M.foot, orderOk, apartAll, apart1, clash, meets, callM, fcallM, callee, fz1, fzC, fz, flat, flat1, flat0, flatI, Option.bind_some, putAll, M.bind, hi]; rfl) ?_
      refine Wp.seq (Wp.cond rfl (Wp.skip (Wp.seq (Wp.block (Wp.seq ?_)))))
      refine Wp.rgn (K := 0) (s' := ⟨[(0, ents l), (1, .iv (.int .u64 slack)), (6, .ref 1896 0 0 0), (23, ents l), (24, .iv (.int .i64 l.length)), (25, .iv (.int .i64 i))], [(1898, .buf 0 16 []), (1896, .cells [.iv (.int .i64 x.i), filt x.f, .iv (.int .u64 x.s)])], 2024⟩) (fun n _ => by simp [evalRgn, Option.map_some, evalOps, step, wants, osem, M.run_bind, M.mapL, M.run, M.ok, M.fresh, M.write, M.look, M.lift, putD, Arb.set, ev, Arb.get, keepFr, bin, intBin, strBin, mk, params, cellsM, load, obRead, fadr, fld, isl, iarr, xarr, idx, len, valid, slc, bound, store, splice, nilc, un, eqs, eq0, evalFeet, footOf, M.foot, orderOk, apartAll, apart1, clash, meets, callM, fcallM, callee, fz1, fzC, fz, flat, flat1, flat0, flatI, Option.bind_some, putAll, M.bind, ents, EN.enc, entry, filt, hx]) ?_
      refine Wp.seq ?_
      refine Wp.mono (Q := fun e s => e = .norm ∧ ∃ b, ∃ hp, s = ⟨[(0, ents l), (1, .iv (.int .u64 slack)), (23, ents l), (24, .iv (.int .i64 l.length)), (25, .iv (.int .i64 i)), (48, .iv (.bool b))], [(1898, .buf 0 16 []), (1896, .cells [.iv (.int .i64 x.i), filt x.f, .iv (.int .u64 x.s)])] ++ hp, 3304⟩ ∧ ∀ p ∈ hp, 1704 ≤ p.1) ?_ ?_
      · cases hfw : few x.f with
        | false =>
          refine Wp.rgn (K := K1) (s' := ⟨[(0, ents l), (1, .iv (.int .u64 slack)), (23, ents l), (24, .iv (.int .i64 l.length)), (25, .iv (.int .i64 i)), (48, .iv (.bool true))], [(1898, .buf 0 16 []), (1896, .cells [.iv (.int .i64 x.i), filt x.f, .iv (.int .u64 x.s)])], 3304⟩) (fun n hn => by
            have e0 := hK1 n hn
            rw [hfw] at e0
            simp only [filt] at e0
            generalize evalF prog n = g at e0
            simp [evalRgn, Option.map_some, evalOps, step, wants, osem, M.run_bind, M.mapL, M.run, M.ok, M.fresh, M.write, M.look, M.lift, putD, Arb.set, ev, Arb.get, keepFr, bin, intBin, strBin, mk, params, cellsM, load, obRead, fadr, fld, isl, iarr, xarr, idx, len, valid, slc, bound, store, splice, nilc, un, eqs, eq0, evalFeet, footOf, M.foot, orderOk, apartAll, apart1, clash, meets, callM, fcallM, callee, fz1, fzC, fz, flat, flat1, flat0, flatI, Option.bind_some, putAll, M.bind, ents, filt, e0]) ⟨rfl, true, [], rfl, fun p hp => by cases hp⟩
        | true =>
          cases hxf : x.f with
          | nil =>
            refine Wp.rgn (K := K1) (s' := ⟨[(0, ents l), (1, .iv (.int .u64 slack)), (23, ents l), (24, .iv (.int .i64 l.length)), (25, .iv (.int .i64 i)), (48, .iv (.bool false))], [(1898, .buf 0 16 []), (1896, .cells [.iv (.int .i64 x.i), filt [], .iv (.int .u64 x.s)])], 3304⟩) (fun n hn => by
              have e0 := hK1 n hn
              rw [hfw, hxf] at e0
              simp only [filt] at e0
              generalize evalF prog n = g at e0
              simp at e0
              simp [evalRgn, Option.map_some, evalOps, step, wants, osem, M.run_bind, M.mapL, M.run, M.ok, M.fresh, M.write, M.look, M.lift, putD, Arb.set, ev, Arb.get, keepFr, bin, intBin, strBin, mk, params, cellsM, load, obRead, fadr, fld, isl, iarr, xarr, idx, len, valid, slc, bound, store, splice, nilc, un, eqs, eq0, evalFeet, footOf, M.foot, orderOk, apartAll, apart1, clash, meets, callM, fcallM, callee, fz1, fzC, fz, flat, flat1, flat0, flatI, Option.bind_some, putAll, M.bind, ents, filt, e0]) ⟨rfl, false, [], rfl, fun p hp => by cases hp⟩
          | cons z r =>
            obtain ⟨K2, hK2⟩ := p_few3 H.h27 [z.s0] (by simp [maxLen])
            refine Wp.rgn (K := max K1 K2) (s' := ⟨[(0, ents l), (1, .iv (.int .u64 slack)), (23, ents l), (24, .iv (.int .i64 l.length)), (25, .iv (.int .i64 i)), (48, .iv (.bool (!([z.s0].all fewS))))], [(1898, .buf 0 16 []), (1896, .cells [.iv (.int .i64 x.i), filt (z :: r), .iv (.int .u64 x.s)]), (2984, .buf 0 4 [z.s0.enc])], 3304⟩) (fun n hn => by
              have e0 := hK1 n (by omega)
              have e1 := hK2 n (by omega)
              rw [hfw, hxf] at e0
              simp only [filt] at e0
              simp only [sets] at e1
              generalize evalF prog n = g at e0 e1
              generalize [z.s0].all fewS = fw at e1
              simp [S.enc, B.enc] at e0 e1
              simp [evalRgn, Option.map_some, evalOps, step, wants, osem, M.run_bind, M.mapL, M.run, M.ok, M.fresh, M.write, M.look, M.lift, putD, Arb.set, ev, Arb.get, keepFr, bin, intBin, strBin, mk, params, cellsM, load, obRead, fadr, fld, isl, iarr, xarr, idx, len, valid, slc, bound, store, splice, nilc, un, eqs, eq0, evalFeet, footOf, M.foot, orderOk, apartAll, apart1, clash, meets, callM, fcallM, callee, fz1, fzC, fz, flat, flat1, flat0, flatI, Option.bind_some, putAll, M.bind, ents, filt, e0, e1, setAll, B.enc, S.enc]) ⟨rfl, _, [(2984, .buf 0 4 [z.s0.enc])], rfl, fun p hp => by simp at hp; subst hp; show 1704 ≤ 2984; omega⟩
      · rintro e s ⟨rfl, b, hp, rfl, hhp⟩
        simp only [Ex.then]
        refine Wp.cond rfl ?_
        cases b with
        | true =>
          refine Wp.seq ?_
          refine Wp.rgn (K := 0) (fun n _ => by simp [evalRgn, Option.map_some, evalOps, step, wants, osem, M.run_bind, M.mapL, M.run, M.ok, M.fresh, M.write, M.look, M.lift, putD, Arb.set, ev, Arb.get, keepFr, bin, intBin, strBin, mk, params, cellsM, load, obRead, fadr, fld, isl, iarr, xarr, idx, len, valid, slc, bound, store, splice, nilc, un, eqs, eq0, evalFeet, footOf, M.foot, orderOk, apartAll, apart1, clash, meets, callM, fcallM, callee, fz1, fzC, fz, flat, flat1, flat0, flatI, Option.bind_some, putAll, M.bind]; rfl) ?_
          exact Wp.ret ⟨(.iv (.bool true), _), rfl, rfl⟩
        | false =>
          refine Wp.skip ?_
          simp only [Ex.then, Ex.inBlock]
          refine Wp.rgn (K := 0) (fun n _ => by simp [evalRgn, Option.map_some, evalOps, step, wants, osem, M.run_bind, M.mapL, M.run, M.ok, M.fresh, M.write, M.look, M.lift, putD, Arb.set, ev, Arb.get, keepFr, bin, intBin, strBin, mk, params, cellsM, load, obRead, fadr, fld, isl, iarr, xarr, idx, len, valid, slc, bound, store, splice, nilc, un, eqs, eq0, evalFeet, footOf, M.foot, orderOk, apartAll, apart1, clash, meets, callM, fcallM, callee, fz1, fzC, fz, flat, flat1, flat0, flatI, Option.bind_some, putAll, M.bind]; rfl) ?_
          have hfil : hp.filter (fun p => decide (p.1 < 1000) || decide (p.1 < 1704)) = [] := by
            rw [List.filter_eq_nil_iff]
            intro p hpp
            have := hhp p hpp
            simp; omega
          exact ⟨by simp [again, keepFr, get, nrm, nrmO, ents, wrap_succ hi hm, List.filter_append, hfil], trivial⟩
    · intro _
      refine Wp.seq ?_
      refine Wp.rgn (K := 0) (fun n _ => by simp [evalRgn, Option.map_some, evalOps, step, wants, osem, M.run_bind, M.mapL, M.run, M.ok, M.fresh, M.write, M.look, M.lift, putD, Arb.set, ev, Arb.get, keepFr, bin, intBin, strBin, mk, params, cellsM, load, obRead, fadr, fld, isl, iarr, xarr, idx, len, valid, slc, bound, store, splice, nilc, un, eqs, eq0, evalFeet, footOf, M.foot, orderOk, apartAll, apart1, clash, meets, callM, fcallM, callee, fz1, fzC, fz, flat, flat1, flat0, flatI, Option.bind_some, putAll, M.bind]; rfl) ?_
      refine Wp.seq (Wp.cond rfl (Wp.exit ?_))
      simp only [Ex.then, Ex.inBlock, if_true]
      obtain ⟨K3, hK3⟩ := p_best H.toLib6 h13 l slack hl hL
      obtain ⟨K4, hK4⟩ := p_bestD D h95 l slack hl hL
      generalize bestR l slack 0 = r at hK3 hK4
      refine Wp.seq ?_
      refine Wp.rgn (K := K3) (fun n hn => by
        have e0 := hK3 n hn
        simp only [ents] at e0
        generalize evalF prog n = g at e0
        simp [evalRgn, Option.map_some, evalOps, step, wants, osem, M.run_bind, M.mapL, M.run, M.ok, M.fresh, M.write, M.look, M.lift, putD, Arb.set, ev, Arb.get, keepFr, bin, intBin, strBin, mk, params, cellsM, load, obRead, fadr, fld, isl, iarr, xarr, idx, len, valid, slc, bound, store, splice, nilc, un, eqs, eq0, evalFeet, footOf, M.foot, orderOk, apartAll, apart1, clash, meets, callM, fcallM, callee, fz1, fzC, fz, flat, flat1, flat0, flatI, Option.bind_some, putAll, M.bind, ents, e0]
        rfl) ?_
      refine Wp.seq ?_
      refine Wp.rgn (K := K4) (fun n hn => by
        have e0 := hK4 n hn
        simp only [ents] at e0
        generalize evalF prog n = g at e0
        simp [evalRgn, Option.map_some, evalOps, step, wants, osem, M.run_bind, M.mapL, M.run, M.ok, M.fresh, M.write, M.look, M.lift, putD, Arb.set, ev, Arb.get, keepFr, bin, intBin, strBin, mk, params, cellsM, load, obRead, fadr, fld, isl, iarr, xarr, idx, len, valid, slc, bound, store, splice, nilc, un, eqs, eq0, evalFeet, footOf, M.foot, orderOk, apartAll, apart1, clash, meets, callM, fcallM, callee, fz1, fzC, fz, flat, flat1, flat0, flatI, Option.bind_some, putAll, M.bind, ents, e0]
        rfl) ?_
      refine Wp.seq ?_
      refine Wp.rgn (K := 0) (s' := ⟨[(4, .iv (.bool true))], [], _⟩) (fun n _ => by simp [evalRgn, Option.map_some, evalOps, step, wants, osem, M.run_bind, M.mapL, M.run, M.ok, M.fresh, M.write, M.look, M.lift, putD, Arb.set, ev, Arb.get, keepFr, bin, intBin, strBin, mk, params, cellsM, load, obRead, fadr, fld, isl, iarr, xarr, idx, len, valid, slc, bound, store, splice, nilc, un, eqs, eq0, evalFeet, footOf, M.foot, orderOk, apartAll, apart1, clash, meets, callM, fcallM, callee, fz1, fzC, fz, flat, flat1, flat0, flatI, Option.bind_some, putAll, M.bind]; rfl) ?_
      exact Wp.ret ⟨(.iv (.bool true), _), rfl, rfl⟩
end
end Arb

/-
  MergeBest, plain.
-/
set_option linter.unusedSimpArgs false
namespace Arb
open Go

theorem mergeBest_law {x0 x1 : AV} (h0 : ArgIs false [.sl shEntry] x0) (h1 : ArgIs false [.int .u64] x1) : ∃ n hp', evalF (get Tied.fns) n 91 [x0, x1] [] = some (.iv (.bool true), hp') := by
  obtain ⟨l, rfl, hl, hL⟩ := arg_entries h0
  obtain ⟨s, rfl, -⟩ := arg_u64 h1
  obtain ⟨p, hp, h⟩ := p_bestLaw lib7 doc awake_true rfl rfl rfl l s hl hL
  exact h.run hp
end Arb
