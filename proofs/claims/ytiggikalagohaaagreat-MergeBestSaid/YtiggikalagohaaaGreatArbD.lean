/-
  ROWS THAT ARE THE SAME; SETS THAT ARE; SMALL ONES; EMPTY ONES.
-/
import Derived.KernelRfl
import Derived.Test.YtiggikalagohaaaGreatArbA
import Derived.Test.YtiggikalagohaaaGreatArbB
import Derived.Test.YtiggikalagohaaaGreatArbC
set_option linter.unusedSimpArgs false
namespace Arb
open Go

section
variable {prog : Nat → Option IFn}

theorem take_succ_eq {α : Type} {a b : List α} {i : Nat} {x y : α} (hx : a[i]? = some x) (hy : b[i]? = some y) (h : a.take i = b.take i) (e : x = y) : a.take (i + 1) = b.take (i + 1) := by
  rw [List.take_add_one, List.take_add_one, hx, hy, h, e]

theorem p_eqR (h : prog 32 = some F32) (a b : List (Int × Int)) (hl : a.length ≤ maxLen) : Ans prog 32 [.iv (.sl 2 (a.map rng)), .iv (.sl 2 (b.map rng))] (.iv (.bool (decide (a = b)))) := by
  refine Ans.of h rfl rfl (Wp.seq ?_)
  refine Wp.rgn (K := 0) (fun n _ => by simp [evalRgn, Option.map_some, evalOps, step, wants, osem, M.run_bind, M.mapL, M.run, M.ok, M.fresh, M.write, M.look, M.lift, putD, Arb.set, ev, Arb.get, keepFr, bin, intBin, strBin, mk, params, cellsM, load, obRead, fadr, fld, isl, iarr, xarr, idx, len, valid, slc, bound, store, splice, nilc, un, eqs, eq0, evalFeet, footOf, M.foot, orderOk, apartAll, apart1, clash, meets, callM, fcallM, callee, fz1, fzC, fz, flat, flat1, flat0, flatI, Option.bind_some, putAll, M.bind]; rfl) ?_
  refine Wp.seq (Wp.seq ?_)
  refine Wp.rgn (K := 0) (s' := ⟨[(0, .iv (.sl 2 (a.map rng))), (1, .iv (.sl 2 (b.map rng))), (10, .iv (.bool (a.length != b.length)))], [], 1384⟩) (fun n hn => by
    have : ((a.length : Int) != b.length) = (a.length != b.length) := by rw [Bool.eq_iff_iff]; simp; omega
    simp [evalRgn, Option.map_some, evalOps, step, wants, osem, M.run_bind, M.mapL, M.run, M.ok, M.fresh, M.write, M.look, M.lift, putD, Arb.set, ev, Arb.get, keepFr, bin, intBin, strBin, mk, params, cellsM, load, obRead, fadr, fld, isl, iarr, xarr, idx, len, valid, slc, bound, store, splice, nilc, un, eqs, eq0, evalFeet, footOf, M.foot, orderOk, apartAll, apart1, clash, meets, callM, fcallM, callee, fz1, fzC, fz, flat, flat1, flat0, flatI, Option.bind_some, putAll, M.bind, this]) ?_
  refine Wp.cond rfl ?_
  cases hne : a.length != b.length with
  | true =>
    refine Wp.seq ?_
    refine Wp.rgn (K := 0) (fun n _ => by simp [evalRgn, Option.map_some, evalOps, step, wants, osem, M.run_bind, M.mapL, M.run, M.ok, M.fresh, M.write, M.look, M.lift, putD, Arb.set, ev, Arb.get, keepFr, bin, intBin, strBin, mk, params, cellsM, load, obRead, fadr, fld, isl, iarr, xarr, idx, len, valid, slc, bound, store, splice, nilc, un, eqs, eq0, evalFeet, footOf, M.foot, orderOk, apartAll, apart1, clash, meets, callM, fcallM, callee, fz1, fzC, fz, flat, flat1, flat0, flatI, Option.bind_some, putAll, M.bind]; rfl) ?_
    refine Wp.ret ?_
    have : decide (a = b) = false := by simp at hne ⊢; exact fun e => hne (by rw [e])
    rw [this]; rfl
  | false =>
    have heq : a.length = b.length := by simpa using hne
    refine Wp.skip (Wp.seq (Wp.seq ?_))
    refine Wp.rgn (K := 0) (fun n _ => by simp [evalRgn, Option.map_some, evalOps, step, wants, osem, M.run_bind, M.mapL, M.run, M.ok, M.fresh, M.write, M.look, M.lift, putD, Arb.set, ev, Arb.get, keepFr, bin, intBin, strBin, mk, params, cellsM, load, obRead, fadr, fld, isl, iarr, xarr, idx, len, valid, slc, bound, store, splice, nilc, un, eqs, eq0, evalFeet, footOf, M.foot, orderOk, apartAll, apart1, clash, meets, callM, fcallM, callee, fz1, fzC, fz, flat, flat1, flat0, flatI, Option.bind_some, putAll, M.bind]; rfl) ?_
    refine Wp.block ?_
    refine Wp.range a.length (fun i => ⟨[(0, .iv (.sl 2 (a.map rng))), (1, .iv (.sl 2 (b.map rng))), (12, .iv (.int .i64 a.length)), (13, .iv (.int .i64 i))], [], 1576⟩) (fun i => a.take i = b.take i) (by simp [keepFr, get]) (by simp) ?_ ?_
    · intro i hi hg
      obtain ⟨x, hx⟩ : ∃ x, a[i]? = some x := ⟨_, List.getElem?_eq_getElem hi⟩
      obtain ⟨y, hy⟩ : ∃ y, b[i]? = some y := ⟨_, List.getElem?_eq_getElem (by omega)⟩
      refine Wp.seq ?_
      refine Wp.rgn (K := 0) (fun n _ => by simp [evalRgn, Option.map_some, evalOps, step, wants, osem, M.run_bind, M.mapL, M.run, M.ok, M.fresh, M.write, M.look, M.lift, putD, Arb.set, ev, Arb.get, keepFr, bin, intBin, strBin, mk, params, cellsM, load, obRead, fadr, fld, isl, iarr, xarr, idx, len, valid, slc, bound, store, splice, nilc, un, eqs, eq0, evalFeet, footOf, M.foot, orderOk, apartAll, apart1, clash, meets, callM, fcallM, callee, fz1, fzC, fz, flat, flat1, flat0, flatI, Option.bind_some, putAll, M.bind, hi]; rfl) ?_
      refine Wp.seq (Wp.cond rfl (Wp.skip (Wp.seq (Wp.block (Wp.seq ?_)))))
      refine Wp.rgn (K := 0) (fun n _ => by simp [evalRgn, Option.map_some, evalOps, step, wants, osem, M.run_bind, M.mapL, M.run, M.ok, M.fresh, M.write, M.look, M.lift, putD, Arb.set, ev, Arb.get, keepFr, bin, intBin, strBin, mk, params, cellsM, load, obRead, fadr, fld, isl, iarr, xarr, idx, len, valid, slc, bound, store, splice, nilc, un, eqs, eq0, evalFeet, footOf, M.foot, orderOk, apartAll, apart1, clash, meets, callM, fcallM, callee, fz1, fzC, fz, flat, flat1, flat0, flatI, Option.bind_some, putAll, M.bind]; rfl) ?_
      refine Wp.seq ?_
      refine Wp.rgn (K := 0) (s' := ⟨[(0, .iv (.sl 2 (a.map rng))), (1, .iv (.sl 2 (b.map rng))), (12, .iv (.int .i64 a.length)), (13, .iv (.int .i64 i)), (24, .iv (.bool (!(x.1 == y.1 && x.2 == y.2))))], [], 2344⟩) (fun n hn => by
        simp [evalRgn, Option.map_some, evalOps, step, wants, osem, M.run_bind, M.mapL, M.run, M.ok, M.fresh, M.write, M.look, M.lift, putD, Arb.set, ev, Arb.get, keepFr, bin, intBin, strBin, mk, params, cellsM, load, obRead, fadr, fld, isl, iarr, xarr, idx, len, valid, slc, bound, store, splice, nilc, un, eqs, eq0, evalFeet, footOf, M.foot, orderOk, apartAll, apart1, clash, meets, callM, fcallM, callee, fz1, fzC, fz, flat, flat1, flat0, flatI, Option.bind_some, putAll, M.bind, hx, hy, rng]) ?_
      refine Wp.cond rfl ?_
      cases hb : (x.1 == y.1 && x.2 == y.2) with
      | true =>
        refine Wp.skip ?_
        refine Wp.rgn (K := 0) (fun n _ => by simp [evalRgn, Option.map_some, evalOps, step, wants, osem, M.run_bind, M.mapL, M.run, M.ok, M.fresh, M.write, M.look, M.lift, putD, Arb.set, ev, Arb.get, keepFr, bin, intBin, strBin, mk, params, cellsM, load, obRead, fadr, fld, isl, iarr, xarr, idx, len, valid, slc, bound, store, splice, nilc, un, eqs, eq0, evalFeet, footOf, M.foot, orderOk, apartAll, apart1, clash, meets, callM, fcallM, callee, fz1, fzC, fz, flat, flat1, flat0, flatI, Option.bind_some, putAll, M.bind]; rfl) ?_
        refine ⟨by simp [again, keepFr, get, nrm, wrap_succ hi hl], take_succ_eq hx hy hg ?_⟩
        simp at hb
        exact Prod.ext hb.1 hb.2
      | false =>
        refine Wp.seq ?_
        refine Wp.rgn (K := 0) (fun n _ => by simp [evalRgn, Option.map_some, evalOps, step, wants, osem, M.run_bind, M.mapL, M.run, M.ok, M.fresh, M.write, M.look, M.lift, putD, Arb.set, ev, Arb.get, keepFr, bin, intBin, strBin, mk, params, cellsM, load, obRead, fadr, fld, isl, iarr, xarr, idx, len, valid, slc, bound, store, splice, nilc, un, eqs, eq0, evalFeet, footOf, M.foot, orderOk, apartAll, apart1, clash, meets, callM, fcallM, callee, fz1, fzC, fz, flat, flat1, flat0, flatI, Option.bind_some, putAll, M.bind]; rfl) ?_
        refine Wp.ret ?_
        have : decide (a = b) = false := by
          simp at hb ⊢
          intro e
          rw [e, hy] at hx
          cases hx
          exact hb rfl rfl
        rw [this]; rfl
    · intro hg
      refine Wp.seq ?_
      refine Wp.rgn (K := 0) (fun n _ => by simp [evalRgn, Option.map_some, evalOps, step, wants, osem, M.run_bind, M.mapL, M.run, M.ok, M.fresh, M.write, M.look, M.lift, putD, Arb.set, ev, Arb.get, keepFr, bin, intBin, strBin, mk, params, cellsM, load, obRead, fadr, fld, isl, iarr, xarr, idx, len, valid, slc, bound, store, splice, nilc, un, eqs, eq0, evalFeet, footOf, M.foot, orderOk, apartAll, apart1, clash, meets, callM, fcallM, callee, fz1, fzC, fz, flat, flat1, flat0, flatI, Option.bind_some, putAll, M.bind]; rfl) ?_
      refine Wp.seq (Wp.cond rfl (Wp.exit ?_))
      simp only [Ex.then, Ex.inBlock, if_true]
      refine Wp.seq ?_
      refine Wp.rgn (K := 0) (fun n _ => by simp [evalRgn, Option.map_some, evalOps, step, wants, osem, M.run_bind, M.mapL, M.run, M.ok, M.fresh, M.write, M.look, M.lift, putD, Arb.set, ev, Arb.get, keepFr, bin, intBin, strBin, mk, params, cellsM, load, obRead, fadr, fld, isl, iarr, xarr, idx, len, valid, slc, bound, store, splice, nilc, un, eqs, eq0, evalFeet, footOf, M.foot, orderOk, apartAll, apart1, clash, meets, callM, fcallM, callee, fz1, fzC, fz, flat, flat1, flat0, flatI, Option.bind_some, putAll, M.bind]; rfl) ?_
      refine Wp.ret ?_
      have : a = b := by rw [List.take_length, heq, List.take_length] at hg; exact hg
      subst this
      simp [FinS, resAll, resM, outA, ev, get, F32, fz1, fzC, fz, M.bind, M.run, shut, fzA]
theorem p_eqT (h : prog 33 = some F33) (a b : List ByteArray) (hl : a.length ≤ maxLen) : Ans prog 33 [.iv (.sl 1 (a.map st1)), .iv (.sl 1 (b.map st1))] (.iv (.bool (decide (a = b)))) := by
  refine Ans.of h rfl rfl (Wp.seq ?_)
  refine Wp.rgn (K := 0) (fun n _ => by simp [evalRgn, Option.map_some, evalOps, step, wants, osem, M.run_bind, M.mapL, M.run, M.ok, M.fresh, M.write, M.look, M.lift, putD, Arb.set, ev, Arb.get, keepFr, bin, intBin, strBin, mk, params, cellsM, load, obRead, fadr, fld, isl, iarr, xarr, idx, len, valid, slc, bound, store, splice, nilc, un, eqs, eq0, evalFeet, footOf, M.foot, orderOk, apartAll, apart1, clash, meets, callM, fcallM, callee, fz1, fzC, fz, flat, flat1, flat0, flatI, Option.bind_some, putAll, M.bind]; rfl) ?_
  refine Wp.seq (Wp.seq ?_)
  refine Wp.rgn (K := 0) (s' := ⟨[(0, .iv (.sl 1 (a.map st1))), (1, .iv (.sl 1 (b.map st1))), (10, .iv (.bool (a.length != b.length)))], [], 1384⟩) (fun n hn => by
    have : ((a.length : Int) != b.length) = (a.length != b.length) := by rw [Bool.eq_iff_iff]; simp; omega
    simp [evalRgn, Option.map_some, evalOps, step, wants, osem, M.run_bind, M.mapL, M.run, M.ok, M.fresh, M.write, M.look, M.lift, putD, Arb.set, ev, Arb.get, keepFr, bin, intBin, strBin, mk, params, cellsM, load, obRead, fadr, fld, isl, iarr, xarr, idx, len, valid, slc, bound, store, splice, nilc, un, eqs, eq0, evalFeet, footOf, M.foot, orderOk, apartAll, apart1, clash, meets, callM, fcallM, callee, fz1, fzC, fz, flat, flat1, flat0, flatI, Option.bind_some, putAll, M.bind, this]) ?_
  refine Wp.cond rfl ?_
  cases hne : a.length != b.length with
  | true =>
    refine Wp.seq ?_
    refine Wp.rgn (K := 0) (fun n _ => by simp [evalRgn, Option.map_some, evalOps, step, wants, osem, M.run_bind, M.mapL, M.run, M.ok, M.fresh, M.write, M.look, M.lift, putD, Arb.set, ev, Arb.get, keepFr, bin, intBin, strBin, mk, params, cellsM, load, obRead, fadr, fld, isl, iarr, xarr, idx, len, valid, slc, bound, store, splice, nilc, un, eqs, eq0, evalFeet, footOf, M.foot, orderOk, apartAll, apart1, clash, meets, callM, fcallM, callee, fz1, fzC, fz, flat, flat1, flat0, flatI, Option.bind_some, putAll, M.bind]; rfl) ?_
    refine Wp.ret ?_
    have : decide (a = b) = false := by simp at hne ⊢; exact fun e => hne (by rw [e])
    rw [this]; rfl
  | false =>
    have heq : a.length = b.length := by simpa using hne
    refine Wp.skip (Wp.seq (Wp.seq ?_))
    refine Wp.rgn (K := 0) (fun n _ => by simp [evalRgn, Option.map_some, evalOps, step, wants, osem, M.run_bind, M.mapL, M.run, M.ok, M.fresh, M.write, M.look, M.lift, putD, Arb.set, ev, Arb.get, keepFr, bin, intBin, strBin, mk, params, cellsM, load, obRead, fadr, fld, isl, iarr, xarr, idx, len, valid, slc, bound, store, splice, nilc, un, eqs, eq0, evalFeet, footOf, M.foot, orderOk, apartAll, apart1, clash, meets, callM, fcallM, callee, fz1, fzC, fz, flat, flat1, flat0, flatI, Option.bind_some, putAll, M.bind]; rfl) ?_
    refine Wp.block ?_
    refine Wp.range a.length (fun i => ⟨[(0, .iv (.sl 1 (a.map st1))), (1, .iv (.sl 1 (b.map st1))), (12, .iv (.int .i64 a.length)), (13, .iv (.int .i64 i))], [], 1576⟩) (fun i => a.take i = b.take i) (by simp [keepFr, get]) (by simp) ?_ ?_
    · intro i hi hg
      obtain ⟨x, hx⟩ : ∃ x, a[i]? = some x := ⟨_, List.getElem?_eq_getElem hi⟩
      obtain ⟨y, hy⟩ : ∃ y, b[i]? = some y := ⟨_, List.getElem?_eq_getElem (by omega)⟩
      refine Wp.seq ?_
      refine Wp.rgn (K := 0) (fun n _ => by simp [evalRgn, Option.map_some, evalOps, step, wants, osem, M.run_bind, M.mapL, M.run, M.ok, M.fresh, M.write, M.look, M.lift, putD, Arb.set, ev, Arb.get, keepFr, bin, intBin, strBin, mk, params, cellsM, load, obRead, fadr, fld, isl, iarr, xarr, idx, len, valid, slc, bound, store, splice, nilc, un, eqs, eq0, evalFeet, footOf, M.foot, orderOk, apartAll, apart1, clash, meets, callM, fcallM, callee, fz1, fzC, fz, flat, flat1, flat0, flatI, Option.bind_some, putAll, M.bind, hi]; rfl) ?_
      refine Wp.seq (Wp.cond rfl (Wp.skip (Wp.seq (Wp.block (Wp.seq ?_)))))
      refine Wp.rgn (K := 0) (fun n _ => by simp [evalRgn, Option.map_some, evalOps, step, wants, osem, M.run_bind, M.mapL, M.run, M.ok, M.fresh, M.write, M.look, M.lift, putD, Arb.set, ev, Arb.get, keepFr, bin, intBin, strBin, mk, params, cellsM, load, obRead, fadr, fld, isl, iarr, xarr, idx, len, valid, slc, bound, store, splice, nilc, un, eqs, eq0, evalFeet, footOf, M.foot, orderOk, apartAll, apart1, clash, meets, callM, fcallM, callee, fz1, fzC, fz, flat, flat1, flat0, flatI, Option.bind_some, putAll, M.bind]; rfl) ?_
      refine Wp.seq ?_
      refine Wp.rgn (K := 0) (s' := ⟨[(0, .iv (.sl 1 (a.map st1))), (1, .iv (.sl 1 (b.map st1))), (12, .iv (.int .i64 a.length)), (13, .iv (.int .i64 i)), (24, .iv (.bool (!(x == y))))], [], 2344⟩) (fun n hn => by
        simp [evalRgn, Option.map_some, evalOps, step, wants, osem, M.run_bind, M.mapL, M.run, M.ok, M.fresh, M.write, M.look, M.lift, putD, Arb.set, ev, Arb.get, keepFr, bin, intBin, strBin, mk, params, cellsM, load, obRead, fadr, fld, isl, iarr, xarr, idx, len, valid, slc, bound, store, splice, nilc, un, eqs, eq0, evalFeet, footOf, M.foot, orderOk, apartAll, apart1, clash, meets, callM, fcallM, callee, fz1, fzC, fz, flat, flat1, flat0, flatI, Option.bind_some, putAll, M.bind, hx, hy, st1]) ?_
      refine Wp.cond rfl ?_
      cases hb : (x == y) with
      | true =>
        refine Wp.skip ?_
        refine Wp.rgn (K := 0) (fun n _ => by simp [evalRgn, Option.map_some, evalOps, step, wants, osem, M.run_bind, M.mapL, M.run, M.ok, M.fresh, M.write, M.look, M.lift, putD, Arb.set, ev, Arb.get, keepFr, bin, intBin, strBin, mk, params, cellsM, load, obRead, fadr, fld, isl, iarr, xarr, idx, len, valid, slc, bound, store, splice, nilc, un, eqs, eq0, evalFeet, footOf, M.foot, orderOk, apartAll, apart1, clash, meets, callM, fcallM, callee, fz1, fzC, fz, flat, flat1, flat0, flatI, Option.bind_some, putAll, M.bind]; rfl) ?_
        refine ⟨by simp [again, keepFr, get, nrm, wrap_succ hi hl], take_succ_eq hx hy hg ?_⟩
        rw [ba_beq, decide_eq_true_eq] at hb; exact hb
      | false =>
        refine Wp.seq ?_
        refine Wp.rgn (K := 0) (fun n _ => by simp [evalRgn, Option.map_some, evalOps, step, wants, osem, M.run_bind, M.mapL, M.run, M.ok, M.fresh, M.write, M.look, M.lift, putD, Arb.set, ev, Arb.get, keepFr, bin, intBin, strBin, mk, params, cellsM, load, obRead, fadr, fld, isl, iarr, xarr, idx, len, valid, slc, bound, store, splice, nilc, un, eqs, eq0, evalFeet, footOf, M.foot, orderOk, apartAll, apart1, clash, meets, callM, fcallM, callee, fz1, fzC, fz, flat, flat1, flat0, flatI, Option.bind_some, putAll, M.bind]; rfl) ?_
        refine Wp.ret ?_
        have : decide (a = b) = false := by
          rw [decide_eq_false_iff_not]
          intro e
          rw [e, hy] at hx
          cases hx
          simp [ba_beq] at hb
        rw [this]; rfl
    · intro hg
      refine Wp.seq ?_
      refine Wp.rgn (K := 0) (fun n _ => by simp [evalRgn, Option.map_some, evalOps, step, wants, osem, M.run_bind, M.mapL, M.run, M.ok, M.fresh, M.write, M.look, M.lift, putD, Arb.set, ev, Arb.get, keepFr, bin, intBin, strBin, mk, params, cellsM, load, obRead, fadr, fld, isl, iarr, xarr, idx, len, valid, slc, bound, store, splice, nilc, un, eqs, eq0, evalFeet, footOf, M.foot, orderOk, apartAll, apart1, clash, meets, callM, fcallM, callee, fz1, fzC, fz, flat, flat1, flat0, flatI, Option.bind_some, putAll, M.bind]; rfl) ?_
      refine Wp.seq (Wp.cond rfl (Wp.exit ?_))
      simp only [Ex.then, Ex.inBlock, if_true]
      refine Wp.seq ?_
      refine Wp.rgn (K := 0) (fun n _ => by simp [evalRgn, Option.map_some, evalOps, step, wants, osem, M.run_bind, M.mapL, M.run, M.ok, M.fresh, M.write, M.look, M.lift, putD, Arb.set, ev, Arb.get, keepFr, bin, intBin, strBin, mk, params, cellsM, load, obRead, fadr, fld, isl, iarr, xarr, idx, len, valid, slc, bound, store, splice, nilc, un, eqs, eq0, evalFeet, footOf, M.foot, orderOk, apartAll, apart1, clash, meets, callM, fcallM, callee, fz1, fzC, fz, flat, flat1, flat0, flatI, Option.bind_some, putAll, M.bind]; rfl) ?_
      refine Wp.ret ?_
      have : a = b := by rw [List.take_length, heq, List.take_length] at hg; exact hg
      subst this
      simp [FinS, resAll, resM, outA, ev, get, F33, fz1, fzC, fz, M.bind, M.run, shut, fzA]

def sameS (x y : S) : Bool := x.a == y.a && (x.c == y.c && (decide (x.i = y.i) && decide (x.s = y.s)))

theorem p_sameS (h32 : prog 32 = some F32) (h33 : prog 33 = some F33) (h : prog 17 = some F17) (x y : S) (hi : x.i.length ≤ maxLen) (hs : x.s.length ≤ maxLen) : Ans prog 17 [x.av, y.av] (.iv (.bool (sameS x y))) := by
  obtain ⟨K1, h1⟩ := p_eqR h32 x.i y.i hi
  obtain ⟨K2, h2⟩ := p_eqT h33 x.s y.s hs
  refine Ans.of h rfl rfl (Wp.seq ?_)
  refine Wp.rgn (K := 0) (fun n _ => by simp [evalRgn, Option.map_some, evalOps, step, wants, osem, M.run_bind, M.mapL, M.run, M.ok, M.fresh, M.write, M.look, M.lift, putD, Arb.set, ev, Arb.get, keepFr, bin, intBin, strBin, mk, params, cellsM, load, obRead, fadr, fld, isl, iarr, xarr, idx, len, valid, slc, bound, store, splice, nilc, un, eqs, eq0, evalFeet, footOf, M.foot, orderOk, apartAll, apart1, clash, meets, callM, fcallM, callee, fz1, fzC, fz, flat, flat1, flat0, flatI, Option.bind_some, putAll, M.bind, S.av]; rfl) ?_
  refine Wp.seq ?_
  refine Wp.rgn (K := max K1 K2) (s' := ⟨[(4, .iv (.bool (sameS x y)))], [(1000, .cells [.iv (.bool x.a), .iv (.sl 2 (x.i.map rng)), .iv (.bool x.c), .iv (.sl 1 (x.s.map st1))]), (1064, .cells [.iv (.bool y.a), .iv (.sl 2 (y.i.map rng)), .iv (.bool y.c), .iv (.sl 1 (y.s.map st1))])], 2920⟩) (fun n hn => by
    have e1 := h1 n (by omega)
    have e2 := h2 n (by omega)
    cases b1 : x.a == y.a <;> cases b2 : x.c == y.c <;> cases b3 : decide (x.i = y.i) <;> simp only [b3] at e1 <;> simp [evalRgn, Option.map_some, evalOps, step, wants, osem, M.run_bind, M.mapL, M.run, M.ok, M.fresh, M.write, M.look, M.lift, putD, Arb.set, ev, Arb.get, keepFr, bin, intBin, strBin, mk, params, cellsM, load, obRead, fadr, fld, isl, iarr, xarr, idx, len, valid, slc, bound, store, splice, nilc, un, eqs, eq0, evalFeet, footOf, M.foot, orderOk, apartAll, apart1, clash, meets, callM, fcallM, callee, fz1, fzC, fz, flat, flat1, flat0, flatI, Option.bind_some, putAll, M.bind, b1, b2, sameS, b3, e1, e2]) ?_
  exact Wp.ret rfl

def smallS (x : S) : Bool := decide (x.i.length ≤ 6) && decide (x.s.length ≤ 6)
theorem p_smallS (h : prog 24 = some F24) (x : S) : Ans prog 24 [x.av] (.iv (.bool (smallS x))) := by
  refine Ans.of h rfl rfl (Wp.seq ?_)
  refine Wp.rgn (K := 0) (fun n _ => by simp [evalRgn, Option.map_some, evalOps, step, wants, osem, M.run_bind, M.mapL, M.run, M.ok, M.fresh, M.write, M.look, M.lift, putD, Arb.set, ev, Arb.get, keepFr, bin, intBin, strBin, mk, params, cellsM, load, obRead, fadr, fld, isl, iarr, xarr, idx, len, valid, slc, bound, store, splice, nilc, un, eqs, eq0, evalFeet, footOf, M.foot, orderOk, apartAll, apart1, clash, meets, callM, fcallM, callee, fz1, fzC, fz, flat, flat1, flat0, flatI, Option.bind_some, putAll, M.bind, S.av]; rfl) ?_
  refine Wp.seq ?_
  refine Wp.rgn (K := 0) (s' := ⟨[(2, .iv (.bool (smallS x)))], [(1000, .cells [.iv (.bool x.a), .iv (.sl 2 (x.i.map rng)), .iv (.bool x.c), .iv (.sl 1 (x.s.map st1))])], 1832⟩) (fun n hn => by
    have e1 : decide ((x.i.length : Int) ≤ 6) = decide (x.i.length ≤ 6) := decide_eq_decide.2 (by omega)
    have e2 : decide ((x.s.length : Int) ≤ 6) = decide (x.s.length ≤ 6) := decide_eq_decide.2 (by omega)
    cases b1 : decide (x.i.length ≤ 6) <;> simp [evalRgn, Option.map_some, evalOps, step, wants, osem, M.run_bind, M.mapL, M.run, M.ok, M.fresh, M.write, M.look, M.lift, putD, Arb.set, ev, Arb.get, keepFr, bin, intBin, strBin, mk, params, cellsM, load, obRead, fadr, fld, isl, iarr, xarr, idx, len, valid, slc, bound, store, splice, nilc, un, eqs, eq0, evalFeet, footOf, M.foot, orderOk, apartAll, apart1, clash, meets, callM, fcallM, callee, fz1, fzC, fz, flat, flat1, flat0, flatI, Option.bind_some, putAll, M.bind, smallS, e1, e2, b1]) ?_
  exact Wp.ret rfl

def emptyS (x : S) : Bool := !x.a && (x.i.length == 0 && (!x.c && x.s.length == 0))
theorem p_emptyS (h : prog 66 = some F66) (x : S) : Ans prog 66 [x.av] (.iv (.bool (emptyS x))) := by
  refine Ans.of h rfl rfl (Wp.seq ?_)
  refine Wp.rgn (K := 0) (fun n _ => by simp [evalRgn, Option.map_some, evalOps, step, wants, osem, M.run_bind, M.mapL, M.run, M.ok, M.fresh, M.write, M.look, M.lift, putD, Arb.set, ev, Arb.get, keepFr, bin, intBin, strBin, mk, params, cellsM, load, obRead, fadr, fld, isl, iarr, xarr, idx, len, valid, slc, bound, store, splice, nilc, un, eqs, eq0, evalFeet, footOf, M.foot, orderOk, apartAll, apart1, clash, meets, callM, fcallM, callee, fz1, fzC, fz, flat, flat1, flat0, flatI, Option.bind_some, putAll, M.bind, S.av]; rfl) ?_
  refine Wp.seq ?_
  refine Wp.rgn (K := 0) (s' := ⟨[(2, .iv (.bool (emptyS x)))], [(1000, .cells [.iv (.bool x.a), .iv (.sl 2 (x.i.map rng)), .iv (.bool x.c), .iv (.sl 1 (x.s.map st1))])], 2472⟩) (fun n hn => by
    have e1 : ((x.i.length : Int) == 0) = (x.i.length == 0) := by rw [Bool.eq_iff_iff]; simp
    have e2 : ((x.s.length : Int) == 0) = (x.s.length == 0) := by rw [Bool.eq_iff_iff]; simp
    cases b0 : x.a <;> cases b1 : x.i.length == 0 <;> cases b2 : x.c <;> simp [evalRgn, Option.map_some, evalOps, step, wants, osem, M.run_bind, M.mapL, M.run, M.ok, M.fresh, M.write, M.look, M.lift, putD, Arb.set, ev, Arb.get, keepFr, bin, intBin, strBin, mk, params, cellsM, load, obRead, fadr, fld, isl, iarr, xarr, idx, len, valid, slc, bound, store, splice, nilc, un, eqs, eq0, evalFeet, footOf, M.foot, orderOk, apartAll, apart1, clash, meets, callM, fcallM, callee, fz1, fzC, fz, flat, flat1, flat0, flatI, Option.bind_some, putAll, M.bind, emptyS, e1, e2, b0, b1, b2]) ?_
  exact Wp.ret rfl
end
end Arb

/-
  BOXES: SMALL ONES, EMPTY ONES.
-/
set_option linter.unusedSimpArgs false
namespace Arb
open Go

def B.get (b : B) : Nat → S
  | 0 => b.s0
  | 1 => b.s1
  | 2 => b.s2
  | _ => b.s3
def B.cs (b : B) : List AV := b.enc.map .iv
def B.av (b : B) : AV := .agg b.cs
theorem B.cs_at (b : B) {i : Nat} (h : i < 4) : (b.cs.drop (i * 4)).take 4 = [.iv (.bool (b.get i).a), .iv (.sl 2 ((b.get i).i.map rng)), .iv (.bool (b.get i).c), .iv (.sl 1 ((b.get i).s.map st1))] := by
  match i, h with
  | 0, _ => rfl
  | 1, _ => rfl
  | 2, _ => rfl
  | 3, _ => rfl
theorem B.cs_16 (b : B) : b.cs.take 16 = b.cs := rfl
theorem B.cs_len (b : B) : b.cs.length = 16 := rfl
theorem B.cs_nrm (b : B) (n0 : Nat) (h : Hp) : b.cs.map (nrm n0 h 8) = b.cs := nrm_ivs n0 h b.enc
def notNil : IV → Bool
  | .nsl _ => false
  | _ => true
theorem nilc_plain : ∀ (l : List IV) (s : Nat), l.all notNil = true → nilc s (l.map .iv) = .ret (l.map .iv)
  | [], s, _ => by simp [nilc]
  | x :: r, s, h => by
    simp only [List.all_cons, Bool.and_eq_true] at h
    have ih := nilc_plain r (s + 1) h.2
    cases x with
    | nsl e => simp [notNil] at h
    | _ => simp only [List.map_cons, nilc, ih, M.bind]
theorem fzC_plain (w : Bool) : ∀ (l : List IV), l.all notNil = true → M.mapL (fzC w) (l.map .iv) = .ret (l.map .iv)
  | [], _ => by simp [M.mapL]
  | x :: r, h => by
    simp only [List.all_cons, Bool.and_eq_true] at h
    have ih := fzC_plain w r h.2
    cases x with
    | nsl e => simp [notNil] at h
    | _ => rw [List.map_cons, M.mapL, ih]; rfl
theorem fz_plain (w : Bool) : ∀ (l : List IV), l.all notNil = true → M.mapL (fz w 8) (l.map .iv) = .ret l
  | [], _ => by simp [M.mapL]
  | x :: r, h => by
    simp only [List.all_cons, Bool.and_eq_true] at h
    have ih := fz_plain w r h.2
    cases x with
    | nsl e => simp [notNil] at h
    | _ => rw [List.map_cons, M.mapL, ih]; rfl
theorem B.enc_all (b : B) : b.enc.all notNil = true := by simp [B.enc, S.enc, notNil]
theorem B.cs_fzC (b : B) (w : Bool) : M.mapL (fzC w) b.cs = .ret b.cs := fzC_plain w b.enc b.enc_all
theorem B.cs_fz (b : B) (w : Bool) : M.mapL (fz w 8) b.cs = .ret b.enc := fz_plain w b.enc b.enc_all
theorem B.cs_nilc (b : B) (s : Nat) : nilc s b.cs = .ret b.cs := nilc_plain b.enc s (by simp [B.enc, S.enc, notNil])
theorem B.agg_nrm (b : B) (n0 : Nat) (h : Hp) : nrm n0 h 8 (.agg b.cs) = b.av := nrm_agg n0 h b.enc
theorem wrap_lt4 {i : Nat} (h : i < 4) : IntKind.i64.wrap ((i : Int) + 1) = (i : Int) + 1 := wrap_succ h (by simp [maxLen])

section
variable {prog : Nat → Option IFn}

def allB (f : S → Bool) (b : B) : Bool := f b.s0 && (f b.s1 && (f b.s2 && f b.s3))
def anyB (f : S → Bool) (b : B) : Bool := f b.s0 || (f b.s1 || (f b.s2 || f b.s3))
theorem allB_false {f : S → Bool} {b : B} {i : Nat} (h : i < 4) (hf : f (b.get i) = false) : allB f b = false := by
  match i, h with
  | 0, _ => simp only [B.get] at hf; simp [allB, hf]
  | 1, _ => simp only [B.get] at hf; simp [allB, hf]
  | 2, _ => simp only [B.get] at hf; simp [allB, hf]
  | 3, _ => simp only [B.get] at hf; simp [allB, hf]
theorem allB_true {f : S → Bool} {b : B} (h : ∀ i, i < 4 → f (b.get i) = true) : allB f b = true := by
  have h0 := h 0 (by omega); have h1 := h 1 (by omega); have h2 := h 2 (by omega); have h3 := h 3 (by omega)
  simp only [B.get] at h0 h1 h2 h3
  simp [allB, h0, h1, h2, h3]
theorem anyB_true {f : S → Bool} {b : B} {i : Nat} (h : i < 4) (hf : f (b.get i) = true) : anyB f b = true := by
  match i, h with
  | 0, _ => simp only [B.get] at hf; simp [anyB, hf]
  | 1, _ => simp only [B.get] at hf; simp [anyB, hf]
  | 2, _ => simp only [B.get] at hf; simp [anyB, hf]
  | 3, _ => simp only [B.get] at hf; simp [anyB, hf]
theorem anyB_false {f : S → Bool} {b : B} (h : ∀ i, i < 4 → f (b.get i) = false) : anyB f b = false := by
  have h0 := h 0 (by omega); have h1 := h 1 (by omega); have h2 := h 2 (by omega); have h3 := h 3 (by omega)
  simp only [B.get] at h0 h1 h2 h3
  simp [anyB, h0, h1, h2, h3]

theorem p_smallB (h24 : prog 24 = some F24) (h : prog 46 = some F46) (b : B) : Ans prog 46 [b.av] (.iv (.bool (allB smallS b))) := by
  refine Ans.of h rfl rfl (Wp.seq ?_)
  refine Wp.rgn (K := 0) (s' := ⟨[(1, .ref 1000 0 0 0)], [(1000, .cells b.cs)], 1128⟩) (fun n _ => by simp [evalRgn, evalOps, step, wants, osem, M.run_bind, M.run, M.fresh, M.write, putD, Arb.set, ev, Arb.get, keepFr, params, cellsM, B.av, B.cs_nilc]) ?_
  refine Wp.seq (Wp.seq ?_)
  refine Wp.rgn (K := 0) (fun n _ => by simp [evalRgn, Option.map_some, evalOps, step, wants, osem, M.run_bind, M.mapL, M.run, M.ok, M.fresh, M.write, M.look, M.lift, putD, Arb.set, ev, Arb.get, keepFr, bin, intBin, strBin, mk, params, cellsM, load, obRead, fadr, fld, isl, iarr, xarr, idx, len, valid, slc, bound, store, splice, nilc, un, eqs, eq0, evalFeet, footOf, M.foot, orderOk, apartAll, apart1, clash, meets, callM, fcallM, callee, fz1, fzC, fz, flat, flat1, flat0, flatI, Option.bind_some, putAll, M.bind, B.cs_16, B.cs_len]; rfl) ?_
  refine Wp.block ?_
  refine Wp.range 4 (fun i => ⟨[(5, b.av), (6, .iv (.int .i64 i))], [(1000, .cells b.cs)], 1256⟩) (fun i => ∀ j, j < i → smallS (b.get j) = true) rfl (by intro j hj; omega) ?_ ?_
  · intro i hi hg
    have hi' : (i : Int) < 4 := by omega
    have hm : min 4 (16 - i * 4) = 4 := by omega
    refine Wp.seq ?_
    refine Wp.rgn (K := 0) (s' := ⟨[(5, b.av), (6, .iv (.int .i64 i)), (7, .iv (.bool true))], [(1000, .cells b.cs)], 1320⟩) (fun n hn => by
      have : decide ((i : Int) < 4) = true := decide_eq_true (by omega)
      simp [evalRgn, Option.map_some, evalOps, step, wants, osem, M.run_bind, M.mapL, M.run, M.ok, M.fresh, M.write, M.look, M.lift, putD, Arb.set, ev, Arb.get, keepFr, bin, intBin, strBin, mk, params, cellsM, load, obRead, fadr, fld, isl, iarr, xarr, idx, len, valid, slc, bound, store, splice, nilc, un, eqs, eq0, evalFeet, footOf, M.foot, orderOk, apartAll, apart1, clash, meets, callM, fcallM, callee, fz1, fzC, fz, flat, flat1, flat0, flatI, Option.bind_some, putAll, M.bind, this]) ?_
    refine Wp.seq (Wp.cond rfl (Wp.skip (Wp.seq (Wp.block (Wp.seq ?_)))))
    refine Wp.rgn (K := 0) (fun n _ => by rw [show b.av = .agg b.cs from rfl]; simp [evalRgn, Option.map_some, evalOps, step, wants, osem, M.run_bind, M.mapL, M.run, M.ok, M.fresh, M.write, M.look, M.lift, putD, Arb.set, ev, Arb.get, keepFr, bin, intBin, strBin, mk, params, cellsM, load, obRead, fadr, fld, isl, iarr, xarr, idx, len, valid, slc, bound, store, splice, nilc, un, eqs, eq0, evalFeet, footOf, M.foot, orderOk, apartAll, apart1, clash, meets, callM, fcallM, callee, fz1, fzC, fz, flat, flat1, flat0, flatI, Option.bind_some, putAll, M.bind, B.cs_at b hi, hi', B.cs_len, hm]; rfl) ?_
    refine Wp.seq ?_
    obtain ⟨K, hK⟩ := p_smallS h24 (b.get i)
    refine Wp.rgn (K := K) (fun n hn => by
      have hc := hK n hn
      simp only [S.av] at hc
      simp [evalRgn, Option.map_some, evalOps, step, wants, osem, M.run_bind, M.mapL, M.run, M.ok, M.fresh, M.write, M.look, M.lift, putD, Arb.set, ev, Arb.get, keepFr, bin, intBin, strBin, mk, params, cellsM, load, obRead, fadr, fld, isl, iarr, xarr, idx, len, valid, slc, bound, store, splice, nilc, un, eqs, eq0, evalFeet, footOf, M.foot, orderOk, apartAll, apart1, clash, meets, callM, fcallM, callee, fz1, fzC, fz, flat, flat1, flat0, flatI, Option.bind_some, putAll, M.bind, hc]
      rfl) ?_
    refine Wp.cond rfl ?_
    cases hs : smallS (b.get i) with
    | false =>
      refine Wp.seq ?_
      refine Wp.rgn (K := 0) (fun n _ => by simp [evalRgn, Option.map_some, evalOps, step, wants, osem, M.run_bind, M.mapL, M.run, M.ok, M.fresh, M.write, M.look, M.lift, putD, Arb.set, ev, Arb.get, keepFr, bin, intBin, strBin, mk, params, cellsM, load, obRead, fadr, fld, isl, iarr, xarr, idx, len, valid, slc, bound, store, splice, nilc, un, eqs, eq0, evalFeet, footOf, M.foot, orderOk, apartAll, apart1, clash, meets, callM, fcallM, callee, fz1, fzC, fz, flat, flat1, flat0, flatI, Option.bind_some, putAll, M.bind]; rfl) ?_
      refine Wp.ret ?_
      rw [allB_false hi hs]; rfl
    | true =>
      refine Wp.skip ?_
      refine Wp.rgn (K := 0) (fun n _ => by simp [evalRgn, Option.map_some, evalOps, step, wants, osem, M.run_bind, M.mapL, M.run, M.ok, M.fresh, M.write, M.look, M.lift, putD, Arb.set, ev, Arb.get, keepFr, bin, intBin, strBin, mk, params, cellsM, load, obRead, fadr, fld, isl, iarr, xarr, idx, len, valid, slc, bound, store, splice, nilc, un, eqs, eq0, evalFeet, footOf, M.foot, orderOk, apartAll, apart1, clash, meets, callM, fcallM, callee, fz1, fzC, fz, flat, flat1, flat0, flatI, Option.bind_some, putAll, M.bind]; rfl) ?_
      refine ⟨?_, fun j hj => ?_⟩
      · simp [again, keepFr, get, nrm_iv, nrmO, B.agg_nrm, B.cs_nrm, wrap_lt4 hi]
      · by_cases h : j = i
        · subst h; exact hs
        · exact hg j (by omega)
  · intro hg
    refine Wp.seq ?_
    refine Wp.rgn (K := 0) (fun n _ => by simp [evalRgn, Option.map_some, evalOps, step, wants, osem, M.run_bind, M.mapL, M.run, M.ok, M.fresh, M.write, M.look, M.lift, putD, Arb.set, ev, Arb.get, keepFr, bin, intBin, strBin, mk, params, cellsM, load, obRead, fadr, fld, isl, iarr, xarr, idx, len, valid, slc, bound, store, splice, nilc, un, eqs, eq0, evalFeet, footOf, M.foot, orderOk, apartAll, apart1, clash, meets, callM, fcallM, callee, fz1, fzC, fz, flat, flat1, flat0, flatI, Option.bind_some, putAll, M.bind]; rfl) ?_
    refine Wp.seq (Wp.cond rfl (Wp.exit ?_))
    simp only [Ex.then, Ex.inBlock, if_true]
    refine Wp.seq ?_
    refine Wp.rgn (K := 0) (fun n _ => by simp [evalRgn, Option.map_some, evalOps, step, wants, osem, M.run_bind, M.mapL, M.run, M.ok, M.fresh, M.write, M.look, M.lift, putD, Arb.set, ev, Arb.get, keepFr, bin, intBin, strBin, mk, params, cellsM, load, obRead, fadr, fld, isl, iarr, xarr, idx, len, valid, slc, bound, store, splice, nilc, un, eqs, eq0, evalFeet, footOf, M.foot, orderOk, apartAll, apart1, clash, meets, callM, fcallM, callee, fz1, fzC, fz, flat, flat1, flat0, flatI, Option.bind_some, putAll, M.bind]; rfl) ?_
    refine Wp.ret ?_
    rw [allB_true hg]; rfl
theorem p_rightB (rightS : S → Bool) (hR : ∀ x : S, x.i.length ≤ maxLen → x.s.length ≤ maxLen → Ans prog 58 [x.av] (.iv (.bool (rightS x)))) (h : prog 45 = some F45) (b : B) (hL : ∀ i, i < 4 → (b.get i).i.length ≤ maxLen ∧ (b.get i).s.length ≤ maxLen) : Ans prog 45 [b.av] (.iv (.bool (allB rightS b))) := by
  refine Ans.of h rfl rfl (Wp.seq ?_)
  refine Wp.rgn (K := 0) (s' := ⟨[(1, .ref 1000 0 0 0)], [(1000, .cells b.cs)], 1128⟩) (fun n _ => by simp [evalRgn, evalOps, step, wants, osem, M.run_bind, M.run, M.fresh, M.write, putD, Arb.set, ev, Arb.get, keepFr, params, cellsM, B.av, B.cs_nilc]) ?_
  refine Wp.seq (Wp.seq ?_)
  refine Wp.rgn (K := 0) (fun n _ => by simp [evalRgn, Option.map_some, evalOps, step, wants, osem, M.run_bind, M.mapL, M.run, M.ok, M.fresh, M.write, M.look, M.lift, putD, Arb.set, ev, Arb.get, keepFr, bin, intBin, strBin, mk, params, cellsM, load, obRead, fadr, fld, isl, iarr, xarr, idx, len, valid, slc, bound, store, splice, nilc, un, eqs, eq0, evalFeet, footOf, M.foot, orderOk, apartAll, apart1, clash, meets, callM, fcallM, callee, fz1, fzC, fz, flat, flat1, flat0, flatI, Option.bind_some, putAll, M.bind, B.cs_16, B.cs_len]; rfl) ?_
  refine Wp.block ?_
  refine Wp.range 4 (fun i => ⟨[(5, b.av), (6, .iv (.int .i64 i))], [(1000, .cells b.cs)], 1256⟩) (fun i => ∀ j, j < i → rightS (b.get j) = true) rfl (by intro j hj; omega) ?_ ?_
  · intro i hi hg
    have hi' : (i : Int) < 4 := by omega
    have hm : min 4 (16 - i * 4) = 4 := by omega
    refine Wp.seq ?_
    refine Wp.rgn (K := 0) (s' := ⟨[(5, b.av), (6, .iv (.int .i64 i)), (7, .iv (.bool true))], [(1000, .cells b.cs)], 1320⟩) (fun n hn => by
      have : decide ((i : Int) < 4) = true := decide_eq_true (by omega)
      simp [evalRgn, Option.map_some, evalOps, step, wants, osem, M.run_bind, M.mapL, M.run, M.ok, M.fresh, M.write, M.look, M.lift, putD, Arb.set, ev, Arb.get, keepFr, bin, intBin, strBin, mk, params, cellsM, load, obRead, fadr, fld, isl, iarr, xarr, idx, len, valid, slc, bound, store, splice, nilc, un, eqs, eq0, evalFeet, footOf, M.foot, orderOk, apartAll, apart1, clash, meets, callM, fcallM, callee, fz1, fzC, fz, flat, flat1, flat0, flatI, Option.bind_some, putAll, M.bind, this]) ?_
    refine Wp.seq (Wp.cond rfl (Wp.skip (Wp.seq (Wp.block (Wp.seq ?_)))))
    refine Wp.rgn (K := 0) (fun n _ => by rw [show b.av = .agg b.cs from rfl]; simp [evalRgn, Option.map_some, evalOps, step, wants, osem, M.run_bind, M.mapL, M.run, M.ok, M.fresh, M.write, M.look, M.lift, putD, Arb.set, ev, Arb.get, keepFr, bin, intBin, strBin, mk, params, cellsM, load, obRead, fadr, fld, isl, iarr, xarr, idx, len, valid, slc, bound, store, splice, nilc, un, eqs, eq0, evalFeet, footOf, M.foot, orderOk, apartAll, apart1, clash, meets, callM, fcallM, callee, fz1, fzC, fz, flat, flat1, flat0, flatI, Option.bind_some, putAll, M.bind, B.cs_at b hi, hi', B.cs_len, hm]; rfl) ?_
    refine Wp.seq ?_
    obtain ⟨K, hK⟩ := hR (b.get i) (hL i hi).1 (hL i hi).2
    refine Wp.rgn (K := K) (fun n hn => by
      have hc := hK n hn
      simp only [S.av] at hc
      simp [evalRgn, Option.map_some, evalOps, step, wants, osem, M.run_bind, M.mapL, M.run, M.ok, M.fresh, M.write, M.look, M.lift, putD, Arb.set, ev, Arb.get, keepFr, bin, intBin, strBin, mk, params, cellsM, load, obRead, fadr, fld, isl, iarr, xarr, idx, len, valid, slc, bound, store, splice, nilc, un, eqs, eq0, evalFeet, footOf, M.foot, orderOk, apartAll, apart1, clash, meets, callM, fcallM, callee, fz1, fzC, fz, flat, flat1, flat0, flatI, Option.bind_some, putAll, M.bind, hc]
      rfl) ?_
    refine Wp.cond rfl ?_
    cases hs : rightS (b.get i) with
    | false =>
      refine Wp.seq ?_
      refine Wp.rgn (K := 0) (fun n _ => by simp [evalRgn, Option.map_some, evalOps, step, wants, osem, M.run_bind, M.mapL, M.run, M.ok, M.fresh, M.write, M.look, M.lift, putD, Arb.set, ev, Arb.get, keepFr, bin, intBin, strBin, mk, params, cellsM, load, obRead, fadr, fld, isl, iarr, xarr, idx, len, valid, slc, bound, store, splice, nilc, un, eqs, eq0, evalFeet, footOf, M.foot, orderOk, apartAll, apart1, clash, meets, callM, fcallM, callee, fz1, fzC, fz, flat, flat1, flat0, flatI, Option.bind_some, putAll, M.bind]; rfl) ?_
      refine Wp.ret ?_
      rw [allB_false hi hs]; rfl
    | true =>
      refine Wp.skip ?_
      refine Wp.rgn (K := 0) (fun n _ => by simp [evalRgn, Option.map_some, evalOps, step, wants, osem, M.run_bind, M.mapL, M.run, M.ok, M.fresh, M.write, M.look, M.lift, putD, Arb.set, ev, Arb.get, keepFr, bin, intBin, strBin, mk, params, cellsM, load, obRead, fadr, fld, isl, iarr, xarr, idx, len, valid, slc, bound, store, splice, nilc, un, eqs, eq0, evalFeet, footOf, M.foot, orderOk, apartAll, apart1, clash, meets, callM, fcallM, callee, fz1, fzC, fz, flat, flat1, flat0, flatI, Option.bind_some, putAll, M.bind]; rfl) ?_
      refine ⟨?_, fun j hj => ?_⟩
      · simp [again, keepFr, get, nrm_iv, nrmO, B.agg_nrm, B.cs_nrm, wrap_lt4 hi]
      · by_cases h : j = i
        · subst h; exact hs
        · exact hg j (by omega)
  · intro hg
    refine Wp.seq ?_
    refine Wp.rgn (K := 0) (fun n _ => by simp [evalRgn, Option.map_some, evalOps, step, wants, osem, M.run_bind, M.mapL, M.run, M.ok, M.fresh, M.write, M.look, M.lift, putD, Arb.set, ev, Arb.get, keepFr, bin, intBin, strBin, mk, params, cellsM, load, obRead, fadr, fld, isl, iarr, xarr, idx, len, valid, slc, bound, store, splice, nilc, un, eqs, eq0, evalFeet, footOf, M.foot, orderOk, apartAll, apart1, clash, meets, callM, fcallM, callee, fz1, fzC, fz, flat, flat1, flat0, flatI, Option.bind_some, putAll, M.bind]; rfl) ?_
    refine Wp.seq (Wp.cond rfl (Wp.exit ?_))
    simp only [Ex.then, Ex.inBlock, if_true]
    refine Wp.seq ?_
    refine Wp.rgn (K := 0) (fun n _ => by simp [evalRgn, Option.map_some, evalOps, step, wants, osem, M.run_bind, M.mapL, M.run, M.ok, M.fresh, M.write, M.look, M.lift, putD, Arb.set, ev, Arb.get, keepFr, bin, intBin, strBin, mk, params, cellsM, load, obRead, fadr, fld, isl, iarr, xarr, idx, len, valid, slc, bound, store, splice, nilc, un, eqs, eq0, evalFeet, footOf, M.foot, orderOk, apartAll, apart1, clash, meets, callM, fcallM, callee, fz1, fzC, fz, flat, flat1, flat0, flatI, Option.bind_some, putAll, M.bind]; rfl) ?_
    refine Wp.ret ?_
    rw [allB_true hg]; rfl
theorem p_emptyB (h66 : prog 66 = some F66) (h : prog 59 = some F59) (b : B) : Ans prog 59 [b.av] (.iv (.bool (anyB emptyS b))) := by
  refine Ans.of h rfl rfl (Wp.seq ?_)
  refine Wp.rgn (K := 0) (s' := ⟨[(1, .ref 1000 0 0 0)], [(1000, .cells b.cs)], 1128⟩) (fun n _ => by simp [evalRgn, evalOps, step, wants, osem, M.run_bind, M.run, M.fresh, M.write, putD, Arb.set, ev, Arb.get, keepFr, params, cellsM, B.av, B.cs_nilc]) ?_
  refine Wp.seq (Wp.seq ?_)
  refine Wp.rgn (K := 0) (fun n _ => by simp [evalRgn, Option.map_some, evalOps, step, wants, osem, M.run_bind, M.mapL, M.run, M.ok, M.fresh, M.write, M.look, M.lift, putD, Arb.set, ev, Arb.get, keepFr, bin, intBin, strBin, mk, params, cellsM, load, obRead, fadr, fld, isl, iarr, xarr, idx, len, valid, slc, bound, store, splice, nilc, un, eqs, eq0, evalFeet, footOf, M.foot, orderOk, apartAll, apart1, clash, meets, callM, fcallM, callee, fz1, fzC, fz, flat, flat1, flat0, flatI, Option.bind_some, putAll, M.bind, B.cs_16, B.cs_len]; rfl) ?_
  refine Wp.block ?_
  refine Wp.range 4 (fun i => ⟨[(5, b.av), (6, .iv (.int .i64 i))], [(1000, .cells b.cs)], 1256⟩) (fun i => ∀ j, j < i → emptyS (b.get j) = false) rfl (by intro j hj; omega) ?_ ?_
  · intro i hi hg
    have hi' : (i : Int) < 4 := by omega
    have hm : min 4 (16 - i * 4) = 4 := by omega
    refine Wp.seq ?_
    refine Wp.rgn (K := 0) (s' := ⟨[(5, b.av), (6, .iv (.int .i64 i)), (7, .iv (.bool true))], [(1000, .cells b.cs)], 1320⟩) (fun n hn => by
      have : decide ((i : Int) < 4) = true := decide_eq_true (by omega)
      simp [evalRgn, Option.map_some, evalOps, step, wants, osem, M.run_bind, M.mapL, M.run, M.ok, M.fresh, M.write, M.look, M.lift, putD, Arb.set, ev, Arb.get, keepFr, bin, intBin, strBin, mk, params, cellsM, load, obRead, fadr, fld, isl, iarr, xarr, idx, len, valid, slc, bound, store, splice, nilc, un, eqs, eq0, evalFeet, footOf, M.foot, orderOk, apartAll, apart1, clash, meets, callM, fcallM, callee, fz1, fzC, fz, flat, flat1, flat0, flatI, Option.bind_some, putAll, M.bind, this]) ?_
    refine Wp.seq (Wp.cond rfl (Wp.skip (Wp.seq (Wp.block (Wp.seq ?_)))))
    refine Wp.rgn (K := 0) (fun n _ => by rw [show b.av = .agg b.cs from rfl]; simp [evalRgn, Option.map_some, evalOps, step, wants, osem, M.run_bind, M.mapL, M.run, M.ok, M.fresh, M.write, M.look, M.lift, putD, Arb.set, ev, Arb.get, keepFr, bin, intBin, strBin, mk, params, cellsM, load, obRead, fadr, fld, isl, iarr, xarr, idx, len, valid, slc, bound, store, splice, nilc, un, eqs, eq0, evalFeet, footOf, M.foot, orderOk, apartAll, apart1, clash, meets, callM, fcallM, callee, fz1, fzC, fz, flat, flat1, flat0, flatI, Option.bind_some, putAll, M.bind, B.cs_at b hi, hi', B.cs_len, hm]; rfl) ?_
    refine Wp.seq ?_
    obtain ⟨K, hK⟩ := p_emptyS h66 (b.get i)
    refine Wp.rgn (K := K) (fun n hn => by
      have hc := hK n hn
      simp only [S.av] at hc
      simp [evalRgn, Option.map_some, evalOps, step, wants, osem, M.run_bind, M.mapL, M.run, M.ok, M.fresh, M.write, M.look, M.lift, putD, Arb.set, ev, Arb.get, keepFr, bin, intBin, strBin, mk, params, cellsM, load, obRead, fadr, fld, isl, iarr, xarr, idx, len, valid, slc, bound, store, splice, nilc, un, eqs, eq0, evalFeet, footOf, M.foot, orderOk, apartAll, apart1, clash, meets, callM, fcallM, callee, fz1, fzC, fz, flat, flat1, flat0, flatI, Option.bind_some, putAll, M.bind, hc]
      rfl) ?_
    refine Wp.cond rfl ?_
    cases hs : emptyS (b.get i) with
    | true =>
      refine Wp.seq ?_
      refine Wp.rgn (K := 0) (fun n _ => by simp [evalRgn, Option.map_some, evalOps, step, wants, osem, M.run_bind, M.mapL, M.run, M.ok, M.fresh, M.write, M.look, M.lift, putD, Arb.set, ev, Arb.get, keepFr, bin, intBin, strBin, mk, params, cellsM, load, obRead, fadr, fld, isl, iarr, xarr, idx, len, valid, slc, bound, store, splice, nilc, un, eqs, eq0, evalFeet, footOf, M.foot, orderOk, apartAll, apart1, clash, meets, callM, fcallM, callee, fz1, fzC, fz, flat, flat1, flat0, flatI, Option.bind_some, putAll, M.bind]; rfl) ?_
      refine Wp.ret ?_
      rw [anyB_true hi hs]; rfl
    | false =>
      refine Wp.skip ?_
      refine Wp.rgn (K := 0) (fun n _ => by simp [evalRgn, Option.map_some, evalOps, step, wants, osem, M.run_bind, M.mapL, M.run, M.ok, M.fresh, M.write, M.look, M.lift, putD, Arb.set, ev, Arb.get, keepFr, bin, intBin, strBin, mk, params, cellsM, load, obRead, fadr, fld, isl, iarr, xarr, idx, len, valid, slc, bound, store, splice, nilc, un, eqs, eq0, evalFeet, footOf, M.foot, orderOk, apartAll, apart1, clash, meets, callM, fcallM, callee, fz1, fzC, fz, flat, flat1, flat0, flatI, Option.bind_some, putAll, M.bind]; rfl) ?_
      refine ⟨?_, fun j hj => ?_⟩
      · simp [again, keepFr, get, nrm_iv, nrmO, B.agg_nrm, B.cs_nrm, wrap_lt4 hi]
      · by_cases h : j = i
        · subst h; exact hs
        · exact hg j (by omega)
  · intro hg
    refine Wp.seq ?_
    refine Wp.rgn (K := 0) (fun n _ => by simp [evalRgn, Option.map_some, evalOps, step, wants, osem, M.run_bind, M.mapL, M.run, M.ok, M.fresh, M.write, M.look, M.lift, putD, Arb.set, ev, Arb.get, keepFr, bin, intBin, strBin, mk, params, cellsM, load, obRead, fadr, fld, isl, iarr, xarr, idx, len, valid, slc, bound, store, splice, nilc, un, eqs, eq0, evalFeet, footOf, M.foot, orderOk, apartAll, apart1, clash, meets, callM, fcallM, callee, fz1, fzC, fz, flat, flat1, flat0, flatI, Option.bind_some, putAll, M.bind]; rfl) ?_
    refine Wp.seq (Wp.cond rfl (Wp.exit ?_))
    simp only [Ex.then, Ex.inBlock, if_true]
    refine Wp.seq ?_
    refine Wp.rgn (K := 0) (fun n _ => by simp [evalRgn, Option.map_some, evalOps, step, wants, osem, M.run_bind, M.mapL, M.run, M.ok, M.fresh, M.write, M.look, M.lift, putD, Arb.set, ev, Arb.get, keepFr, bin, intBin, strBin, mk, params, cellsM, load, obRead, fadr, fld, isl, iarr, xarr, idx, len, valid, slc, bound, store, splice, nilc, un, eqs, eq0, evalFeet, footOf, M.foot, orderOk, apartAll, apart1, clash, meets, callM, fcallM, callee, fz1, fzC, fz, flat, flat1, flat0, flatI, Option.bind_some, putAll, M.bind]; rfl) ?_
    refine Wp.ret ?_
    rw [anyB_false hg]; rfl
end
end Arb

/-
  RIGHT SETS.
-/
set_option linter.unusedSimpArgs false
namespace Arb
open Go

def S.cs (x : S) : List AV := x.enc.map .iv
theorem S.cs_nrm (x : S) (n0 : Nat) (h : Hp) : x.cs.map (nrm n0 h 8) = x.cs := nrm_ivs n0 h x.enc
theorem nrm_ref_cells {n0 : Nat} {h : Hp} {id : Nat} {cs : List AV} (h1 : ¬ id < 1000) (h2 : id < n0) (hg : get h id = some (.cells cs)) : nrm n0 h 8 (.ref id 0 0 0) = .ref id 0 0 0 := by
  simp [nrm, h1, h2, hg]

def badR (l : List (Int × Int)) : Nat → Bool
  | 0 => match l[0]? with
    | some r => decide (r.2 < r.1)
    | none => false
  | j + 1 => match l[j + 1]?, l[j]? with
    | some r, some p => decide (r.2 < r.1) || (decide (r.1 ≤ p.2) || IntKind.wrap .i64 (r.1 - 1) == p.2)
    | _, _ => false
def badT (l : List ByteArray) : Nat → Bool
  | 0 => match l[0]? with
    | some t => decide (8 < t.size)
    | none => false
  | j + 1 => match l[j + 1]?, l[j]? with
    | some t, some p => decide (8 < t.size) || !sless p t
    | _, _ => false
def rightS (x : S) : Bool := (List.range x.i.length).all (fun i => !badR x.i i) && (List.range x.s.length).all fun i => !badT x.s i

section
variable {prog : Nat → Option IFn}

set_option maxHeartbeats 2000000 in
theorem p_rightS (h : prog 58 = some F58) (x : S) (hi : x.i.length ≤ maxLen) (hs : x.s.length ≤ maxLen) : Ans prog 58 [x.av] (.iv (.bool (rightS x))) := by
  refine Ans.of h rfl rfl (Wp.seq ?_)
  refine Wp.rgn (K := 0) (s' := ⟨[(1, .ref 1000 0 0 0)], [(1000, .cells x.cs)], 1128⟩) (fun n _ => by simp [evalRgn, Option.map_some, evalOps, step, wants, osem, M.run_bind, M.mapL, M.run, M.ok, M.fresh, M.write, M.look, M.lift, putD, Arb.set, ev, Arb.get, keepFr, bin, intBin, strBin, mk, params, cellsM, load, obRead, fadr, fld, isl, iarr, xarr, idx, len, valid, slc, bound, store, splice, nilc, un, eqs, eq0, evalFeet, footOf, M.foot, orderOk, apartAll, apart1, clash, meets, callM, fcallM, callee, fz1, fzC, fz, flat, flat1, flat0, flatI, Option.bind_some, putAll, M.bind, S.av, S.cs, S.enc]) ?_
  refine Wp.seq (Wp.seq ?_)
  refine Wp.rgn (K := 0) (s' := ⟨[(1, .ref 1000 0 0 0), (8, .iv (.sl 2 (x.i.map rng))), (9, .iv (.int .i64 x.i.length)), (10, .iv (.int .i64 0))], [(1000, .cells x.cs)], 1384⟩) (fun n _ => by simp [evalRgn, Option.map_some, evalOps, step, wants, osem, M.run_bind, M.mapL, M.run, M.ok, M.fresh, M.write, M.look, M.lift, putD, Arb.set, ev, Arb.get, keepFr, bin, intBin, strBin, mk, params, cellsM, load, obRead, fadr, fld, isl, iarr, xarr, idx, len, valid, slc, bound, store, splice, nilc, un, eqs, eq0, evalFeet, footOf, M.foot, orderOk, apartAll, apart1, clash, meets, callM, fcallM, callee, fz1, fzC, fz, flat, flat1, flat0, flatI, Option.bind_some, putAll, M.bind, S.cs, S.enc]) ?_
  refine Wp.block ?_
  refine Wp.range x.i.length (fun i => ⟨[(1, .ref 1000 0 0 0), (8, .iv (.sl 2 (x.i.map rng))), (9, .iv (.int .i64 x.i.length)), (10, .iv (.int .i64 i))], [(1000, .cells x.cs)], 1384⟩) (fun i => ∀ j, j < i → badR x.i j = false) (by simp [keepFr, get]) (by intro j hj; omega) ?_ ?_
  · intro i hil hg
    obtain ⟨r, hr⟩ : ∃ r, x.i[i]? = some r := ⟨_, List.getElem?_eq_getElem hil⟩
    refine Wp.seq ?_
    refine Wp.rgn (K := 0) (fun n _ => by simp [evalRgn, Option.map_some, evalOps, step, wants, osem, M.run_bind, M.mapL, M.run, M.ok, M.fresh, M.write, M.look, M.lift, putD, Arb.set, ev, Arb.get, keepFr, bin, intBin, strBin, mk, params, cellsM, load, obRead, fadr, fld, isl, iarr, xarr, idx, len, valid, slc, bound, store, splice, nilc, un, eqs, eq0, evalFeet, footOf, M.foot, orderOk, apartAll, apart1, clash, meets, callM, fcallM, callee, fz1, fzC, fz, flat, flat1, flat0, flatI, Option.bind_some, putAll, M.bind, hil]; rfl) ?_
    refine Wp.seq (Wp.cond rfl (Wp.skip (Wp.seq (Wp.block (Wp.seq ?_)))))
    refine Wp.rgn (K := 0) (s' := ⟨[(1, .ref 1000 0 0 0), (3, .iv (.int .i64 i)), (4, .ref 1640 0 0 0), (8, .iv (.sl 2 (x.i.map rng))), (9, .iv (.int .i64 x.i.length)), (10, .iv (.int .i64 i))], [(1000, .cells x.cs), (1640, .cells [.iv (.int .i64 r.1), .iv (.int .i64 r.2)])], 1832⟩) (fun n _ => by
      simp [evalRgn, Option.map_some, evalOps, step, wants, osem, M.run_bind, M.mapL, M.run, M.ok, M.fresh, M.write, M.look, M.lift, putD, Arb.set, ev, Arb.get, keepFr, bin, intBin, strBin, mk, params, cellsM, load, obRead, fadr, fld, isl, iarr, xarr, idx, len, valid, slc, bound, store, splice, nilc, un, eqs, eq0, evalFeet, footOf, M.foot, orderOk, apartAll, apart1, clash, meets, callM, fcallM, callee, fz1, fzC, fz, flat, flat1, flat0, flatI, Option.bind_some, putAll, M.bind, hr, rng]) ?_
    refine Wp.seq ?_
    refine Wp.rgn (K := 0) (s' := ⟨[(1, .ref 1000 0 0 0), (8, .iv (.sl 2 (x.i.map rng))), (9, .iv (.int .i64 x.i.length)), (10, .iv (.int .i64 i)), (48, .iv (.bool (badR x.i i)))], [(1000, .cells x.cs), (1640, .cells [.iv (.int .i64 r.1), .iv (.int .i64 r.2)])], 4008⟩) (fun n _ => rgn_quiet' rfl (by
      cases i with
      | zero =>
        cases h1 : decide (r.2 < r.1) <;> simp [evalRgn, Option.map_some, evalOps, step, wants, osem, M.run_bind, M.mapL, M.run, M.ok, M.fresh, M.write, M.look, M.lift, putD, Arb.set, ev, Arb.get, keepFr, bin, intBin, strBin, mk, params, cellsM, load, obRead, fadr, fld, isl, iarr, xarr, idx, len, valid, slc, bound, store, splice, nilc, un, eqs, eq0, evalFeet, footOf, M.foot, orderOk, apartAll, apart1, clash, meets, callM, fcallM, callee, fz1, fzC, fz, flat, flat1, flat0, flatI, Option.bind_some, putAll, M.bind, badR, hr, h1]
      | succ j =>
        obtain ⟨p, hp⟩ : ∃ p, x.i[j]? = some p := ⟨_, List.getElem?_eq_getElem (by omega)⟩
        have e0 : decide ((0 : Int) < (j : Int) + 1) = true := decide_eq_true (by omega)
        have e1 : IntKind.i64.wrap (j : Int) = (j : Int) := IntWalk.i64_in _ (by unfold maxLen at hi; omega)
        cases h1 : decide (r.2 < r.1) with
        | true => simp [evalRgn, Option.map_some, evalOps, step, wants, osem, M.run_bind, M.mapL, M.run, M.ok, M.fresh, M.write, M.look, M.lift, putD, Arb.set, ev, Arb.get, keepFr, bin, intBin, strBin, mk, params, cellsM, load, obRead, fadr, fld, isl, iarr, xarr, idx, len, valid, slc, bound, store, splice, nilc, un, eqs, eq0, evalFeet, footOf, M.foot, orderOk, apartAll, apart1, clash, meets, callM, fcallM, callee, fz1, fzC, fz, flat, flat1, flat0, flatI, Option.bind_some, putAll, M.bind, badR, hr, hp, h1]
        | false =>
          cases h2 : decide (r.1 ≤ p.2) with
          | true => simp [evalRgn, Option.map_some, evalOps, step, wants, osem, M.run_bind, M.mapL, M.run, M.ok, M.fresh, M.write, M.look, M.lift, putD, Arb.set, ev, Arb.get, keepFr, bin, intBin, strBin, mk, params, cellsM, load, obRead, fadr, fld, isl, iarr, xarr, idx, len, valid, slc, bound, store, splice, nilc, un, eqs, eq0, evalFeet, footOf, M.foot, orderOk, apartAll, apart1, clash, meets, callM, fcallM, callee, fz1, fzC, fz, flat, flat1, flat0, flatI, Option.bind_some, putAll, M.bind, S.cs, S.enc, badR, hr, hp, rng, h1, h2, e0, e1]
          | false =>
            cases h3 : IntKind.wrap .i64 (r.1 - 1) == p.2 <;> simp [evalRgn, Option.map_some, evalOps, step, wants, osem, M.run_bind, M.mapL, M.run, M.ok, M.fresh, M.write, M.look, M.lift, putD, Arb.set, ev, Arb.get, keepFr, bin, intBin, strBin, mk, params, cellsM, load, obRead, fadr, fld, isl, iarr, xarr, idx, len, valid, slc, bound, store, splice, nilc, un, eqs, eq0, evalFeet, footOf, M.foot, orderOk, apartAll, apart1, clash, meets, callM, fcallM, callee, fz1, fzC, fz, flat, flat1, flat0, flatI, Option.bind_some, putAll, M.bind, S.cs, S.enc, badR, hr, hp, rng, h1, h2, h3, e0, e1])) ?_
    refine Wp.cond rfl ?_
    cases hb : badR x.i i with
    | true =>
      refine Wp.seq ?_
      refine Wp.rgn (K := 0) (fun n _ => by simp [evalRgn, Option.map_some, evalOps, step, wants, osem, M.run_bind, M.mapL, M.run, M.ok, M.fresh, M.write, M.look, M.lift, putD, Arb.set, ev, Arb.get, keepFr, bin, intBin, strBin, mk, params, cellsM, load, obRead, fadr, fld, isl, iarr, xarr, idx, len, valid, slc, bound, store, splice, nilc, un, eqs, eq0, evalFeet, footOf, M.foot, orderOk, apartAll, apart1, clash, meets, callM, fcallM, callee, fz1, fzC, fz, flat, flat1, flat0, flatI, Option.bind_some, putAll, M.bind]; rfl) ?_
      refine Wp.ret ?_
      have : rightS x = false := by
        simp only [rightS, Bool.and_eq_false_iff]
        exact .inl (List.all_eq_false.2 ⟨i, by simpa using hil, by simp [hb]⟩)
      rw [this]; rfl
    | false =>
      refine Wp.skip ?_
      refine Wp.rgn (K := 0) (fun n _ => by simp [evalRgn, Option.map_some, evalOps, step, wants, osem, M.run_bind, M.mapL, M.run, M.ok, M.fresh, M.write, M.look, M.lift, putD, Arb.set, ev, Arb.get, keepFr, bin, intBin, strBin, mk, params, cellsM, load, obRead, fadr, fld, isl, iarr, xarr, idx, len, valid, slc, bound, store, splice, nilc, un, eqs, eq0, evalFeet, footOf, M.foot, orderOk, apartAll, apart1, clash, meets, callM, fcallM, callee, fz1, fzC, fz, flat, flat1, flat0, flatI, Option.bind_some, putAll, M.bind]; rfl) ?_
      refine ⟨?_, fun j hj => ?_⟩
      · simp [again, keepFr, get, nrm_iv, nrm_ref_cells, nrmO, S.cs_nrm, wrap_succ hil hi]
      · by_cases h : j = i
        · subst h; exact hb
        · exact hg j (by omega)
  · intro hg
    have hints : (List.range x.i.length).all (fun i => !badR x.i i) = true := by
      rw [List.all_eq_true]
      intro i hi
      simp [hg i (by simpa using hi)]
    refine Wp.seq ?_
    refine Wp.rgn (K := 0) (fun n _ => by simp [evalRgn, Option.map_some, evalOps, step, wants, osem, M.run_bind, M.mapL, M.run, M.ok, M.fresh, M.write, M.look, M.lift, putD, Arb.set, ev, Arb.get, keepFr, bin, intBin, strBin, mk, params, cellsM, load, obRead, fadr, fld, isl, iarr, xarr, idx, len, valid, slc, bound, store, splice, nilc, un, eqs, eq0, evalFeet, footOf, M.foot, orderOk, apartAll, apart1, clash, meets, callM, fcallM, callee, fz1, fzC, fz, flat, flat1, flat0, flatI, Option.bind_some, putAll, M.bind]; rfl) ?_
    refine Wp.seq (Wp.cond rfl (Wp.exit ?_))
    simp only [Ex.then, Ex.inBlock, if_true]
    refine Wp.seq (Wp.seq ?_)
    refine Wp.rgn (K := 0) (s' := ⟨[(1, .ref 1000 0 0 0), (51, .iv (.sl 1 (x.s.map st1))), (52, .iv (.int .i64 x.s.length)), (53, .iv (.int .i64 0))], [(1000, .cells x.cs)], 1704⟩) (fun n _ => by simp [evalRgn, Option.map_some, evalOps, step, wants, osem, M.run_bind, M.mapL, M.run, M.ok, M.fresh, M.write, M.look, M.lift, putD, Arb.set, ev, Arb.get, keepFr, bin, intBin, strBin, mk, params, cellsM, load, obRead, fadr, fld, isl, iarr, xarr, idx, len, valid, slc, bound, store, splice, nilc, un, eqs, eq0, evalFeet, footOf, M.foot, orderOk, apartAll, apart1, clash, meets, callM, fcallM, callee, fz1, fzC, fz, flat, flat1, flat0, flatI, Option.bind_some, putAll, M.bind, S.cs, S.enc]) ?_
    refine Wp.block ?_
    refine Wp.range x.s.length (fun i => ⟨[(1, .ref 1000 0 0 0), (51, .iv (.sl 1 (x.s.map st1))), (52, .iv (.int .i64 x.s.length)), (53, .iv (.int .i64 i))], [(1000, .cells x.cs)], 1704⟩) (fun i => ∀ j, j < i → badT x.s j = false) (by simp [keepFr, get]) (by intro j hj; omega) ?_ ?_
    · intro i hil hg
      obtain ⟨t, ht⟩ : ∃ t, x.s[i]? = some t := ⟨_, List.getElem?_eq_getElem hil⟩
      refine Wp.seq ?_
      refine Wp.rgn (K := 0) (fun n _ => by simp [evalRgn, Option.map_some, evalOps, step, wants, osem, M.run_bind, M.mapL, M.run, M.ok, M.fresh, M.write, M.look, M.lift, putD, Arb.set, ev, Arb.get, keepFr, bin, intBin, strBin, mk, params, cellsM, load, obRead, fadr, fld, isl, iarr, xarr, idx, len, valid, slc, bound, store, splice, nilc, un, eqs, eq0, evalFeet, footOf, M.foot, orderOk, apartAll, apart1, clash, meets, callM, fcallM, callee, fz1, fzC, fz, flat, flat1, flat0, flatI, Option.bind_some, putAll, M.bind, hil]; rfl) ?_
      refine Wp.seq (Wp.cond rfl (Wp.skip (Wp.seq (Wp.block (Wp.seq ?_)))))
      refine Wp.rgn (K := 0) (s' := ⟨[(1, .ref 1000 0 0 0), (5, .iv (.int .i64 i)), (6, .iv (.str t)), (51, .iv (.sl 1 (x.s.map st1))), (52, .iv (.int .i64 x.s.length)), (53, .iv (.int .i64 i))], [(1000, .cells x.cs)], 2088⟩) (fun n _ => by
        simp [evalRgn, Option.map_some, evalOps, step, wants, osem, M.run_bind, M.mapL, M.run, M.ok, M.fresh, M.write, M.look, M.lift, putD, Arb.set, ev, Arb.get, keepFr, bin, intBin, strBin, mk, params, cellsM, load, obRead, fadr, fld, isl, iarr, xarr, idx, len, valid, slc, bound, store, splice, nilc, un, eqs, eq0, evalFeet, footOf, M.foot, orderOk, apartAll, apart1, clash, meets, callM, fcallM, callee, fz1, fzC, fz, flat, flat1, flat0, flatI, Option.bind_some, putAll, M.bind, ht, st1]) ?_
      refine Wp.seq ?_
      refine Wp.rgn (K := 0) (s' := ⟨[(1, .ref 1000 0 0 0), (51, .iv (.sl 1 (x.s.map st1))), (52, .iv (.int .i64 x.s.length)), (53, .iv (.int .i64 i)), (74, .iv (.bool (badT x.s i)))], [(1000, .cells x.cs)], 3176⟩) (fun n _ => rgn_quiet' rfl (by
        have e2 : decide ((8 : Int) < (t.size : Int)) = decide (8 < t.size) := decide_eq_decide.2 (by omega)
        cases i with
        | zero => cases h1 : decide (8 < t.size) <;> simp [evalRgn, Option.map_some, evalOps, step, wants, osem, M.run_bind, M.mapL, M.run, M.ok, M.fresh, M.write, M.look, M.lift, putD, Arb.set, ev, Arb.get, keepFr, bin, intBin, strBin, mk, params, cellsM, load, obRead, fadr, fld, isl, iarr, xarr, idx, len, valid, slc, bound, store, splice, nilc, un, eqs, eq0, evalFeet, footOf, M.foot, orderOk, apartAll, apart1, clash, meets, callM, fcallM, callee, fz1, fzC, fz, flat, flat1, flat0, flatI, Option.bind_some, putAll, M.bind, badT, ht, h1, e2]
        | succ j =>
          obtain ⟨p, hp⟩ : ∃ p, x.s[j]? = some p := ⟨_, List.getElem?_eq_getElem (by omega)⟩
          have e0 : decide ((0 : Int) < (j : Int) + 1) = true := decide_eq_true (by omega)
          have e1 : IntKind.i64.wrap (j : Int) = (j : Int) := IntWalk.i64_in _ (by unfold maxLen at hs; omega)
          cases h1 : decide (8 < t.size) with
          | true => simp [evalRgn, Option.map_some, evalOps, step, wants, osem, M.run_bind, M.mapL, M.run, M.ok, M.fresh, M.write, M.look, M.lift, putD, Arb.set, ev, Arb.get, keepFr, bin, intBin, strBin, mk, params, cellsM, load, obRead, fadr, fld, isl, iarr, xarr, idx, len, valid, slc, bound, store, splice, nilc, un, eqs, eq0, evalFeet, footOf, M.foot, orderOk, apartAll, apart1, clash, meets, callM, fcallM, callee, fz1, fzC, fz, flat, flat1, flat0, flatI, Option.bind_some, putAll, M.bind, badT, ht, hp, h1, e2]
          | false => simp [evalRgn, Option.map_some, evalOps, step, wants, osem, M.run_bind, M.mapL, M.run, M.ok, M.fresh, M.write, M.look, M.lift, putD, Arb.set, ev, Arb.get, keepFr, bin, intBin, strBin, mk, params, cellsM, load, obRead, fadr, fld, isl, iarr, xarr, idx, len, valid, slc, bound, store, splice, nilc, un, eqs, eq0, evalFeet, footOf, M.foot, orderOk, apartAll, apart1, clash, meets, callM, fcallM, callee, fz1, fzC, fz, flat, flat1, flat0, flatI, Option.bind_some, putAll, M.bind, S.cs, S.enc, badT, ht, hp, st1, h1, e0, e1, e2])) ?_
      refine Wp.cond rfl ?_
      cases hb : badT x.s i with
      | true =>
        refine Wp.seq ?_
        refine Wp.rgn (K := 0) (fun n _ => by simp [evalRgn, Option.map_some, evalOps, step, wants, osem, M.run_bind, M.mapL, M.run, M.ok, M.fresh, M.write, M.look, M.lift, putD, Arb.set, ev, Arb.get, keepFr, bin, intBin, strBin, mk, params, cellsM, load, obRead, fadr, fld, isl, iarr, xarr, idx, len, valid, slc, bound, store, splice, nilc, un, eqs, eq0, evalFeet, footOf, M.foot, orderOk, apartAll, apart1, clash, meets, callM, fcallM, callee, fz1, fzC, fz, flat, flat1, flat0, flatI, Option.bind_some, putAll, M.bind]; rfl) ?_
        refine Wp.ret ?_
        have : rightS x = false := by
          simp only [rightS, Bool.and_eq_false_iff]
          exact .inr (List.all_eq_false.2 ⟨i, by simpa using hil, by simp [hb]⟩)
        rw [this]; rfl
      | false =>
        refine Wp.skip ?_
        refine Wp.rgn (K := 0) (fun n _ => by simp [evalRgn, Option.map_some, evalOps, step, wants, osem, M.run_bind, M.mapL, M.run, M.ok, M.fresh, M.write, M.look, M.lift, putD, Arb.set, ev, Arb.get, keepFr, bin, intBin, strBin, mk, params, cellsM, load, obRead, fadr, fld, isl, iarr, xarr, idx, len, valid, slc, bound, store, splice, nilc, un, eqs, eq0, evalFeet, footOf, M.foot, orderOk, apartAll, apart1, clash, meets, callM, fcallM, callee, fz1, fzC, fz, flat, flat1, flat0, flatI, Option.bind_some, putAll, M.bind]; rfl) ?_
        refine ⟨?_, fun j hj => ?_⟩
        · simp [again, keepFr, get, nrm_iv, nrm_ref_cells, nrmO, S.cs_nrm, wrap_succ hil hs]
        · by_cases h : j = i
          · subst h; exact hb
          · exact hg j (by omega)
    · intro hg2
      refine Wp.seq ?_
      refine Wp.rgn (K := 0) (fun n _ => by simp [evalRgn, Option.map_some, evalOps, step, wants, osem, M.run_bind, M.mapL, M.run, M.ok, M.fresh, M.write, M.look, M.lift, putD, Arb.set, ev, Arb.get, keepFr, bin, intBin, strBin, mk, params, cellsM, load, obRead, fadr, fld, isl, iarr, xarr, idx, len, valid, slc, bound, store, splice, nilc, un, eqs, eq0, evalFeet, footOf, M.foot, orderOk, apartAll, apart1, clash, meets, callM, fcallM, callee, fz1, fzC, fz, flat, flat1, flat0, flatI, Option.bind_some, putAll, M.bind]; rfl) ?_
      refine Wp.seq (Wp.cond rfl (Wp.exit ?_))
      simp only [Ex.then, Ex.inBlock, if_true]
      refine Wp.seq ?_
      refine Wp.rgn (K := 0) (fun n _ => by simp [evalRgn, Option.map_some, evalOps, step, wants, osem, M.run_bind, M.mapL, M.run, M.ok, M.fresh, M.write, M.look, M.lift, putD, Arb.set, ev, Arb.get, keepFr, bin, intBin, strBin, mk, params, cellsM, load, obRead, fadr, fld, isl, iarr, xarr, idx, len, valid, slc, bound, store, splice, nilc, un, eqs, eq0, evalFeet, footOf, M.foot, orderOk, apartAll, apart1, clash, meets, callM, fcallM, callee, fz1, fzC, fz, flat, flat1, flat0, flatI, Option.bind_some, putAll, M.bind]; rfl) ?_
      refine Wp.ret ?_
      have : rightS x = true := by
        simp only [rightS, hints, Bool.true_and]
        rw [List.all_eq_true]
        intro i hi
        simp [hg2 i (by simpa using hi)]
      rw [this]; rfl
end
end Arb

/-
  ONE BOX: TIDY, RIGHT.
-/
set_option linter.unusedSimpArgs false
namespace Arb
open Go

def tidy1 (b : B) : List B := if anyB emptyS b then [] else [b]
theorem B.enc_take (b : B) : b.enc.take 16 = b.enc := rfl
theorem B.enc_len (b : B) : b.enc.length = 16 := rfl
theorem B.enc_cs (b : B) : b.enc.map AV.iv = b.cs := rfl

section
variable {prog : Nat → Option IFn}

theorem p_tidy1 (h66 : prog 66 = some F66) (h59 : prog 59 = some F59) (h : prog 47 = some F47) (b : B) : Ans prog 47 [filt [b]] (filt (tidy1 b)) := by
  obtain ⟨K, hK⟩ := p_emptyB h66 h59 b
  refine Ans.of h rfl rfl (Wp.seq ?_)
  refine Wp.rgn (K := 0) (fun n _ => by simp [evalRgn, Option.map_some, evalOps, step, wants, osem, M.run_bind, M.mapL, M.run, M.ok, M.fresh, M.write, M.look, M.lift, putD, Arb.set, ev, Arb.get, keepFr, bin, intBin, strBin, mk, params, cellsM, load, obRead, fadr, fld, isl, iarr, xarr, idx, len, valid, slc, bound, store, splice, nilc, un, eqs, eq0, evalFeet, footOf, M.foot, orderOk, apartAll, apart1, clash, meets, callM, fcallM, callee, fz1, fzC, fz, flat, flat1, flat0, flatI, Option.bind_some, putAll, M.bind]; rfl) ?_
  refine Wp.seq (Wp.seq ?_)
  refine Wp.rgn (K := 0) (fun n _ => by simp [evalRgn, Option.map_some, evalOps, step, wants, osem, M.run_bind, M.mapL, M.run, M.ok, M.fresh, M.write, M.look, M.lift, putD, Arb.set, ev, Arb.get, keepFr, bin, intBin, strBin, mk, params, cellsM, load, obRead, fadr, fld, isl, iarr, xarr, idx, len, valid, slc, bound, store, splice, nilc, un, eqs, eq0, evalFeet, footOf, M.foot, orderOk, apartAll, apart1, clash, meets, callM, fcallM, callee, fz1, fzC, fz, flat, flat1, flat0, flatI, Option.bind_some, putAll, M.bind, filt]; rfl) ?_
  refine Wp.block ?_
  refine Wp.range 1 (fun i => ⟨[(0, filt [b]), (2, .own 1000 0 (if i = 0 then [] else tidy1 b).length 0), (7, .iv (.int .i64 1)), (8, .iv (.int .i64 i))], [(1000, .buf 0 16 ((if i = 0 then [] else tidy1 b).map B.enc))], 1256⟩) (fun _ => True) (by simp [keepFr, get, filt]) trivial ?_ ?_
  · intro i hi _
    obtain rfl : i = 0 := by omega
    refine Wp.seq ?_
    refine Wp.rgn (K := 0) (fun n _ => by simp [evalRgn, Option.map_some, evalOps, step, wants, osem, M.run_bind, M.mapL, M.run, M.ok, M.fresh, M.write, M.look, M.lift, putD, Arb.set, ev, Arb.get, keepFr, bin, intBin, strBin, mk, params, cellsM, load, obRead, fadr, fld, isl, iarr, xarr, idx, len, valid, slc, bound, store, splice, nilc, un, eqs, eq0, evalFeet, footOf, M.foot, orderOk, apartAll, apart1, clash, meets, callM, fcallM, callee, fz1, fzC, fz, flat, flat1, flat0, flatI, Option.bind_some, putAll, M.bind]; rfl) ?_
    refine Wp.seq (Wp.cond rfl (Wp.skip (Wp.seq (Wp.block (Wp.seq ?_)))))
    refine Wp.rgn (K := 0) (fun n _ => by simp [evalRgn, Option.map_some, evalOps, step, wants, osem, M.run_bind, M.mapL, M.run, M.ok, M.fresh, M.write, M.look, M.lift, putD, Arb.set, ev, Arb.get, keepFr, bin, intBin, strBin, mk, params, cellsM, load, obRead, fadr, fld, isl, iarr, xarr, idx, len, valid, slc, bound, store, splice, nilc, un, eqs, eq0, evalFeet, footOf, M.foot, orderOk, apartAll, apart1, clash, meets, callM, fcallM, callee, fz1, fzC, fz, flat, flat1, flat0, flatI, Option.bind_some, putAll, M.bind]; rfl) ?_
    refine Wp.seq (Wp.seq ?_)
    refine Wp.rgn (K := K) (s' := ⟨[(0, filt [b]), (2, .own 1000 0 0 0), (3, .iv (.int .i64 0)), (7, .iv (.int .i64 1)), (8, .iv (.int .i64 0)), (15, .iv (.bool (anyB emptyS b)))], [(1000, .buf 0 16 [])], 1768⟩) (fun n hn => by
      have hc := hK n hn
      simp only [B.av] at hc
      simp [evalRgn, Option.map_some, evalOps, step, wants, osem, M.run_bind, M.mapL, M.run, M.ok, M.fresh, M.write, M.look, M.lift, putD, Arb.set, ev, Arb.get, keepFr, bin, intBin, strBin, mk, params, cellsM, load, obRead, fadr, fld, isl, iarr, xarr, idx, len, valid, slc, bound, store, splice, nilc, un, eqs, eq0, evalFeet, footOf, M.foot, orderOk, apartAll, apart1, clash, meets, callM, fcallM, callee, fz1, fzC, fz, flat, flat1, flat0, flatI, Option.bind_some, putAll, M.bind, filt, B.enc_take, B.enc_len, B.enc_cs, B.cs_fzC, hc]) ?_
    refine Wp.cond rfl ?_
    cases he : anyB emptyS b with
    | true =>
      refine Wp.exit ?_
      simp only [Ex.then, Ex.inBlock, if_true]
      refine Wp.rgn (K := 0) (fun n _ => by simp [evalRgn, Option.map_some, evalOps, step, wants, osem, M.run_bind, M.mapL, M.run, M.ok, M.fresh, M.write, M.look, M.lift, putD, Arb.set, ev, Arb.get, keepFr, bin, intBin, strBin, mk, params, cellsM, load, obRead, fadr, fld, isl, iarr, xarr, idx, len, valid, slc, bound, store, splice, nilc, un, eqs, eq0, evalFeet, footOf, M.foot, orderOk, apartAll, apart1, clash, meets, callM, fcallM, callee, fz1, fzC, fz, flat, flat1, flat0, flatI, Option.bind_some, putAll, M.bind]; rfl) ?_
      exact ⟨by simp [again, keepFr, get, nrm, nrmO, filt, tidy1, he]; rfl, trivial⟩
    | false =>
      refine Wp.skip (Wp.seq ?_)
      refine Wp.rgn (K := 0) (fun n _ => by simp [evalRgn, Option.map_some, evalOps, step, wants, osem, M.run_bind, M.mapL, M.run, M.ok, M.fresh, M.write, M.look, M.lift, putD, Arb.set, ev, Arb.get, keepFr, bin, intBin, strBin, mk, params, cellsM, load, obRead, fadr, fld, isl, iarr, xarr, idx, len, valid, slc, bound, store, splice, nilc, un, eqs, eq0, evalFeet, footOf, M.foot, orderOk, apartAll, apart1, clash, meets, callM, fcallM, callee, fz1, fzC, fz, flat, flat1, flat0, flatI, Option.bind_some, putAll, M.bind]; rfl) ?_
      refine Wp.seq (Wp.seq ?_)
      refine Wp.rgn (K := 0) (fun n _ => by simp [evalRgn, Option.map_some, evalOps, step, wants, osem, M.run_bind, M.mapL, M.run, M.ok, M.fresh, M.write, M.look, M.lift, putD, Arb.set, ev, Arb.get, keepFr, bin, intBin, strBin, mk, params, cellsM, load, obRead, fadr, fld, isl, iarr, xarr, idx, len, valid, slc, bound, store, splice, nilc, un, eqs, eq0, evalFeet, footOf, M.foot, orderOk, apartAll, apart1, clash, meets, callM, fcallM, callee, fz1, fzC, fz, flat, flat1, flat0, flatI, Option.bind_some, putAll, M.bind, filt]; rfl) ?_
      refine Wp.block ?_
      refine Wp.range 1 (fun k => ⟨[(0, filt [b]), (2, .own 1000 0 0 0), (3, .iv (.int .i64 0)), (4, .iv (.bool false)), (7, .iv (.int .i64 1)), (8, .iv (.int .i64 0)), (17, .iv (.int .i64 1)), (18, .iv (.int .i64 k))], [(1000, .buf 0 16 [])], 2024⟩) (fun _ => True) (by simp [keepFr, get, filt]) trivial ?_ ?_
      · intro k hk _
        obtain rfl : k = 0 := by omega
        refine Wp.seq ?_
        refine Wp.rgn (K := 0) (fun n _ => by simp [evalRgn, Option.map_some, evalOps, step, wants, osem, M.run_bind, M.mapL, M.run, M.ok, M.fresh, M.write, M.look, M.lift, putD, Arb.set, ev, Arb.get, keepFr, bin, intBin, strBin, mk, params, cellsM, load, obRead, fadr, fld, isl, iarr, xarr, idx, len, valid, slc, bound, store, splice, nilc, un, eqs, eq0, evalFeet, footOf, M.foot, orderOk, apartAll, apart1, clash, meets, callM, fcallM, callee, fz1, fzC, fz, flat, flat1, flat0, flatI, Option.bind_some, putAll, M.bind]; rfl) ?_
        refine Wp.seq (Wp.cond rfl (Wp.skip (Wp.seq (Wp.block (Wp.seq ?_)))))
        refine Wp.rgn (K := 0) (fun n _ => by simp [evalRgn, Option.map_some, evalOps, step, wants, osem, M.run_bind, M.mapL, M.run, M.ok, M.fresh, M.write, M.look, M.lift, putD, Arb.set, ev, Arb.get, keepFr, bin, intBin, strBin, mk, params, cellsM, load, obRead, fadr, fld, isl, iarr, xarr, idx, len, valid, slc, bound, store, splice, nilc, un, eqs, eq0, evalFeet, footOf, M.foot, orderOk, apartAll, apart1, clash, meets, callM, fcallM, callee, fz1, fzC, fz, flat, flat1, flat0, flatI, Option.bind_some, putAll, M.bind]; rfl) ?_
        refine Wp.rgn (K := 0) (fun n _ => rgn_quiet' rfl (by simp [evalRgn, Option.map_some, evalOps, step, wants, osem, M.run_bind, M.mapL, M.run, M.ok, M.fresh, M.write, M.look, M.lift, putD, Arb.set, ev, Arb.get, keepFr, bin, intBin, strBin, mk, params, cellsM, load, obRead, fadr, fld, isl, iarr, xarr, idx, len, valid, slc, bound, store, splice, nilc, un, eqs, eq0, evalFeet, footOf, M.foot, orderOk, apartAll, apart1, clash, meets, callM, fcallM, callee, fz1, fzC, fz, flat, flat1, flat0, flatI, Option.bind_some, putAll, M.bind]; rfl)) ?_
        simp only [Ex.then, Ex.inBlock]
        refine Wp.rgn (K := 0) (fun n _ => by simp [evalRgn, Option.map_some, evalOps, step, wants, osem, M.run_bind, M.mapL, M.run, M.ok, M.fresh, M.write, M.look, M.lift, putD, Arb.set, ev, Arb.get, keepFr, bin, intBin, strBin, mk, params, cellsM, load, obRead, fadr, fld, isl, iarr, xarr, idx, len, valid, slc, bound, store, splice, nilc, un, eqs, eq0, evalFeet, footOf, M.foot, orderOk, apartAll, apart1, clash, meets, callM, fcallM, callee, fz1, fzC, fz, flat, flat1, flat0, flatI, Option.bind_some, putAll, M.bind]; rfl) ?_
        exact ⟨by simp [again, keepFr, get, nrm, nrmO, filt]; rfl, trivial⟩
      · intro _
        refine Wp.seq ?_
        refine Wp.rgn (K := 0) (fun n _ => by simp [evalRgn, Option.map_some, evalOps, step, wants, osem, M.run_bind, M.mapL, M.run, M.ok, M.fresh, M.write, M.look, M.lift, putD, Arb.set, ev, Arb.get, keepFr, bin, intBin, strBin, mk, params, cellsM, load, obRead, fadr, fld, isl, iarr, xarr, idx, len, valid, slc, bound, store, splice, nilc, un, eqs, eq0, evalFeet, footOf, M.foot, orderOk, apartAll, apart1, clash, meets, callM, fcallM, callee, fz1, fzC, fz, flat, flat1, flat0, flatI, Option.bind_some, putAll, M.bind]; rfl) ?_
        refine Wp.seq (Wp.cond rfl (Wp.exit ?_))
        simp only [Ex.then, Ex.inBlock, if_true]
        refine Wp.seq ?_
        refine Wp.rgn (K := 0) (fun n _ => by simp [evalRgn, Option.map_some, evalOps, step, wants, osem, M.run_bind, M.mapL, M.run, M.ok, M.fresh, M.write, M.look, M.lift, putD, Arb.set, ev, Arb.get, keepFr, bin, intBin, strBin, mk, params, cellsM, load, obRead, fadr, fld, isl, iarr, xarr, idx, len, valid, slc, bound, store, splice, nilc, un, eqs, eq0, evalFeet, footOf, M.foot, orderOk, apartAll, apart1, clash, meets, callM, fcallM, callee, fz1, fzC, fz, flat, flat1, flat0, flatI, Option.bind_some, putAll, M.bind]; rfl) ?_
        refine Wp.cond rfl ?_
        refine Wp.rgn (K := 0) (fun n _ => by
          simp [evalRgn, Option.map_some, evalOps, step, wants, osem, M.run_bind, M.mapL, M.run, M.ok, M.fresh, M.write, M.look, M.lift, putD, Arb.set, ev, Arb.get, keepFr, bin, intBin, strBin, mk, params, cellsM, load, obRead, fadr, fld, isl, iarr, xarr, idx, len, valid, slc, bound, store, splice, nilc, un, eqs, eq0, evalFeet, footOf, M.foot, orderOk, apartAll, apart1, clash, meets, callM, fcallM, callee, fz1, flat, flat1, flat0, flatI, Option.bind_some, putAll, M.bind, filt, B.enc_take, B.enc_len, B.enc_cs, B.cs_len, B.cs_fz, setAll, app, elems, roomy]
          rfl) ?_
        simp only [Ex.then, Ex.inBlock]
        refine Wp.rgn (K := 0) (fun n _ => by simp [evalRgn, Option.map_some, evalOps, step, wants, osem, M.run_bind, M.mapL, M.run, M.ok, M.fresh, M.write, M.look, M.lift, putD, Arb.set, ev, Arb.get, keepFr, bin, intBin, strBin, mk, params, cellsM, load, obRead, fadr, fld, isl, iarr, xarr, idx, len, valid, slc, bound, store, splice, nilc, un, eqs, eq0, evalFeet, footOf, M.foot, orderOk, apartAll, apart1, clash, meets, callM, fcallM, callee, fz1, fzC, fz, flat, flat1, flat0, flatI, Option.bind_some, putAll, M.bind]; rfl) ?_
        exact ⟨by simp [again, keepFr, get, nrm, nrmO, filt, tidy1, he]; rfl, trivial⟩
  · intro _
    refine Wp.seq ?_
    refine Wp.rgn (K := 0) (fun n _ => by simp [evalRgn, Option.map_some, evalOps, step, wants, osem, M.run_bind, M.mapL, M.run, M.ok, M.fresh, M.write, M.look, M.lift, putD, Arb.set, ev, Arb.get, keepFr, bin, intBin, strBin, mk, params, cellsM, load, obRead, fadr, fld, isl, iarr, xarr, idx, len, valid, slc, bound, store, splice, nilc, un, eqs, eq0, evalFeet, footOf, M.foot, orderOk, apartAll, apart1, clash, meets, callM, fcallM, callee, fz1, fzC, fz, flat, flat1, flat0, flatI, Option.bind_some, putAll, M.bind]; rfl) ?_
    refine Wp.seq (Wp.cond rfl (Wp.exit ?_))
    simp only [Ex.then, Ex.inBlock, if_true]
    refine Wp.seq ?_
    refine Wp.rgn (K := 0) (fun n _ => by simp [evalRgn, Option.map_some, evalOps, step, wants, osem, M.run_bind, M.mapL, M.run, M.ok, M.fresh, M.write, M.look, M.lift, putD, Arb.set, ev, Arb.get, keepFr, bin, intBin, strBin, mk, params, cellsM, load, obRead, fadr, fld, isl, iarr, xarr, idx, len, valid, slc, bound, store, splice, nilc, un, eqs, eq0, evalFeet, footOf, M.foot, orderOk, apartAll, apart1, clash, meets, callM, fcallM, callee, fz1, fzC, fz, flat, flat1, flat0, flatI, Option.bind_some, putAll, M.bind]; rfl) ?_
    refine Wp.ret ?_
    simp [FinS, F47, resAll, resM, outA, ev, get, M.look, M.bind, M.run, M.ok, shut, fzA, fz1, fzC, fz, M.write, filt]
    exact List.take_of_length_le (by simp)

/-- a filter of one box may be -/
def right1 (b : B) : Bool := allB rightS b && (allB smallS b && !anyB emptyS b)
theorem tidy1_len (b : B) : ((tidy1 b).length : Int) = if anyB emptyS b then 0 else 1 := by
  unfold tidy1; split <;> rfl

theorem p_right1 (h24 : prog 24 = some F24) (h46 : prog 46 = some F46) (h58 : prog 58 = some F58) (h45 : prog 45 = some F45) (h66 : prog 66 = some F66) (h59 : prog 59 = some F59) (h47 : prog 47 = some F47) (h : prog 30 = some F30) (b : B)
    (hL : ∀ i, i < 4 → (b.get i).i.length ≤ maxLen ∧ (b.get i).s.length ≤ maxLen) : Ans prog 30 [filt [b]] (.iv (.bool (right1 b))) := by
  obtain ⟨K1, hK1⟩ := p_rightB rightS (fun x h1 h2 => p_rightS h58 x h1 h2) h45 b hL
  obtain ⟨K2, hK2⟩ := p_smallB h24 h46 b
  obtain ⟨K3, hK3⟩ := p_tidy1 h66 h59 h47 b
  refine Ans.of h rfl rfl (Wp.seq ?_)
  refine Wp.rgn (K := 0) (fun n _ => by simp [evalRgn, Option.map_some, evalOps, step, wants, osem, M.run_bind, M.mapL, M.run, M.ok, M.fresh, M.write, M.look, M.lift, putD, Arb.set, ev, Arb.get, keepFr, bin, intBin, strBin, mk, params, cellsM, load, obRead, fadr, fld, isl, iarr, xarr, idx, len, valid, slc, bound, store, splice, nilc, un, eqs, eq0, evalFeet, footOf, M.foot, orderOk, apartAll, apart1, clash, meets, callM, fcallM, callee, fz1, fzC, fz, flat, flat1, flat0, flatI, Option.bind_some, putAll, M.bind]; rfl) ?_
  refine Wp.seq (Wp.seq ?_)
  refine Wp.rgn (K := 0) (fun n _ => by simp [evalRgn, Option.map_some, evalOps, step, wants, osem, M.run_bind, M.mapL, M.run, M.ok, M.fresh, M.write, M.look, M.lift, putD, Arb.set, ev, Arb.get, keepFr, bin, intBin, strBin, mk, params, cellsM, load, obRead, fadr, fld, isl, iarr, xarr, idx, len, valid, slc, bound, store, splice, nilc, un, eqs, eq0, evalFeet, footOf, M.foot, orderOk, apartAll, apart1, clash, meets, callM, fcallM, callee, fz1, fzC, fz, flat, flat1, flat0, flatI, Option.bind_some, putAll, M.bind, filt]; rfl) ?_
  refine Wp.cond rfl (Wp.skip (Wp.seq (Wp.seq ?_)))
  refine Wp.rgn (K := 0) (fun n _ => by simp [evalRgn, Option.map_some, evalOps, step, wants, osem, M.run_bind, M.mapL, M.run, M.ok, M.fresh, M.write, M.look, M.lift, putD, Arb.set, ev, Arb.get, keepFr, bin, intBin, strBin, mk, params, cellsM, load, obRead, fadr, fld, isl, iarr, xarr, idx, len, valid, slc, bound, store, splice, nilc, un, eqs, eq0, evalFeet, footOf, M.foot, orderOk, apartAll, apart1, clash, meets, callM, fcallM, callee, fz1, fzC, fz, flat, flat1, flat0, flatI, Option.bind_some, putAll, M.bind, filt]; rfl) ?_
  refine Wp.block ?_
  refine Wp.range 1 (fun i => ⟨[(0, filt [b]), (8, filt [b]), (9, .iv (.int .i64 1)), (10, .iv (.int .i64 i))], [], 1448⟩) (fun i => i = 0 ∨ (allB rightS b = true ∧ allB smallS b = true)) (by simp [keepFr, get, filt]) (.inl rfl) ?_ ?_
  · intro i hi _
    obtain rfl : i = 0 := by omega
    refine Wp.seq ?_
    refine Wp.rgn (K := 0) (fun n _ => by simp [evalRgn, Option.map_some, evalOps, step, wants, osem, M.run_bind, M.mapL, M.run, M.ok, M.fresh, M.write, M.look, M.lift, putD, Arb.set, ev, Arb.get, keepFr, bin, intBin, strBin, mk, params, cellsM, load, obRead, fadr, fld, isl, iarr, xarr, idx, len, valid, slc, bound, store, splice, nilc, un, eqs, eq0, evalFeet, footOf, M.foot, orderOk, apartAll, apart1, clash, meets, callM, fcallM, callee, fz1, fzC, fz, flat, flat1, flat0, flatI, Option.bind_some, putAll, M.bind]; rfl) ?_
    refine Wp.seq (Wp.cond rfl (Wp.skip (Wp.seq (Wp.block (Wp.seq ?_)))))
    refine Wp.rgn (K := 0) (fun n _ => by
      simp [evalRgn, Option.map_some, evalOps, step, wants, osem, M.run_bind, M.mapL, M.run, M.ok, M.fresh, M.write, M.look, M.lift, putD, Arb.set, ev, Arb.get, keepFr, bin, intBin, strBin, mk, params, cellsM, load, obRead, fadr, fld, isl, iarr, xarr, idx, len, valid, slc, bound, store, splice, nilc, un, eqs, eq0, evalFeet, footOf, M.foot, orderOk, apartAll, apart1, clash, meets, callM, fcallM, callee, fz1, flat, flat1, flat0, flatI, Option.bind_some, putAll, M.bind, filt, B.enc_take, B.enc_len, B.enc_cs, B.cs_len, B.cs_nilc]
      rfl) ?_
    refine Wp.seq ?_
    refine Wp.rgn (K := max K1 K2) (s' := ⟨[(0, filt [b]), (8, filt [b]), (9, .iv (.int .i64 1)), (10, .iv (.int .i64 0)), (21, .iv (.bool (!(allB rightS b && allB smallS b))))], _, _⟩) (fun n hn => by
      have e1 := hK1 n (by omega)
      have e2 := hK2 n (by omega)
      simp only [B.av] at e1 e2
      cases hb : allB rightS b <;> rw [hb] at e1 <;> simp [evalRgn, Option.map_some, evalOps, step, wants, osem, M.run_bind, M.mapL, M.run, M.ok, M.fresh, M.write, M.look, M.lift, putD, Arb.set, ev, Arb.get, keepFr, bin, intBin, strBin, mk, params, cellsM, load, obRead, fadr, fld, isl, iarr, xarr, idx, len, valid, slc, bound, store, splice, nilc, un, eqs, eq0, evalFeet, footOf, M.foot, orderOk, apartAll, apart1, clash, meets, callM, fcallM, callee, fz1, fzC, fz, flat, flat1, flat0, flatI, Option.bind_some, putAll, M.bind, filt, B.cs_16, B.cs_len, B.cs_fzC, e1, e2]
      all_goals exact ⟨rfl, rfl⟩) ?_
    refine Wp.cond rfl ?_
    cases hb : allB rightS b && allB smallS b with
    | false =>
      refine Wp.seq ?_
      refine Wp.rgn (K := 0) (fun n _ => by simp [evalRgn, Option.map_some, evalOps, step, wants, osem, M.run_bind, M.mapL, M.run, M.ok, M.fresh, M.write, M.look, M.lift, putD, Arb.set, ev, Arb.get, keepFr, bin, intBin, strBin, mk, params, cellsM, load, obRead, fadr, fld, isl, iarr, xarr, idx, len, valid, slc, bound, store, splice, nilc, un, eqs, eq0, evalFeet, footOf, M.foot, orderOk, apartAll, apart1, clash, meets, callM, fcallM, callee, fz1, fzC, fz, flat, flat1, flat0, flatI, Option.bind_some, putAll, M.bind]; rfl) ?_
      refine Wp.ret ?_
      have : right1 b = false := by
        unfold right1
        cases h1 : allB rightS b <;> cases h2 : allB smallS b <;> simp_all
      rw [this]; rfl
    | true =>
      refine Wp.skip ?_
      refine Wp.rgn (K := 0) (fun n _ => by simp [evalRgn, Option.map_some, evalOps, step, wants, osem, M.run_bind, M.mapL, M.run, M.ok, M.fresh, M.write, M.look, M.lift, putD, Arb.set, ev, Arb.get, keepFr, bin, intBin, strBin, mk, params, cellsM, load, obRead, fadr, fld, isl, iarr, xarr, idx, len, valid, slc, bound, store, splice, nilc, un, eqs, eq0, evalFeet, footOf, M.foot, orderOk, apartAll, apart1, clash, meets, callM, fcallM, callee, fz1, fzC, fz, flat, flat1, flat0, flatI, Option.bind_some, putAll, M.bind]; rfl) ?_
      exact ⟨by simp [again, keepFr, get, nrm, nrmO, filt, show IntKind.i64.wrap 1 = 1 from by decide], .inr (by simpa using hb)⟩
  · intro hg
    have hg : allB rightS b = true ∧ allB smallS b = true := by simpa using hg
    refine Wp.seq ?_
    refine Wp.rgn (K := 0) (fun n _ => by simp [evalRgn, Option.map_some, evalOps, step, wants, osem, M.run_bind, M.mapL, M.run, M.ok, M.fresh, M.write, M.look, M.lift, putD, Arb.set, ev, Arb.get, keepFr, bin, intBin, strBin, mk, params, cellsM, load, obRead, fadr, fld, isl, iarr, xarr, idx, len, valid, slc, bound, store, splice, nilc, un, eqs, eq0, evalFeet, footOf, M.foot, orderOk, apartAll, apart1, clash, meets, callM, fcallM, callee, fz1, fzC, fz, flat, flat1, flat0, flatI, Option.bind_some, putAll, M.bind]; rfl) ?_
    refine Wp.seq (Wp.cond rfl (Wp.exit ?_))
    simp only [Ex.then, Ex.inBlock, if_true]
    refine Wp.seq ?_
    refine Wp.rgn (K := K3) (s' := ⟨[(2, .iv (.bool (!anyB emptyS b)))], [], _⟩) (fun n hn => by
      have e3 := hK3 n hn
      simp only [filt, List.map_cons, List.map_nil] at e3
      have e4 := tidy1_len b
      cases he : anyB emptyS b <;> rw [he] at e4 <;> simp only [if_true, Bool.false_eq_true, if_false] at e4 <;> simp [evalRgn, Option.map_some, evalOps, step, wants, osem, M.run_bind, M.mapL, M.run, M.ok, M.fresh, M.write, M.look, M.lift, putD, Arb.set, ev, Arb.get, keepFr, bin, intBin, strBin, mk, params, cellsM, load, obRead, fadr, fld, isl, iarr, xarr, idx, len, valid, slc, bound, store, splice, nilc, un, eqs, eq0, evalFeet, footOf, M.foot, orderOk, apartAll, apart1, clash, meets, callM, fcallM, callee, fz1, fzC, fz, flat, flat1, flat0, flatI, Option.bind_some, putAll, M.bind, filt, e3, e4]
      all_goals rfl) ?_
    refine Wp.ret ?_
    have : right1 b = !anyB emptyS b := by simp [right1, hg.1, hg.2]
    rw [this]; rfl
end
end Arb

/-
  IN HOW MANY ATTRIBUTES TWO BOXES DIFFER.
-/
set_option linter.unusedSimpArgs false
namespace Arb
open Go

def diffTo (a b : B) : Nat → Nat × Int
  | 0 => (0, -1)
  | i + 1 => if sameS (a.get i) (b.get i) then diffTo a b i else ((diffTo a b i).1 + 1, if (diffTo a b i).1 = 0 then (i : Int) else (diffTo a b i).2)
theorem diffTo_le (a b : B) : ∀ i, (diffTo a b i).1 ≤ i
  | 0 => Nat.le_refl _
  | i + 1 => by
    have := diffTo_le a b i
    unfold diffTo
    split
    · omega
    · simp only []; omega

section
variable {prog : Nat → Option IFn}

set_option maxHeartbeats 1000000 in
theorem p_differ (h32 : prog 32 = some F32) (h33 : prog 33 = some F33) (h17 : prog 17 = some F17) (h : prog 31 = some F31) (a b : B) (hL : ∀ i, i < 4 → (a.get i).i.length ≤ maxLen ∧ (a.get i).s.length ≤ maxLen) :
    Ans prog 31 [a.av, b.av] (.tup [.iv (.int .i64 (diffTo a b 4).1), .iv (.int .i64 (diffTo a b 4).2)]) := by
  refine Ans.of h rfl rfl (Wp.seq ?_)
  refine Wp.rgn (K := 0) (s' := ⟨[(2, .ref 1000 0 0 0), (3, .ref 1064 0 0 0), (4, .iv (.int .i64 0))], [(1000, .cells a.cs), (1064, .cells b.cs)], 1256⟩) (fun n _ => by
    simp [evalRgn, Option.map_some, evalOps, step, wants, osem, M.run_bind, M.mapL, M.run, M.ok, M.fresh, M.write, M.look, M.lift, putD, Arb.set, ev, Arb.get, keepFr, bin, intBin, strBin, mk, params, cellsM, load, obRead, fadr, fld, isl, iarr, xarr, idx, len, valid, slc, bound, store, splice, nilc, un, eqs, eq0, evalFeet, footOf, M.foot, orderOk, apartAll, apart1, clash, meets, callM, fcallM, callee, fz1, flat, flat1, flat0, flatI, Option.bind_some, putAll, M.bind, B.av, B.cs_nilc]) ?_
  refine Wp.seq ?_
  refine Wp.rgn (K := 0) (fun n _ => by simp [evalRgn, Option.map_some, evalOps, step, wants, osem, M.run_bind, M.mapL, M.run, M.ok, M.fresh, M.write, M.look, M.lift, putD, Arb.set, ev, Arb.get, keepFr, bin, intBin, strBin, mk, params, cellsM, load, obRead, fadr, fld, isl, iarr, xarr, idx, len, valid, slc, bound, store, splice, nilc, un, eqs, eq0, evalFeet, footOf, M.foot, orderOk, apartAll, apart1, clash, meets, callM, fcallM, callee, fz1, fzC, fz, flat, flat1, flat0, flatI, Option.bind_some, putAll, M.bind]; rfl) ?_
  refine Wp.seq (Wp.seq ?_)
  refine Wp.rgn (K := 0) (fun n _ => by simp [evalRgn, Option.map_some, evalOps, step, wants, osem, M.run_bind, M.mapL, M.run, M.ok, M.fresh, M.write, M.look, M.lift, putD, Arb.set, ev, Arb.get, keepFr, bin, intBin, strBin, mk, params, cellsM, load, obRead, fadr, fld, isl, iarr, xarr, idx, len, valid, slc, bound, store, splice, nilc, un, eqs, eq0, evalFeet, footOf, M.foot, orderOk, apartAll, apart1, clash, meets, callM, fcallM, callee, fz1, fzC, fz, flat, flat1, flat0, flatI, Option.bind_some, putAll, M.bind]; rfl) ?_
  refine Wp.block ?_
  refine Wp.range 4 (fun i => ⟨[(2, .ref 1000 0 0 0), (3, .ref 1064 0 0 0), (4, .iv (.int .i64 (diffTo a b i).1)), (5, .iv (.int .i64 (diffTo a b i).2)), (7, .iv (.int .i64 i))], [(1000, .cells a.cs), (1064, .cells b.cs)], 1384⟩) (fun _ => True) rfl trivial ?_ ?_
  · intro i hi _
    have hi' : (i : Int) < 4 := by omega
    have hm : min 4 (16 - i * 4) = 4 := by omega
    have hle := diffTo_le a b i
    have hw : IntKind.i64.wrap (((diffTo a b i).1 : Int) + 1) = ((diffTo a b i).1 : Int) + 1 := IntWalk.i64_in _ (by omega)
    refine Wp.seq ?_
    refine Wp.rgn (K := 0) (fun n _ => by simp [evalRgn, Option.map_some, evalOps, step, wants, osem, M.run_bind, M.mapL, M.run, M.ok, M.fresh, M.write, M.look, M.lift, putD, Arb.set, ev, Arb.get, keepFr, bin, intBin, strBin, mk, params, cellsM, load, obRead, fadr, fld, isl, iarr, xarr, idx, len, valid, slc, bound, store, splice, nilc, un, eqs, eq0, evalFeet, footOf, M.foot, orderOk, apartAll, apart1, clash, meets, callM, fcallM, callee, fz1, fzC, fz, flat, flat1, flat0, flatI, Option.bind_some, putAll, M.bind, hi']; rfl) ?_
    refine Wp.seq (Wp.cond rfl (Wp.skip (Wp.seq (Wp.block (Wp.seq ?_)))))
    refine Wp.rgn (K := 0) (fun n _ => by simp [evalRgn, Option.map_some, evalOps, step, wants, osem, M.run_bind, M.mapL, M.run, M.ok, M.fresh, M.write, M.look, M.lift, putD, Arb.set, ev, Arb.get, keepFr, bin, intBin, strBin, mk, params, cellsM, load, obRead, fadr, fld, isl, iarr, xarr, idx, len, valid, slc, bound, store, splice, nilc, un, eqs, eq0, evalFeet, footOf, M.foot, orderOk, apartAll, apart1, clash, meets, callM, fcallM, callee, fz1, fzC, fz, flat, flat1, flat0, flatI, Option.bind_some, putAll, M.bind]; rfl) ?_
    refine Wp.seq (Wp.seq ?_)
    obtain ⟨K, hK⟩ := p_sameS h32 h33 h17 (a.get i) (b.get i) (hL i hi).1 (hL i hi).2
    refine Wp.rgn (K := K) (s' := ⟨[(2, .ref 1000 0 0 0), (3, .ref 1064 0 0 0), (4, .iv (.int .i64 (diffTo a b i).1)), (5, .iv (.int .i64 (diffTo a b i).2)), (6, .iv (.int .i64 i)), (7, .iv (.int .i64 i)), (16, .iv (.bool (sameS (a.get i) (b.get i))))], [(1000, .cells a.cs), (1064, .cells b.cs)], 2024⟩) (fun n hn => rgn_quiet' rfl (by
      have hc := hK n hn
      simp only [S.av] at hc
      simp [evalRgn, Option.map_some, evalOps, step, wants, osem, M.run_bind, M.mapL, M.run, M.ok, M.fresh, M.write, M.look, M.lift, putD, Arb.set, ev, Arb.get, keepFr, bin, intBin, strBin, mk, params, cellsM, load, obRead, fadr, fld, isl, iarr, xarr, idx, len, valid, slc, bound, store, splice, nilc, un, eqs, eq0, evalFeet, footOf, M.foot, orderOk, apartAll, apart1, clash, meets, callM, fcallM, callee, fz1, fzC, fz, flat, flat1, flat0, flatI, Option.bind_some, putAll, M.bind, hi', B.cs_at a hi, B.cs_at b hi, B.cs_len, hm, hc])) ?_
    refine Wp.cond rfl ?_
    cases hs : sameS (a.get i) (b.get i) with
    | true =>
      refine Wp.exit ?_
      simp only [Ex.then, Ex.inBlock, if_true]
      refine Wp.rgn (K := 0) (fun n _ => by simp [evalRgn, Option.map_some, evalOps, step, wants, osem, M.run_bind, M.mapL, M.run, M.ok, M.fresh, M.write, M.look, M.lift, putD, Arb.set, ev, Arb.get, keepFr, bin, intBin, strBin, mk, params, cellsM, load, obRead, fadr, fld, isl, iarr, xarr, idx, len, valid, slc, bound, store, splice, nilc, un, eqs, eq0, evalFeet, footOf, M.foot, orderOk, apartAll, apart1, clash, meets, callM, fcallM, callee, fz1, fzC, fz, flat, flat1, flat0, flatI, Option.bind_some, putAll, M.bind]; rfl) ?_
      refine ⟨?_, trivial⟩
      rw [show diffTo a b (i + 1) = diffTo a b i by simp [diffTo, hs]]
      simp [again, keepFr, get, nrm_iv, nrm_ref_cells, nrmO, B.cs_nrm, wrap_lt4 hi]
    | false =>
      refine Wp.skip (Wp.seq ?_)
      refine Wp.rgn (K := 0) (fun n _ => by simp [evalRgn, Option.map_some, evalOps, step, wants, osem, M.run_bind, M.mapL, M.run, M.ok, M.fresh, M.write, M.look, M.lift, putD, Arb.set, ev, Arb.get, keepFr, bin, intBin, strBin, mk, params, cellsM, load, obRead, fadr, fld, isl, iarr, xarr, idx, len, valid, slc, bound, store, splice, nilc, un, eqs, eq0, evalFeet, footOf, M.foot, orderOk, apartAll, apart1, clash, meets, callM, fcallM, callee, fz1, fzC, fz, flat, flat1, flat0, flatI, Option.bind_some, putAll, M.bind, hw]; rfl) ?_
      have hd : diffTo a b (i + 1) = ((diffTo a b i).1 + 1, if (diffTo a b i).1 = 0 then (i : Int) else (diffTo a b i).2) := by simp [diffTo, hs]
      by_cases h0 : (diffTo a b i).1 = 0
      · refine Wp.seq ?_
        refine Wp.rgn (K := 0) (fun n _ => by simp [evalRgn, Option.map_some, evalOps, step, wants, osem, M.run_bind, M.mapL, M.run, M.ok, M.fresh, M.write, M.look, M.lift, putD, Arb.set, ev, Arb.get, keepFr, bin, intBin, strBin, mk, params, cellsM, load, obRead, fadr, fld, isl, iarr, xarr, idx, len, valid, slc, bound, store, splice, nilc, un, eqs, eq0, evalFeet, footOf, M.foot, orderOk, apartAll, apart1, clash, meets, callM, fcallM, callee, fz1, fzC, fz, flat, flat1, flat0, flatI, Option.bind_some, putAll, M.bind, h0]; rfl) ?_
        refine Wp.cond rfl ?_
        refine Wp.rgn (K := 0) (fun n _ => by simp [evalRgn, Option.map_some, evalOps, step, wants, osem, M.run_bind, M.mapL, M.run, M.ok, M.fresh, M.write, M.look, M.lift, putD, Arb.set, ev, Arb.get, keepFr, bin, intBin, strBin, mk, params, cellsM, load, obRead, fadr, fld, isl, iarr, xarr, idx, len, valid, slc, bound, store, splice, nilc, un, eqs, eq0, evalFeet, footOf, M.foot, orderOk, apartAll, apart1, clash, meets, callM, fcallM, callee, fz1, fzC, fz, flat, flat1, flat0, flatI, Option.bind_some, putAll, M.bind]; rfl) ?_
        simp only [Ex.then, Ex.inBlock]
        refine Wp.rgn (K := 0) (fun n _ => by simp [evalRgn, Option.map_some, evalOps, step, wants, osem, M.run_bind, M.mapL, M.run, M.ok, M.fresh, M.write, M.look, M.lift, putD, Arb.set, ev, Arb.get, keepFr, bin, intBin, strBin, mk, params, cellsM, load, obRead, fadr, fld, isl, iarr, xarr, idx, len, valid, slc, bound, store, splice, nilc, un, eqs, eq0, evalFeet, footOf, M.foot, orderOk, apartAll, apart1, clash, meets, callM, fcallM, callee, fz1, fzC, fz, flat, flat1, flat0, flatI, Option.bind_some, putAll, M.bind]; rfl) ?_
        refine ⟨?_, trivial⟩
        rw [hd]
        simp [again, keepFr, get, nrm_iv, nrm_ref_cells, nrmO, B.cs_nrm, wrap_lt4 hi, h0]
      · have h1 : (((diffTo a b i).1 : Int) + 1 == 1) = false := by simp; omega
        refine Wp.seq ?_
        refine Wp.rgn (K := 0) (fun n _ => by simp only [evalRgn, evalOps, step, wants, osem, M.run_bind, M.run, M.lift, putD, Arb.set, ev, Arb.get, keepFr, bin, intBin]; simp [Arb.get, keepFr, Arb.set, M.run, h1]; rfl) ?_
        refine Wp.cond rfl (Wp.skip ?_)
        simp only [Ex.then, Ex.inBlock]
        refine Wp.rgn (K := 0) (fun n _ => by simp [evalRgn, Option.map_some, evalOps, step, wants, osem, M.run_bind, M.mapL, M.run, M.ok, M.fresh, M.write, M.look, M.lift, putD, Arb.set, ev, Arb.get, keepFr, bin, intBin, strBin, mk, params, cellsM, load, obRead, fadr, fld, isl, iarr, xarr, idx, len, valid, slc, bound, store, splice, nilc, un, eqs, eq0, evalFeet, footOf, M.foot, orderOk, apartAll, apart1, clash, meets, callM, fcallM, callee, fz1, fzC, fz, flat, flat1, flat0, flatI, Option.bind_some, putAll, M.bind]; rfl) ?_
        refine ⟨?_, trivial⟩
        rw [hd]
        simp [again, keepFr, get, nrm_iv, nrm_ref_cells, nrmO, B.cs_nrm, wrap_lt4 hi, h0]
  · intro _
    refine Wp.seq ?_
    refine Wp.rgn (K := 0) (fun n _ => by simp [evalRgn, Option.map_some, evalOps, step, wants, osem, M.run_bind, M.mapL, M.run, M.ok, M.fresh, M.write, M.look, M.lift, putD, Arb.set, ev, Arb.get, keepFr, bin, intBin, strBin, mk, params, cellsM, load, obRead, fadr, fld, isl, iarr, xarr, idx, len, valid, slc, bound, store, splice, nilc, un, eqs, eq0, evalFeet, footOf, M.foot, orderOk, apartAll, apart1, clash, meets, callM, fcallM, callee, fz1, fzC, fz, flat, flat1, flat0, flatI, Option.bind_some, putAll, M.bind]; rfl) ?_
    refine Wp.seq (Wp.cond rfl (Wp.exit ?_))
    simp only [Ex.then, Ex.inBlock, if_true]
    refine Wp.seq ?_
    refine Wp.rgn (K := 0) (fun n _ => by simp [evalRgn, Option.map_some, evalOps, step, wants, osem, M.run_bind, M.mapL, M.run, M.ok, M.fresh, M.write, M.look, M.lift, putD, Arb.set, ev, Arb.get, keepFr, bin, intBin, strBin, mk, params, cellsM, load, obRead, fadr, fld, isl, iarr, xarr, idx, len, valid, slc, bound, store, splice, nilc, un, eqs, eq0, evalFeet, footOf, M.foot, orderOk, apartAll, apart1, clash, meets, callM, fcallM, callee, fz1, fzC, fz, flat, flat1, flat0, flatI, Option.bind_some, putAll, M.bind]; rfl) ?_
    refine Wp.ret ?_
    rfl
end
end Arb

/-
  IN WHICH ATTRIBUTE TWO FILTERS DIFFER ALONE.
-/
set_option linter.unusedSimpArgs false
namespace Arb
open Go

def beside (a b : List B) : Int × Bool :=
  match a, b with
  | [x], [y] => if right1 x && right1 y then ((diffTo x y 4).2, (diffTo x y 4).1 == 1) else (0, false)
  | _, _ => (0, false)
theorem beside_ne {a b : List B} (h : a.length ≠ 1 ∨ b.length ≠ 1) : beside a b = (0, false) := by
  unfold beside
  split
  · simp at h
  · rfl

def B.fits (b : B) : Prop := ∀ i, i < 4 → (b.get i).i.length ≤ maxLen ∧ (b.get i).s.length ≤ maxLen

structure Lib1 (prog : Nat → Option IFn) : Prop where
  h17 : prog 17 = some F17
  h24 : prog 24 = some F24
  h30 : prog 30 = some F30
  h31 : prog 31 = some F31
  h32 : prog 32 = some F32
  h33 : prog 33 = some F33
  h45 : prog 45 = some F45
  h46 : prog 46 = some F46
  h47 : prog 47 = some F47
  h58 : prog 58 = some F58
  h59 : prog 59 = some F59
  h66 : prog 66 = some F66

section
variable {prog : Nat → Option IFn}
theorem q_right1 (L : Lib1 prog) (b : B) (hb : b.fits) : Ans prog 30 [filt [b]] (.iv (.bool (right1 b))) := p_right1 L.h24 L.h46 L.h58 L.h45 L.h66 L.h59 L.h47 L.h30 b hb

theorem p_beside (L : Lib1 prog) (h : prog 16 = some F16) (a b : List B) (ha : ∀ x ∈ a, x.fits) (hb : ∀ x ∈ b, x.fits) :
    Ans prog 16 [filt a, filt b] (.tup [.iv (.int .i64 (beside a b).1), .iv (.bool (beside a b).2)]) := by
  refine Ans.of h rfl rfl (Wp.seq ?_)
  refine Wp.rgn (K := 0) (fun n _ => by simp [evalRgn, Option.map_some, evalOps, step, wants, osem, M.run_bind, M.mapL, M.run, M.ok, M.fresh, M.write, M.look, M.lift, putD, Arb.set, ev, Arb.get, keepFr, bin, intBin, strBin, mk, params, cellsM, load, obRead, fadr, fld, isl, iarr, xarr, idx, len, valid, slc, bound, store, splice, nilc, un, eqs, eq0, evalFeet, footOf, M.foot, orderOk, apartAll, apart1, clash, meets, callM, fcallM, callee, fz1, fzC, fz, flat, flat1, flat0, flatI, Option.bind_some, putAll, M.bind]; rfl) ?_
  refine Wp.seq (Wp.seq ?_)
  by_cases hn : a.length ≠ 1 ∨ b.length ≠ 1
  · rw [beside_ne hn]
    refine Wp.rgn (K := 0) (s' := ⟨[(0, filt a), (1, filt b), (24, .iv (.bool true))], [], 2280⟩) (fun n _ => by
      cases h1 : ((a.length : Int) != 1) with
      | true => simp [evalRgn, Option.map_some, evalOps, step, wants, osem, M.run_bind, M.mapL, M.run, M.ok, M.fresh, M.write, M.look, M.lift, putD, Arb.set, ev, Arb.get, keepFr, bin, intBin, strBin, mk, params, cellsM, load, obRead, fadr, fld, isl, iarr, xarr, idx, len, valid, slc, bound, store, splice, nilc, un, eqs, eq0, evalFeet, footOf, M.foot, orderOk, apartAll, apart1, clash, meets, callM, fcallM, callee, fz1, fzC, fz, flat, flat1, flat0, flatI, Option.bind_some, putAll, M.bind, filt, h1]
      | false =>
        have h2 : ((b.length : Int) != 1) = true := by simp at h1 hn ⊢; omega
        simp [evalRgn, Option.map_some, evalOps, step, wants, osem, M.run_bind, M.mapL, M.run, M.ok, M.fresh, M.write, M.look, M.lift, putD, Arb.set, ev, Arb.get, keepFr, bin, intBin, strBin, mk, params, cellsM, load, obRead, fadr, fld, isl, iarr, xarr, idx, len, valid, slc, bound, store, splice, nilc, un, eqs, eq0, evalFeet, footOf, M.foot, orderOk, apartAll, apart1, clash, meets, callM, fcallM, callee, fz1, fzC, fz, flat, flat1, flat0, flatI, Option.bind_some, putAll, M.bind, filt, h1, h2]) ?_
    refine Wp.cond rfl (Wp.seq ?_)
    refine Wp.rgn (K := 0) (fun n _ => by simp [evalRgn, Option.map_some, evalOps, step, wants, osem, M.run_bind, M.mapL, M.run, M.ok, M.fresh, M.write, M.look, M.lift, putD, Arb.set, ev, Arb.get, keepFr, bin, intBin, strBin, mk, params, cellsM, load, obRead, fadr, fld, isl, iarr, xarr, idx, len, valid, slc, bound, store, splice, nilc, un, eqs, eq0, evalFeet, footOf, M.foot, orderOk, apartAll, apart1, clash, meets, callM, fcallM, callee, fz1, fzC, fz, flat, flat1, flat0, flatI, Option.bind_some, putAll, M.bind]; rfl) ?_
    exact Wp.ret rfl
  · obtain ⟨x, rfl⟩ : ∃ x, a = [x] := List.length_eq_one_iff.1 (by omega)
    obtain ⟨y, rfl⟩ : ∃ y, b = [y] := List.length_eq_one_iff.1 (by omega)
    obtain ⟨K1, h1⟩ := q_right1 L x (ha x (by simp))
    obtain ⟨K2, h2⟩ := q_right1 L y (hb y (by simp))
    refine Wp.rgn (K := max K1 K2) (s' := ⟨[(0, filt [x]), (1, filt [y]), (24, .iv (.bool (!(right1 x && right1 y))))], [], 2280⟩) (fun n hn => by
      have e1 := h1 n (by omega)
      have e2 := h2 n (by omega)
      simp only [filt, List.map_cons, List.map_nil] at e1 e2
      cases hx : right1 x <;> rw [hx] at e1 <;> simp [evalRgn, Option.map_some, evalOps, step, wants, osem, M.run_bind, M.mapL, M.run, M.ok, M.fresh, M.write, M.look, M.lift, putD, Arb.set, ev, Arb.get, keepFr, bin, intBin, strBin, mk, params, cellsM, load, obRead, fadr, fld, isl, iarr, xarr, idx, len, valid, slc, bound, store, splice, nilc, un, eqs, eq0, evalFeet, footOf, M.foot, orderOk, apartAll, apart1, clash, meets, callM, fcallM, callee, fz1, fzC, fz, flat, flat1, flat0, flatI, Option.bind_some, putAll, M.bind, filt, e1, e2]) ?_
    refine Wp.cond rfl ?_
    cases hr : right1 x && right1 y with
    | false =>
      refine Wp.seq ?_
      refine Wp.rgn (K := 0) (fun n _ => by simp [evalRgn, Option.map_some, evalOps, step, wants, osem, M.run_bind, M.mapL, M.run, M.ok, M.fresh, M.write, M.look, M.lift, putD, Arb.set, ev, Arb.get, keepFr, bin, intBin, strBin, mk, params, cellsM, load, obRead, fadr, fld, isl, iarr, xarr, idx, len, valid, slc, bound, store, splice, nilc, un, eqs, eq0, evalFeet, footOf, M.foot, orderOk, apartAll, apart1, clash, meets, callM, fcallM, callee, fz1, fzC, fz, flat, flat1, flat0, flatI, Option.bind_some, putAll, M.bind]; rfl) ?_
      refine Wp.ret ?_
      rw [show beside [x] [y] = (0, false) by simp [beside, hr]]; rfl
    | true =>
      rw [show beside [x] [y] = ((diffTo x y 4).2, (diffTo x y 4).1 == 1) by simp [beside, hr]]
      refine Wp.skip (Wp.seq ?_)
      obtain ⟨K3, h3⟩ := p_differ L.h32 L.h33 L.h17 L.h31 x y (ha x (by simp))
      refine Wp.rgn (K := K3) (s' := ⟨[(4, .iv (.int .i64 (diffTo x y 4).2)), (6, .iv (.int .i64 (diffTo x y 4).1))], [], _⟩) (fun n hn => rgn_quiet' rfl (by
        have e3 := h3 n hn
        simp only [B.av] at e3
        simp [evalRgn, Option.map_some, evalOps, step, wants, osem, M.run_bind, M.mapL, M.run, M.ok, M.fresh, M.write, M.look, M.lift, putD, Arb.set, ev, Arb.get, keepFr, bin, intBin, strBin, mk, params, cellsM, load, obRead, fadr, fld, isl, iarr, xarr, idx, len, valid, slc, bound, store, splice, nilc, un, eqs, eq0, evalFeet, footOf, M.foot, orderOk, apartAll, apart1, clash, meets, callM, fcallM, callee, fz1, fzC, fz, flat, flat1, flat0, flatI, Option.bind_some, putAll, M.bind, filt, B.enc_take, B.enc_len, B.enc_cs, B.cs_fzC, e3]
        rfl)) ?_
      refine Wp.seq ?_
      refine Wp.rgn (K := 0) (s' := ⟨[(4, .iv (.int .i64 (diffTo x y 4).2)), (5, .iv (.bool ((diffTo x y 4).1 == 1)))], [], _⟩) (fun n _ => by
        have : (((diffTo x y 4).1 : Int) == 1) = ((diffTo x y 4).1 == 1) := by rw [Bool.eq_iff_iff]; simp; omega
        simp [evalRgn, Option.map_some, evalOps, step, wants, osem, M.run_bind, M.mapL, M.run, M.ok, M.fresh, M.write, M.look, M.lift, putD, Arb.set, ev, Arb.get, keepFr, bin, intBin, strBin, mk, params, cellsM, load, obRead, fadr, fld, isl, iarr, xarr, idx, len, valid, slc, bound, store, splice, nilc, un, eqs, eq0, evalFeet, footOf, M.foot, orderOk, apartAll, apart1, clash, meets, callM, fcallM, callee, fz1, fzC, fz, flat, flat1, flat0, flatI, Option.bind_some, putAll, M.bind, this]
        rfl) ?_
      exact Wp.ret rfl
end
end Arb

/-
  SMALL FUNCTIONS.
-/
set_option linter.unusedSimpArgs false
namespace Arb
open Go

section
variable {prog : Nat → Option IFn}

def far : Int := 18446744073709551615
def addF (a b : Int) : Int := if a = far ∨ b = far ∨ IntKind.wrap .u64 (a + b) < a then far else IntKind.wrap .u64 (a + b)

theorem p_add (h : prog 28 = some F28) (a b : Int) : Ans prog 28 [.iv (.int .u64 a), .iv (.int .u64 b)] (.iv (.int .u64 (addF a b))) := by
  refine Ans.of h rfl rfl (Wp.seq ?_)
  refine Wp.rgn (K := 0) (fun n _ => by simp [evalRgn, Option.map_some, evalOps, step, wants, osem, M.run_bind, M.mapL, M.run, M.ok, M.fresh, M.write, M.look, M.lift, putD, Arb.set, ev, Arb.get, keepFr, bin, intBin, strBin, mk, params, cellsM, load, obRead, fadr, fld, isl, iarr, xarr, idx, len, valid, slc, bound, store, splice, nilc, un, eqs, eq0, evalFeet, footOf, M.foot, orderOk, apartAll, apart1, clash, meets, callM, fcallM, callee, fz1, fzC, fz, flat, flat1, flat0, flatI, Option.bind_some, putAll, M.bind]; rfl) ?_
  refine Wp.seq (Wp.seq ?_)
  refine Wp.rgn (K := 0) (s' := ⟨[(0, .iv (.int .u64 a)), (1, .iv (.int .u64 b)), (17, .iv (.bool (a == 18446744073709551615 || b == 18446744073709551615 || decide (IntKind.wrap .u64 (a + b) < a))))], [], 1896⟩) (fun n _ => by
    cases h1 : a == (18446744073709551615 : Int) <;> cases h2 : b == (18446744073709551615 : Int) <;> cases h3 : decide (IntKind.wrap .u64 (a + b) < a) <;> simp [evalRgn, Option.map_some, evalOps, step, wants, osem, M.run_bind, M.mapL, M.run, M.ok, M.fresh, M.write, M.look, M.lift, putD, Arb.set, ev, Arb.get, keepFr, bin, intBin, strBin, mk, params, cellsM, load, obRead, fadr, fld, isl, iarr, xarr, idx, len, valid, slc, bound, store, splice, nilc, un, eqs, eq0, evalFeet, footOf, M.foot, orderOk, apartAll, apart1, clash, meets, callM, fcallM, callee, fz1, fzC, fz, flat, flat1, flat0, flatI, Option.bind_some, putAll, M.bind, h1, h2, h3]) ?_
  refine Wp.cond rfl ?_
  unfold addF
  split
  · rename_i hc
    rw [if_pos (by simpa [far, or_assoc] using hc)]
    refine Wp.seq ?_
    refine Wp.rgn (K := 0) (fun n _ => by simp [evalRgn, Option.map_some, evalOps, step, wants, osem, M.run_bind, M.mapL, M.run, M.ok, M.fresh, M.write, M.look, M.lift, putD, Arb.set, ev, Arb.get, keepFr, bin, intBin, strBin, mk, params, cellsM, load, obRead, fadr, fld, isl, iarr, xarr, idx, len, valid, slc, bound, store, splice, nilc, un, eqs, eq0, evalFeet, footOf, M.foot, orderOk, apartAll, apart1, clash, meets, callM, fcallM, callee, fz1, fzC, fz, flat, flat1, flat0, flatI, Option.bind_some, putAll, M.bind]; rfl) ?_
    exact Wp.ret rfl
  · rename_i hc
    rw [if_neg (by simpa [far, or_assoc] using hc)]
    refine Wp.skip (Wp.seq ?_)
    refine Wp.rgn (K := 0) (fun n _ => by simp [evalRgn, Option.map_some, evalOps, step, wants, osem, M.run_bind, M.mapL, M.run, M.ok, M.fresh, M.write, M.look, M.lift, putD, Arb.set, ev, Arb.get, keepFr, bin, intBin, strBin, mk, params, cellsM, load, obRead, fadr, fld, isl, iarr, xarr, idx, len, valid, slc, bound, store, splice, nilc, un, eqs, eq0, evalFeet, footOf, M.foot, orderOk, apartAll, apart1, clash, meets, callM, fcallM, callee, fz1, fzC, fz, flat, flat1, flat0, flatI, Option.bind_some, putAll, M.bind]; rfl) ?_
    exact Wp.ret rfl

/-! ### gap.Add, set.Small, box.With .. -/
end
end Arb

/-
  COMPARING; DISTANCES.
-/
set_option linter.unusedSimpArgs false
namespace Arb
open Go

section
variable {prog : Nat → Option IFn}

def cmpI (a b : Int) : Int := if a < b then -1 else if b < a then 1 else 0

theorem p_isNaN (h : prog 63 = some F63) (a : Int) : Ans prog 63 [.iv (.int .i64 a)] (.iv (.bool false)) := by
  refine Ans.of h rfl rfl (Wp.seq ?_)
  refine Wp.rgn (K := 0) (fun n _ => by simp [evalRgn, Option.map_some, evalOps, step, wants, osem, M.run_bind, M.mapL, M.run, M.ok, M.fresh, M.write, M.look, M.lift, putD, Arb.set, ev, Arb.get, keepFr, bin, intBin, strBin, mk, params, cellsM, load, obRead, fadr, fld, isl, iarr, xarr, idx, len, valid, slc, bound, store, splice, nilc, un, eqs, eq0, evalFeet, footOf, M.foot, orderOk, apartAll, apart1, clash, meets, callM, fcallM, callee, fz1, fzC, fz, flat, flat1, flat0, flatI, Option.bind_some, putAll, M.bind]; rfl) ?_
  refine Wp.seq ?_
  refine Wp.rgn (K := 0) (s' := ⟨[(2, .iv (.bool false))], [], 1320⟩) (fun n _ => by simp [evalRgn, Option.map_some, evalOps, step, wants, osem, M.run_bind, M.mapL, M.run, M.ok, M.fresh, M.write, M.look, M.lift, putD, Arb.set, ev, Arb.get, keepFr, bin, intBin, strBin, mk, params, cellsM, load, obRead, fadr, fld, isl, iarr, xarr, idx, len, valid, slc, bound, store, splice, nilc, un, eqs, eq0, evalFeet, footOf, M.foot, orderOk, apartAll, apart1, clash, meets, callM, fcallM, callee, fz1, fzC, fz, flat, flat1, flat0, flatI, Option.bind_some, putAll, M.bind]) ?_
  exact Wp.ret rfl

theorem p_cmp (h63 : prog 63 = some F63) (h : prog 52 = some F52) (a b : Int) : Ans prog 52 [.iv (.int .i64 a), .iv (.int .i64 b)] (.iv (.int .i64 (cmpI a b))) := by
  obtain ⟨K1, h1⟩ := p_isNaN h63 a
  obtain ⟨K2, h2⟩ := p_isNaN h63 b
  refine Ans.of h rfl rfl (Wp.seq ?_)
  refine Wp.rgn (K := 0) (fun n _ => by simp [evalRgn, Option.map_some, evalOps, step, wants, osem, M.run_bind, M.mapL, M.run, M.ok, M.fresh, M.write, M.look, M.lift, putD, Arb.set, ev, Arb.get, keepFr, bin, intBin, strBin, mk, params, cellsM, load, obRead, fadr, fld, isl, iarr, xarr, idx, len, valid, slc, bound, store, splice, nilc, un, eqs, eq0, evalFeet, footOf, M.foot, orderOk, apartAll, apart1, clash, meets, callM, fcallM, callee, fz1, fzC, fz, flat, flat1, flat0, flatI, Option.bind_some, putAll, M.bind]; rfl) ?_
  refine Wp.seq ?_
  refine Wp.rgn (K := K1) (fun n hn => by simp [evalRgn, Option.map_some, evalOps, step, wants, osem, M.run_bind, M.mapL, M.run, M.ok, M.fresh, M.write, M.look, M.lift, putD, Arb.set, ev, Arb.get, keepFr, bin, intBin, strBin, mk, params, cellsM, load, obRead, fadr, fld, isl, iarr, xarr, idx, len, valid, slc, bound, store, splice, nilc, un, eqs, eq0, evalFeet, footOf, M.foot, orderOk, apartAll, apart1, clash, meets, callM, fcallM, callee, fz1, fzC, fz, flat, flat1, flat0, flatI, Option.bind_some, putAll, M.bind, h1 n hn]; rfl) ?_
  refine Wp.seq ?_
  refine Wp.rgn (K := K2) (fun n hn => by simp [evalRgn, Option.map_some, evalOps, step, wants, osem, M.run_bind, M.mapL, M.run, M.ok, M.fresh, M.write, M.look, M.lift, putD, Arb.set, ev, Arb.get, keepFr, bin, intBin, strBin, mk, params, cellsM, load, obRead, fadr, fld, isl, iarr, xarr, idx, len, valid, slc, bound, store, splice, nilc, un, eqs, eq0, evalFeet, footOf, M.foot, orderOk, apartAll, apart1, clash, meets, callM, fcallM, callee, fz1, fzC, fz, flat, flat1, flat0, flatI, Option.bind_some, putAll, M.bind, h2 n hn]; rfl) ?_
  refine Wp.seq (Wp.seq ?_)
  refine Wp.rgn (K := 0) (fun n _ => by simp [evalRgn, Option.map_some, evalOps, step, wants, osem, M.run_bind, M.mapL, M.run, M.ok, M.fresh, M.write, M.look, M.lift, putD, Arb.set, ev, Arb.get, keepFr, bin, intBin, strBin, mk, params, cellsM, load, obRead, fadr, fld, isl, iarr, xarr, idx, len, valid, slc, bound, store, splice, nilc, un, eqs, eq0, evalFeet, footOf, M.foot, orderOk, apartAll, apart1, clash, meets, callM, fcallM, callee, fz1, fzC, fz, flat, flat1, flat0, flatI, Option.bind_some, putAll, M.bind]; rfl) ?_
  refine Wp.cond rfl (Wp.skip (Wp.seq (Wp.seq ?_)))
  refine Wp.rgn (K := 0) (fun n _ => by simp [evalRgn, Option.map_some, evalOps, step, wants, osem, M.run_bind, M.mapL, M.run, M.ok, M.fresh, M.write, M.look, M.lift, putD, Arb.set, ev, Arb.get, keepFr, bin, intBin, strBin, mk, params, cellsM, load, obRead, fadr, fld, isl, iarr, xarr, idx, len, valid, slc, bound, store, splice, nilc, un, eqs, eq0, evalFeet, footOf, M.foot, orderOk, apartAll, apart1, clash, meets, callM, fcallM, callee, fz1, fzC, fz, flat, flat1, flat0, flatI, Option.bind_some, putAll, M.bind]; rfl) ?_
  refine Wp.cond rfl (Wp.skip (Wp.seq (Wp.seq ?_)))
  refine Wp.rgn (K := 0) (fun n _ => by simp [evalRgn, Option.map_some, evalOps, step, wants, osem, M.run_bind, M.mapL, M.run, M.ok, M.fresh, M.write, M.look, M.lift, putD, Arb.set, ev, Arb.get, keepFr, bin, intBin, strBin, mk, params, cellsM, load, obRead, fadr, fld, isl, iarr, xarr, idx, len, valid, slc, bound, store, splice, nilc, un, eqs, eq0, evalFeet, footOf, M.foot, orderOk, apartAll, apart1, clash, meets, callM, fcallM, callee, fz1, fzC, fz, flat, flat1, flat0, flatI, Option.bind_some, putAll, M.bind]; rfl) ?_
  refine Wp.cond rfl ?_
  unfold cmpI
  cases h3 : decide (a < b) with
  | true =>
    refine Wp.seq ?_
    refine Wp.rgn (K := 0) (fun n _ => by simp [evalRgn, Option.map_some, evalOps, step, wants, osem, M.run_bind, M.mapL, M.run, M.ok, M.fresh, M.write, M.look, M.lift, putD, Arb.set, ev, Arb.get, keepFr, bin, intBin, strBin, mk, params, cellsM, load, obRead, fadr, fld, isl, iarr, xarr, idx, len, valid, slc, bound, store, splice, nilc, un, eqs, eq0, evalFeet, footOf, M.foot, orderOk, apartAll, apart1, clash, meets, callM, fcallM, callee, fz1, fzC, fz, flat, flat1, flat0, flatI, Option.bind_some, putAll, M.bind]; rfl) ?_
    refine Wp.ret ?_
    rw [if_pos (of_decide_eq_true h3)]; rfl
  | false =>
    refine Wp.skip (Wp.seq (Wp.seq ?_))
    refine Wp.rgn (K := 0) (fun n _ => by simp [evalRgn, Option.map_some, evalOps, step, wants, osem, M.run_bind, M.mapL, M.run, M.ok, M.fresh, M.write, M.look, M.lift, putD, Arb.set, ev, Arb.get, keepFr, bin, intBin, strBin, mk, params, cellsM, load, obRead, fadr, fld, isl, iarr, xarr, idx, len, valid, slc, bound, store, splice, nilc, un, eqs, eq0, evalFeet, footOf, M.foot, orderOk, apartAll, apart1, clash, meets, callM, fcallM, callee, fz1, fzC, fz, flat, flat1, flat0, flatI, Option.bind_some, putAll, M.bind]; rfl) ?_
    refine Wp.cond rfl ?_
    rw [if_neg (of_decide_eq_false h3)]
    cases h4 : decide (b < a) with
    | true =>
      refine Wp.seq ?_
      refine Wp.rgn (K := 0) (fun n _ => by simp [evalRgn, Option.map_some, evalOps, step, wants, osem, M.run_bind, M.mapL, M.run, M.ok, M.fresh, M.write, M.look, M.lift, putD, Arb.set, ev, Arb.get, keepFr, bin, intBin, strBin, mk, params, cellsM, load, obRead, fadr, fld, isl, iarr, xarr, idx, len, valid, slc, bound, store, splice, nilc, un, eqs, eq0, evalFeet, footOf, M.foot, orderOk, apartAll, apart1, clash, meets, callM, fcallM, callee, fz1, fzC, fz, flat, flat1, flat0, flatI, Option.bind_some, putAll, M.bind]; rfl) ?_
      refine Wp.ret ?_
      rw [if_pos (of_decide_eq_true h4)]; rfl
    | false =>
      refine Wp.skip (Wp.seq ?_)
      refine Wp.rgn (K := 0) (fun n _ => by simp [evalRgn, Option.map_some, evalOps, step, wants, osem, M.run_bind, M.mapL, M.run, M.ok, M.fresh, M.write, M.look, M.lift, putD, Arb.set, ev, Arb.get, keepFr, bin, intBin, strBin, mk, params, cellsM, load, obRead, fadr, fld, isl, iarr, xarr, idx, len, valid, slc, bound, store, splice, nilc, un, eqs, eq0, evalFeet, footOf, M.foot, orderOk, apartAll, apart1, clash, meets, callM, fcallM, callee, fz1, fzC, fz, flat, flat1, flat0, flatI, Option.bind_some, putAll, M.bind]; rfl) ?_
      refine Wp.ret ?_
      rw [if_neg (of_decide_eq_false h4)]; rfl

theorem p_less (h63 : prog 63 = some F63) (h52 : prog 52 = some F52) (h : prog 51 = some F51) (p q : Int × Int) :
    Ans prog 51 [.agg [.iv (.int .i64 p.1), .iv (.int .i64 p.2)], .agg [.iv (.int .i64 q.1), .iv (.int .i64 q.2)]] (.iv (.int .i64 (cmpI p.1 q.1))) := by
  obtain ⟨K1, h1⟩ := p_cmp h63 h52 p.1 q.1
  refine Ans.of h rfl rfl (Wp.seq ?_)
  refine Wp.rgn (K := 0) (fun n _ => by simp [evalRgn, Option.map_some, evalOps, step, wants, osem, M.run_bind, M.mapL, M.run, M.ok, M.fresh, M.write, M.look, M.lift, putD, Arb.set, ev, Arb.get, keepFr, bin, intBin, strBin, mk, params, cellsM, load, obRead, fadr, fld, isl, iarr, xarr, idx, len, valid, slc, bound, store, splice, nilc, un, eqs, eq0, evalFeet, footOf, M.foot, orderOk, apartAll, apart1, clash, meets, callM, fcallM, callee, fz1, fzC, fz, flat, flat1, flat0, flatI, Option.bind_some, putAll, M.bind]; rfl) ?_
  refine Wp.seq ?_
  refine Wp.rgn (K := K1) (fun n hn => by simp [evalRgn, Option.map_some, evalOps, step, wants, osem, M.run_bind, M.mapL, M.run, M.ok, M.fresh, M.write, M.look, M.lift, putD, Arb.set, ev, Arb.get, keepFr, bin, intBin, strBin, mk, params, cellsM, load, obRead, fadr, fld, isl, iarr, xarr, idx, len, valid, slc, bound, store, splice, nilc, un, eqs, eq0, evalFeet, footOf, M.foot, orderOk, apartAll, apart1, clash, meets, callM, fcallM, callee, fz1, fzC, fz, flat, flat1, flat0, flatI, Option.bind_some, putAll, M.bind, h1 n hn]; rfl) ?_
  exact Wp.ret rfl

def addG (a b : Int) : Int := if IntKind.wrap .u64 (far - b) < a then far else IntKind.wrap .u64 (a + b)
theorem p_addG (h : prog 36 = some F36) (a b : Int) : Ans prog 36 [.iv (.int .u64 a), .iv (.int .u64 b)] (.iv (.int .u64 (addG a b))) := by
  refine Ans.of h rfl rfl (Wp.seq ?_)
  refine Wp.rgn (K := 0) (fun n _ => by simp [evalRgn, Option.map_some, evalOps, step, wants, osem, M.run_bind, M.mapL, M.run, M.ok, M.fresh, M.write, M.look, M.lift, putD, Arb.set, ev, Arb.get, keepFr, bin, intBin, strBin, mk, params, cellsM, load, obRead, fadr, fld, isl, iarr, xarr, idx, len, valid, slc, bound, store, splice, nilc, un, eqs, eq0, evalFeet, footOf, M.foot, orderOk, apartAll, apart1, clash, meets, callM, fcallM, callee, fz1, fzC, fz, flat, flat1, flat0, flatI, Option.bind_some, putAll, M.bind]; rfl) ?_
  refine Wp.seq (Wp.seq ?_)
  refine Wp.rgn (K := 0) (s' := ⟨[(0, .iv (.int .u64 a)), (1, .iv (.int .u64 b)), (8, .iv (.bool (decide (IntKind.wrap .u64 (far - b) < a))))], [], 1320⟩) (fun n _ => by simp [evalRgn, Option.map_some, evalOps, step, wants, osem, M.run_bind, M.mapL, M.run, M.ok, M.fresh, M.write, M.look, M.lift, putD, Arb.set, ev, Arb.get, keepFr, bin, intBin, strBin, mk, params, cellsM, load, obRead, fadr, fld, isl, iarr, xarr, idx, len, valid, slc, bound, store, splice, nilc, un, eqs, eq0, evalFeet, footOf, M.foot, orderOk, apartAll, apart1, clash, meets, callM, fcallM, callee, fz1, fzC, fz, flat, flat1, flat0, flatI, Option.bind_some, putAll, M.bind, far]; exact decide_eq_decide.2 Iff.rfl) ?_
  refine Wp.cond rfl ?_
  unfold addG
  cases h3 : decide (IntKind.wrap .u64 (far - b) < a) with
  | true =>
    refine Wp.seq ?_
    refine Wp.rgn (K := 0) (fun n _ => by simp [evalRgn, Option.map_some, evalOps, step, wants, osem, M.run_bind, M.mapL, M.run, M.ok, M.fresh, M.write, M.look, M.lift, putD, Arb.set, ev, Arb.get, keepFr, bin, intBin, strBin, mk, params, cellsM, load, obRead, fadr, fld, isl, iarr, xarr, idx, len, valid, slc, bound, store, splice, nilc, un, eqs, eq0, evalFeet, footOf, M.foot, orderOk, apartAll, apart1, clash, meets, callM, fcallM, callee, fz1, fzC, fz, flat, flat1, flat0, flatI, Option.bind_some, putAll, M.bind]; rfl) ?_
    refine Wp.ret ?_
    rw [if_pos (of_decide_eq_true h3)]; rfl
  | false =>
    refine Wp.skip (Wp.seq ?_)
    refine Wp.rgn (K := 0) (fun n _ => by simp [evalRgn, Option.map_some, evalOps, step, wants, osem, M.run_bind, M.mapL, M.run, M.ok, M.fresh, M.write, M.look, M.lift, putD, Arb.set, ev, Arb.get, keepFr, bin, intBin, strBin, mk, params, cellsM, load, obRead, fadr, fld, isl, iarr, xarr, idx, len, valid, slc, bound, store, splice, nilc, un, eqs, eq0, evalFeet, footOf, M.foot, orderOk, apartAll, apart1, clash, meets, callM, fcallM, callee, fz1, fzC, fz, flat, flat1, flat0, flatI, Option.bind_some, putAll, M.bind]; rfl) ?_
    refine Wp.ret ?_
    rw [if_neg (of_decide_eq_false h3)]; rfl

def between (p q : Int × Int) : Int × Bool :=
  if decide (p.2 < p.1) || (decide (q.2 < q.1) || decide (q.1 ≤ p.2)) then (0, false)
  else (IntKind.wrap .u64 ((IntKind.wrap .u64 (IntKind.wrap .u64 q.1 - IntKind.wrap .u64 p.2)).tdiv 2), true)

theorem p_between (h : prog 18 = some F18) (p q : Int × Int) :
    Ans prog 18 [.agg [.iv (.int .i64 p.1), .iv (.int .i64 p.2)], .agg [.iv (.int .i64 q.1), .iv (.int .i64 q.2)]] (.tup [.iv (.int .u64 (between p q).1), .iv (.bool (between p q).2)]) := by
  refine Ans.of h rfl rfl (Wp.seq ?_)
  refine Wp.rgn (K := 0) (fun n _ => by simp [evalRgn, Option.map_some, evalOps, step, wants, osem, M.run_bind, M.mapL, M.run, M.ok, M.fresh, M.write, M.look, M.lift, putD, Arb.set, ev, Arb.get, keepFr, bin, intBin, strBin, mk, params, cellsM, load, obRead, fadr, fld, isl, iarr, xarr, idx, len, valid, slc, bound, store, splice, nilc, un, eqs, eq0, evalFeet, footOf, M.foot, orderOk, apartAll, apart1, clash, meets, callM, fcallM, callee, fz1, fzC, fz, flat, flat1, flat0, flatI, Option.bind_some, putAll, M.bind]; rfl) ?_
  refine Wp.seq (Wp.seq ?_)
  refine Wp.rgn (K := 0) (s' := ⟨[(2, .ref 1000 0 0 0), (3, .ref 1064 0 0 0), (24, .iv (.bool (decide (p.2 < p.1) || (decide (q.2 < q.1) || decide (q.1 ≤ p.2)))))], [(1000, .cells [.iv (.int .i64 p.1), .iv (.int .i64 p.2)]), (1064, .cells [.iv (.int .i64 q.1), .iv (.int .i64 q.2)])], 2472⟩) (fun n _ => by
    cases h1 : decide (p.2 < p.1) with
    | true => simp [evalRgn, Option.map_some, evalOps, step, wants, osem, M.run_bind, M.mapL, M.run, M.ok, M.fresh, M.write, M.look, M.lift, putD, Arb.set, ev, Arb.get, keepFr, bin, intBin, strBin, mk, params, cellsM, load, obRead, fadr, fld, isl, iarr, xarr, idx, len, valid, slc, bound, store, splice, nilc, un, eqs, eq0, evalFeet, footOf, M.foot, orderOk, apartAll, apart1, clash, meets, callM, fcallM, callee, fz1, fzC, fz, flat, flat1, flat0, flatI, Option.bind_some, putAll, M.bind, h1]
    | false => cases h2 : decide (q.2 < q.1) <;> simp [evalRgn, Option.map_some, evalOps, step, wants, osem, M.run_bind, M.mapL, M.run, M.ok, M.fresh, M.write, M.look, M.lift, putD, Arb.set, ev, Arb.get, keepFr, bin, intBin, strBin, mk, params, cellsM, load, obRead, fadr, fld, isl, iarr, xarr, idx, len, valid, slc, bound, store, splice, nilc, un, eqs, eq0, evalFeet, footOf, M.foot, orderOk, apartAll, apart1, clash, meets, callM, fcallM, callee, fz1, fzC, fz, flat, flat1, flat0, flatI, Option.bind_some, putAll, M.bind, h1, h2]) ?_
  refine Wp.cond rfl ?_
  unfold between
  cases h3 : decide (p.2 < p.1) || (decide (q.2 < q.1) || decide (q.1 ≤ p.2)) with
  | true =>
    refine Wp.seq ?_
    refine Wp.rgn (K := 0) (fun n _ => by simp [evalRgn, Option.map_some, evalOps, step, wants, osem, M.run_bind, M.mapL, M.run, M.ok, M.fresh, M.write, M.look, M.lift, putD, Arb.set, ev, Arb.get, keepFr, bin, intBin, strBin, mk, params, cellsM, load, obRead, fadr, fld, isl, iarr, xarr, idx, len, valid, slc, bound, store, splice, nilc, un, eqs, eq0, evalFeet, footOf, M.foot, orderOk, apartAll, apart1, clash, meets, callM, fcallM, callee, fz1, fzC, fz, flat, flat1, flat0, flatI, Option.bind_some, putAll, M.bind]; rfl) ?_
    exact Wp.ret rfl
  | false =>
    refine Wp.skip (Wp.seq ?_)
    refine Wp.rgn (K := 0) (fun n _ => by simp [evalRgn, Option.map_some, evalOps, step, wants, osem, M.run_bind, M.mapL, M.run, M.ok, M.fresh, M.write, M.look, M.lift, putD, Arb.set, ev, Arb.get, keepFr, bin, intBin, strBin, mk, params, cellsM, load, obRead, fadr, fld, isl, iarr, xarr, idx, len, valid, slc, bound, store, splice, nilc, un, eqs, eq0, evalFeet, footOf, M.foot, orderOk, apartAll, apart1, clash, meets, callM, fcallM, callee, fz1, fzC, fz, flat, flat1, flat0, flatI, Option.bind_some, putAll, M.bind]; rfl) ?_
    exact Wp.ret rfl
end
end Arb

/-
  A BOX WITH ANOTHER SET.
-/
set_option linter.unusedSimpArgs false
namespace Arb
open Go

def B.put (b : B) (i : Nat) (x : S) : B :=
  match i with
  | 0 => ⟨x, b.s1, b.s2, b.s3⟩
  | 1 => ⟨b.s0, x, b.s2, b.s3⟩
  | 2 => ⟨b.s0, b.s1, x, b.s3⟩
  | _ => ⟨b.s0, b.s1, b.s2, x⟩
theorem B.put_cs (b : B) {i : Nat} (h : i < 4) (x : S) : splice b.cs (i * 4) [.iv (.bool x.a), .iv (.sl 2 (x.i.map rng)), .iv (.bool x.c), .iv (.sl 1 (x.s.map st1))] = (b.put i x).cs := by
  match i, h with
  | 0, _ => rfl
  | 1, _ => rfl
  | 2, _ => rfl
  | 3, _ => rfl
theorem B.put_all (c : B) (l : List AV) (h : l.length = 16) : splice l 0 c.cs = c.cs := by
  unfold splice
  simp only [List.take_zero, List.nil_append, B.cs_len, Nat.zero_add]
  rw [List.drop_of_length_le (by omega), List.append_nil]

section
variable {prog : Nat → Option IFn}

set_option maxHeartbeats 1000000 in
theorem p_with (h : prog 19 = some F19) (b : B) (x : S) {i : Nat} (hi : i < 4) : Ans prog 19 [b.av, .iv (.int .i64 i), x.av] (b.put i x).av := by
  have hi' : (i : Int) < 4 := by omega
  have hm : i * 4 + 4 ≤ 16 := by omega
  refine Ans.of h rfl rfl (Wp.seq ?_)
  refine Wp.rgn (K := 0) (fun n _ => by simp [evalRgn, Option.map_some, evalOps, step, wants, osem, M.run_bind, M.mapL, M.run, M.ok, M.fresh, M.write, M.look, M.lift, putD, Arb.set, ev, Arb.get, keepFr, bin, intBin, strBin, mk, params, cellsM, load, obRead, fadr, fld, isl, iarr, xarr, idx, len, valid, slc, bound, store, splice, nilc, un, eqs, eq0, evalFeet, footOf, M.foot, orderOk, apartAll, apart1, clash, meets, callM, fcallM, callee, fz1, flat, flat1, flat0, flatI, Option.bind_some, putAll, M.bind, B.av, B.cs_nilc, S.av]; rfl) ?_
  refine Wp.seq (Wp.seq ?_)
  refine Wp.rgn (K := 0) (fun n _ => by simp [evalRgn, Option.map_some, evalOps, step, wants, osem, M.run_bind, M.mapL, M.run, M.ok, M.fresh, M.write, M.look, M.lift, putD, Arb.set, ev, Arb.get, keepFr, bin, intBin, strBin, mk, params, cellsM, load, obRead, fadr, fld, isl, iarr, xarr, idx, len, valid, slc, bound, store, splice, nilc, un, eqs, eq0, evalFeet, footOf, M.foot, orderOk, apartAll, apart1, clash, meets, callM, fcallM, callee, fz1, fzC, fz, flat, flat1, flat0, flatI, Option.bind_some, putAll, M.bind, hi']; rfl) ?_
  refine Wp.cond rfl ?_
  refine Wp.rgn (K := 0) (fun n _ => by
    simp only [evalRgn, evalOps, step, wants, osem, M.run_bind, M.run, M.ok, M.look, M.write, M.lift, putD, Arb.set, ev, Arb.get, keepFr, load, obRead, mk, iarr, idx, valid, store, cellsM]
    simp [Arb.get, Arb.set, M.run, M.ok, M.look, M.write, M.lift, M.run_bind, M.bind, hi', nilc, B.cs_len, hm, B.put_cs b hi x, keepFr, mk]
    rfl) ?_
  simp only [Ex.then]
  refine Wp.seq ?_
  refine Wp.rgn (K := 0) (fun n _ => by
    simp [evalRgn, Option.map_some, evalOps, step, wants, osem, M.run_bind, M.mapL, M.run, M.ok, M.fresh, M.write, M.look, M.lift, putD, Arb.set, ev, Arb.get, keepFr, bin, intBin, strBin, mk, params, cellsM, load, obRead, fadr, fld, isl, iarr, xarr, idx, len, valid, slc, bound, store, nilc, un, eqs, eq0, evalFeet, footOf, M.foot, orderOk, apartAll, apart1, clash, meets, callM, fcallM, callee, fz1, flat, flat1, flat0, flatI, Option.bind_some, putAll, M.bind, B.cs_16, B.cs_len, B.cs_nilc, B.put_all]
    rfl) ?_
  refine Wp.ret ?_
  simp [FinS, F19, resAll, resM, outA, load, obRead, mk, ev, get, M.look, M.bind, M.run, M.run_bind, M.ok, M.lift, shut, fzA, fz1, B.cs_16, B.cs_len, B.cs_fzC, B.av]
end
end Arb

/-
  THE DOCUMENT's 'SAME', OF SETS.
-/
set_option linter.unusedSimpArgs false
namespace Arb
open Go

section
variable {prog : Nat → Option IFn}

theorem sameS_false {x y : S} (h : x.a ≠ y.a ∨ x.c ≠ y.c ∨ x.i ≠ y.i ∨ x.s ≠ y.s) : sameS x y = false := by
  simp only [sameS, Bool.and_eq_false_iff, beq_eq_false_iff_ne, decide_eq_false_iff_not]
  exact h
theorem get_ne {α : Type} {a b : List α} {i : Nat} {x y : α} (hx : a[i]? = some x) (hy : b[i]? = some y) (h : x ≠ y) : a ≠ b := by
  intro e
  rw [e, hy] at hx
  cases hx
  exact h rfl

set_option maxHeartbeats 2000000 in
theorem p_same3 (h : prog 41 = some F41) (x y : S) (hi : x.i.length ≤ maxLen) (hs : x.s.length ≤ maxLen) : Ans prog 41 [x.av, y.av] (.iv (.bool (sameS x y))) := by
  refine Ans.of h rfl rfl (Wp.seq ?_)
  refine Wp.rgn (K := 0) (s' := ⟨[(2, .ref 1000 0 0 0), (3, .ref 1064 0 0 0)], [(1000, .cells x.cs), (1064, .cells y.cs)], 1192⟩) (fun n _ => by simp [evalRgn, Option.map_some, evalOps, step, wants, osem, M.run_bind, M.mapL, M.run, M.ok, M.fresh, M.write, M.look, M.lift, putD, Arb.set, ev, Arb.get, keepFr, bin, intBin, strBin, mk, params, cellsM, load, obRead, fadr, fld, isl, iarr, xarr, idx, len, valid, slc, bound, store, splice, nilc, un, eqs, eq0, evalFeet, footOf, M.foot, orderOk, apartAll, apart1, clash, meets, callM, fcallM, callee, fz1, fzC, fz, flat, flat1, flat0, flatI, Option.bind_some, putAll, M.bind, S.av, S.cs, S.enc]) ?_
  refine Wp.seq (Wp.seq ?_)
  refine Wp.rgn (K := 0) (s' := ⟨[(2, .ref 1000 0 0 0), (3, .ref 1064 0 0 0), (36, .iv (.bool (x.a != y.a || (x.c != y.c || (x.i.length != y.i.length || x.s.length != y.s.length)))))], [(1000, .cells x.cs), (1064, .cells y.cs)], 3112⟩) (fun n _ => rgn_quiet' rfl (by
    have e1 : ((x.i.length : Int) != y.i.length) = (x.i.length != y.i.length) := by rw [Bool.eq_iff_iff]; simp; omega
    have e2 : ((x.s.length : Int) != y.s.length) = (x.s.length != y.s.length) := by rw [Bool.eq_iff_iff]; simp; omega
    have n1 : (!(x.a == y.a)) = (x.a != y.a) := rfl
    have n2 : (!(x.c == y.c)) = (x.c != y.c) := rfl
    cases h1 : x.a != y.a with
    | true => simp [evalRgn, Option.map_some, evalOps, step, wants, osem, M.run_bind, M.mapL, M.run, M.ok, M.fresh, M.write, M.look, M.lift, putD, Arb.set, ev, Arb.get, keepFr, bin, intBin, strBin, mk, params, cellsM, load, obRead, fadr, fld, isl, iarr, xarr, idx, len, valid, slc, bound, store, splice, nilc, un, eqs, eq0, evalFeet, footOf, M.foot, orderOk, apartAll, apart1, clash, meets, callM, fcallM, callee, fz1, fzC, fz, flat, flat1, flat0, flatI, Option.bind_some, putAll, M.bind, S.cs, S.enc, n1, h1]
    | false =>
      cases h2 : x.c != y.c with
      | true => simp [evalRgn, Option.map_some, evalOps, step, wants, osem, M.run_bind, M.mapL, M.run, M.ok, M.fresh, M.write, M.look, M.lift, putD, Arb.set, ev, Arb.get, keepFr, bin, intBin, strBin, mk, params, cellsM, load, obRead, fadr, fld, isl, iarr, xarr, idx, len, valid, slc, bound, store, splice, nilc, un, eqs, eq0, evalFeet, footOf, M.foot, orderOk, apartAll, apart1, clash, meets, callM, fcallM, callee, fz1, fzC, fz, flat, flat1, flat0, flatI, Option.bind_some, putAll, M.bind, S.cs, S.enc, n1, n2, h1, h2]
      | false => cases h3 : x.i.length != y.i.length <;> simp [evalRgn, Option.map_some, evalOps, step, wants, osem, M.run_bind, M.mapL, M.run, M.ok, M.fresh, M.write, M.look, M.lift, putD, Arb.set, ev, Arb.get, keepFr, bin, intBin, strBin, mk, params, cellsM, load, obRead, fadr, fld, isl, iarr, xarr, idx, len, valid, slc, bound, store, splice, nilc, un, eqs, eq0, evalFeet, footOf, M.foot, orderOk, apartAll, apart1, clash, meets, callM, fcallM, callee, fz1, fzC, fz, flat, flat1, flat0, flatI, Option.bind_some, putAll, M.bind, S.cs, S.enc, n1, n2, h1, h2, h3, e1, e2])) ?_
  refine Wp.cond rfl ?_
  cases hne : x.a != y.a || (x.c != y.c || (x.i.length != y.i.length || x.s.length != y.s.length)) with
  | true =>
    refine Wp.seq ?_
    refine Wp.rgn (K := 0) (fun n _ => by simp [evalRgn, Option.map_some, evalOps, step, wants, osem, M.run_bind, M.mapL, M.run, M.ok, M.fresh, M.write, M.look, M.lift, putD, Arb.set, ev, Arb.get, keepFr, bin, intBin, strBin, mk, params, cellsM, load, obRead, fadr, fld, isl, iarr, xarr, idx, len, valid, slc, bound, store, splice, nilc, un, eqs, eq0, evalFeet, footOf, M.foot, orderOk, apartAll, apart1, clash, meets, callM, fcallM, callee, fz1, fzC, fz, flat, flat1, flat0, flatI, Option.bind_some, putAll, M.bind]; rfl) ?_
    refine Wp.ret ?_
    have : sameS x y = false := by
      apply sameS_false
      simp only [Bool.or_eq_true, bne_iff_ne] at hne
      rcases hne with h | h | h | h
      · exact .inl h
      · exact .inr (.inl h)
      · exact .inr (.inr (.inl fun e => h (by rw [e])))
      · exact .inr (.inr (.inr fun e => h (by rw [e])))
    rw [this]; rfl
  | false =>
    simp only [Bool.or_eq_false_iff, bne_eq_false_iff_eq] at hne
    obtain ⟨ha, hc, hli, hls⟩ := hne
    refine Wp.skip (Wp.seq (Wp.seq ?_))
    refine Wp.rgn (K := 0) (fun n _ => by simp [evalRgn, Option.map_some, evalOps, step, wants, osem, M.run_bind, M.mapL, M.run, M.ok, M.fresh, M.write, M.look, M.lift, putD, Arb.set, ev, Arb.get, keepFr, bin, intBin, strBin, mk, params, cellsM, load, obRead, fadr, fld, isl, iarr, xarr, idx, len, valid, slc, bound, store, splice, nilc, un, eqs, eq0, evalFeet, footOf, M.foot, orderOk, apartAll, apart1, clash, meets, callM, fcallM, callee, fz1, fzC, fz, flat, flat1, flat0, flatI, Option.bind_some, putAll, M.bind]; rfl) ?_
    refine Wp.block ?_
    refine Wp.range x.i.length (fun i => ⟨[(2, .ref 1000 0 0 0), (3, .ref 1064 0 0 0), (5, .iv (.int .i64 i))], [(1000, .cells x.cs), (1064, .cells y.cs)], 3176⟩) (fun i => x.i.take i = y.i.take i) rfl (by simp) ?_ ?_
    · intro i hil hg
      obtain ⟨r, hr⟩ : ∃ r, x.i[i]? = some r := ⟨_, List.getElem?_eq_getElem hil⟩
      obtain ⟨q, hq⟩ : ∃ q, y.i[i]? = some q := ⟨_, List.getElem?_eq_getElem (by omega)⟩
      refine Wp.seq (Wp.seq ?_)
      refine Wp.rgn (K := 0) (s' := ⟨[(2, .ref 1000 0 0 0), (3, .ref 1064 0 0 0), (5, .iv (.int .i64 i)), (41, .iv (.bool true))], [(1000, .cells x.cs), (1064, .cells y.cs)], 3496⟩) (fun n _ => by simp [evalRgn, Option.map_some, evalOps, step, wants, osem, M.run_bind, M.mapL, M.run, M.ok, M.fresh, M.write, M.look, M.lift, putD, Arb.set, ev, Arb.get, keepFr, bin, intBin, strBin, mk, params, cellsM, load, obRead, fadr, fld, isl, iarr, xarr, idx, len, valid, slc, bound, store, splice, nilc, un, eqs, eq0, evalFeet, footOf, M.foot, orderOk, apartAll, apart1, clash, meets, callM, fcallM, callee, fz1, fzC, fz, flat, flat1, flat0, flatI, Option.bind_some, putAll, M.bind, S.cs, S.enc, hil]) ?_
      refine Wp.cond rfl (Wp.skip (Wp.seq (Wp.block (Wp.seq ?_))))
      refine Wp.rgn (K := 0) (s' := ⟨[(2, .ref 1000 0 0 0), (3, .ref 1064 0 0 0), (5, .iv (.int .i64 i)), (54, .iv (.bool (!(r.1 == q.1 && r.2 == q.2))))], [(1000, .cells x.cs), (1064, .cells y.cs)], 4200⟩) (fun n _ => rgn_quiet' rfl (by
        simp [evalRgn, Option.map_some, evalOps, step, wants, osem, M.run_bind, M.mapL, M.run, M.ok, M.fresh, M.write, M.look, M.lift, putD, Arb.set, ev, Arb.get, keepFr, bin, intBin, strBin, mk, params, cellsM, load, obRead, fadr, fld, isl, iarr, xarr, idx, len, valid, slc, bound, store, splice, nilc, un, eqs, eq0, evalFeet, footOf, M.foot, orderOk, apartAll, apart1, clash, meets, callM, fcallM, callee, fz1, fzC, fz, flat, flat1, flat0, flatI, Option.bind_some, putAll, M.bind, S.cs, S.enc, hr, hq, rng])) ?_
      refine Wp.cond rfl ?_
      cases hb : (r.1 == q.1 && r.2 == q.2) with
      | true =>
        refine Wp.skip ?_
        refine Wp.rgn (K := 0) (fun n _ => by simp [evalRgn, Option.map_some, evalOps, step, wants, osem, M.run_bind, M.mapL, M.run, M.ok, M.fresh, M.write, M.look, M.lift, putD, Arb.set, ev, Arb.get, keepFr, bin, intBin, strBin, mk, params, cellsM, load, obRead, fadr, fld, isl, iarr, xarr, idx, len, valid, slc, bound, store, splice, nilc, un, eqs, eq0, evalFeet, footOf, M.foot, orderOk, apartAll, apart1, clash, meets, callM, fcallM, callee, fz1, fzC, fz, flat, flat1, flat0, flatI, Option.bind_some, putAll, M.bind]; rfl) ?_
        refine ⟨by simp [again, keepFr, get, nrm_iv, nrm_ref_cells, nrmO, S.cs_nrm, wrap_succ hil hi], take_succ_eq hr hq hg ?_⟩
        simp at hb
        exact Prod.ext hb.1 hb.2
      | false =>
        refine Wp.seq ?_
        refine Wp.rgn (K := 0) (fun n _ => by simp [evalRgn, Option.map_some, evalOps, step, wants, osem, M.run_bind, M.mapL, M.run, M.ok, M.fresh, M.write, M.look, M.lift, putD, Arb.set, ev, Arb.get, keepFr, bin, intBin, strBin, mk, params, cellsM, load, obRead, fadr, fld, isl, iarr, xarr, idx, len, valid, slc, bound, store, splice, nilc, un, eqs, eq0, evalFeet, footOf, M.foot, orderOk, apartAll, apart1, clash, meets, callM, fcallM, callee, fz1, fzC, fz, flat, flat1, flat0, flatI, Option.bind_some, putAll, M.bind]; rfl) ?_
        refine Wp.ret ?_
        have : sameS x y = false := sameS_false (.inr (.inr (.inl (get_ne hr hq fun e => by rw [e] at hb; simp at hb))))
        rw [this]; rfl
    · intro hg
      have hie : x.i = y.i := by rw [List.take_length, hli, List.take_length] at hg; exact hg
      refine Wp.seq (Wp.seq ?_)
      refine Wp.rgn (K := 0) (s' := ⟨[(2, .ref 1000 0 0 0), (3, .ref 1064 0 0 0), (5, .iv (.int .i64 x.i.length)), (41, .iv (.bool false))], [(1000, .cells x.cs), (1064, .cells y.cs)], 3496⟩) (fun n _ => by simp [evalRgn, Option.map_some, evalOps, step, wants, osem, M.run_bind, M.mapL, M.run, M.ok, M.fresh, M.write, M.look, M.lift, putD, Arb.set, ev, Arb.get, keepFr, bin, intBin, strBin, mk, params, cellsM, load, obRead, fadr, fld, isl, iarr, xarr, idx, len, valid, slc, bound, store, splice, nilc, un, eqs, eq0, evalFeet, footOf, M.foot, orderOk, apartAll, apart1, clash, meets, callM, fcallM, callee, fz1, fzC, fz, flat, flat1, flat0, flatI, Option.bind_some, putAll, M.bind, S.cs, S.enc]) ?_
      refine Wp.cond rfl (Wp.exit ?_)
      simp only [Ex.then, Ex.inBlock, if_true]
      refine Wp.seq (Wp.seq ?_)
      refine Wp.rgn (K := 0) (fun n _ => by simp [evalRgn, Option.map_some, evalOps, step, wants, osem, M.run_bind, M.mapL, M.run, M.ok, M.fresh, M.write, M.look, M.lift, putD, Arb.set, ev, Arb.get, keepFr, bin, intBin, strBin, mk, params, cellsM, load, obRead, fadr, fld, isl, iarr, xarr, idx, len, valid, slc, bound, store, splice, nilc, un, eqs, eq0, evalFeet, footOf, M.foot, orderOk, apartAll, apart1, clash, meets, callM, fcallM, callee, fz1, fzC, fz, flat, flat1, flat0, flatI, Option.bind_some, putAll, M.bind]; rfl) ?_
      refine Wp.block ?_
      refine Wp.range x.s.length (fun i => ⟨[(2, .ref 1000 0 0 0), (3, .ref 1064 0 0 0), (6, .iv (.int .i64 i))], [(1000, .cells x.cs), (1064, .cells y.cs)], 3560⟩) (fun i => x.s.take i = y.s.take i) rfl (by simp) ?_ ?_
      · intro i hil hg
        obtain ⟨r, hr⟩ : ∃ r, x.s[i]? = some r := ⟨_, List.getElem?_eq_getElem hil⟩
        obtain ⟨q, hq⟩ : ∃ q, y.s[i]? = some q := ⟨_, List.getElem?_eq_getElem (by omega)⟩
        refine Wp.seq (Wp.seq ?_)
        refine Wp.rgn (K := 0) (s' := ⟨[(2, .ref 1000 0 0 0), (3, .ref 1064 0 0 0), (6, .iv (.int .i64 i)), (59, .iv (.bool true))], [(1000, .cells x.cs), (1064, .cells y.cs)], 3880⟩) (fun n _ => by simp [evalRgn, Option.map_some, evalOps, step, wants, osem, M.run_bind, M.mapL, M.run, M.ok, M.fresh, M.write, M.look, M.lift, putD, Arb.set, ev, Arb.get, keepFr, bin, intBin, strBin, mk, params, cellsM, load, obRead, fadr, fld, isl, iarr, xarr, idx, len, valid, slc, bound, store, splice, nilc, un, eqs, eq0, evalFeet, footOf, M.foot, orderOk, apartAll, apart1, clash, meets, callM, fcallM, callee, fz1, fzC, fz, flat, flat1, flat0, flatI, Option.bind_some, putAll, M.bind, S.cs, S.enc, hil]) ?_
        refine Wp.cond rfl (Wp.skip (Wp.seq (Wp.block (Wp.seq ?_))))
        refine Wp.rgn (K := 0) (s' := ⟨[(2, .ref 1000 0 0 0), (3, .ref 1064 0 0 0), (6, .iv (.int .i64 i)), (72, .iv (.bool (!(r == q))))], [(1000, .cells x.cs), (1064, .cells y.cs)], 4584⟩) (fun n _ => rgn_quiet' rfl (by
          simp [evalRgn, Option.map_some, evalOps, step, wants, osem, M.run_bind, M.mapL, M.run, M.ok, M.fresh, M.write, M.look, M.lift, putD, Arb.set, ev, Arb.get, keepFr, bin, intBin, strBin, mk, params, cellsM, load, obRead, fadr, fld, isl, iarr, xarr, idx, len, valid, slc, bound, store, splice, nilc, un, eqs, eq0, evalFeet, footOf, M.foot, orderOk, apartAll, apart1, clash, meets, callM, fcallM, callee, fz1, fzC, fz, flat, flat1, flat0, flatI, Option.bind_some, putAll, M.bind, S.cs, S.enc, hr, hq, st1])) ?_
        refine Wp.cond rfl ?_
        cases hb : (r == q) with
        | true =>
          refine Wp.skip ?_
          refine Wp.rgn (K := 0) (fun n _ => by simp [evalRgn, Option.map_some, evalOps, step, wants, osem, M.run_bind, M.mapL, M.run, M.ok, M.fresh, M.write, M.look, M.lift, putD, Arb.set, ev, Arb.get, keepFr, bin, intBin, strBin, mk, params, cellsM, load, obRead, fadr, fld, isl, iarr, xarr, idx, len, valid, slc, bound, store, splice, nilc, un, eqs, eq0, evalFeet, footOf, M.foot, orderOk, apartAll, apart1, clash, meets, callM, fcallM, callee, fz1, fzC, fz, flat, flat1, flat0, flatI, Option.bind_some, putAll, M.bind]; rfl) ?_
          refine ⟨by simp [again, keepFr, get, nrm_iv, nrm_ref_cells, nrmO, S.cs_nrm, wrap_succ hil hs], take_succ_eq hr hq hg ?_⟩
          rw [ba_beq, decide_eq_true_eq] at hb; exact hb
        | false =>
          refine Wp.seq ?_
          refine Wp.rgn (K := 0) (fun n _ => by simp [evalRgn, Option.map_some, evalOps, step, wants, osem, M.run_bind, M.mapL, M.run, M.ok, M.fresh, M.write, M.look, M.lift, putD, Arb.set, ev, Arb.get, keepFr, bin, intBin, strBin, mk, params, cellsM, load, obRead, fadr, fld, isl, iarr, xarr, idx, len, valid, slc, bound, store, splice, nilc, un, eqs, eq0, evalFeet, footOf, M.foot, orderOk, apartAll, apart1, clash, meets, callM, fcallM, callee, fz1, fzC, fz, flat, flat1, flat0, flatI, Option.bind_some, putAll, M.bind]; rfl) ?_
          refine Wp.ret ?_
          have : sameS x y = false := sameS_false (.inr (.inr (.inr (get_ne hr hq fun e => by rw [e] at hb; simp [ba_beq] at hb))))
          rw [this]; rfl
      · intro hg
        have hse : x.s = y.s := by rw [List.take_length, hls, List.take_length] at hg; exact hg
        refine Wp.seq (Wp.seq ?_)
        refine Wp.rgn (K := 0) (s' := ⟨[(2, .ref 1000 0 0 0), (3, .ref 1064 0 0 0), (6, .iv (.int .i64 x.s.length)), (59, .iv (.bool false))], [(1000, .cells x.cs), (1064, .cells y.cs)], 3880⟩) (fun n _ => by simp [evalRgn, Option.map_some, evalOps, step, wants, osem, M.run_bind, M.mapL, M.run, M.ok, M.fresh, M.write, M.look, M.lift, putD, Arb.set, ev, Arb.get, keepFr, bin, intBin, strBin, mk, params, cellsM, load, obRead, fadr, fld, isl, iarr, xarr, idx, len, valid, slc, bound, store, splice, nilc, un, eqs, eq0, evalFeet, footOf, M.foot, orderOk, apartAll, apart1, clash, meets, callM, fcallM, callee, fz1, fzC, fz, flat, flat1, flat0, flatI, Option.bind_some, putAll, M.bind, S.cs, S.enc]) ?_
        refine Wp.cond rfl (Wp.exit ?_)
        simp only [Ex.then, Ex.inBlock, if_true]
        refine Wp.seq ?_
        refine Wp.rgn (K := 0) (fun n _ => by simp [evalRgn, Option.map_some, evalOps, step, wants, osem, M.run_bind, M.mapL, M.run, M.ok, M.fresh, M.write, M.look, M.lift, putD, Arb.set, ev, Arb.get, keepFr, bin, intBin, strBin, mk, params, cellsM, load, obRead, fadr, fld, isl, iarr, xarr, idx, len, valid, slc, bound, store, splice, nilc, un, eqs, eq0, evalFeet, footOf, M.foot, orderOk, apartAll, apart1, clash, meets, callM, fcallM, callee, fz1, fzC, fz, flat, flat1, flat0, flatI, Option.bind_some, putAll, M.bind]; rfl) ?_
        refine Wp.ret ?_
        rw [show sameS x y = true by simp [sameS, ha, hc, hie, hse]]; rfl
end
end Arb

/-
  THE DOCUMENT's 'SAME', OF BOXES AND OF FILTERS.
-/
set_option linter.unusedSimpArgs false
namespace Arb
open Go

section
variable {prog : Nat → Option IFn}

end
end Arb

/-
  STRINGS IN LISTS.
-/
set_option linter.unusedSimpArgs false
namespace Arb
open Go

def idxFrom (t : ByteArray) : List ByteArray → Nat → Int
  | [], _ => -1
  | x :: r, k => if t = x then (k : Int) else idxFrom t r (k + 1)
def hasT (l : List ByteArray) (t : ByteArray) : Bool := decide (0 ≤ idxFrom t l 0)
theorem idxFrom_mem (t : ByteArray) : ∀ (l : List ByteArray) (k : Nat), 0 ≤ idxFrom t l k ↔ t ∈ l
  | [], k => by simp [idxFrom]
  | x :: r, k => by
    simp only [idxFrom]
    split
    · rename_i h; subst h; simp
    · rename_i h
      rw [idxFrom_mem t r (k + 1)]
      simp [h]
theorem drop_cons {α : Type} {l : List α} {i : Nat} {x : α} (h : l[i]? = some x) : l.drop i = x :: l.drop (i + 1) := by
  obtain ⟨h1, h2⟩ := List.getElem?_eq_some_iff.1 h
  rw [List.drop_eq_getElem_cons h1, h2]

section
variable {prog : Nat → Option IFn}

theorem p_index (h : prog 64 = some F64) (l : List ByteArray) (t : ByteArray) (hl : l.length ≤ maxLen) : Ans prog 64 [.iv (.sl 1 (l.map st1)), .iv (.str t)] (.iv (.int .i64 (idxFrom t l 0))) := by
  refine Ans.of h rfl rfl (Wp.seq ?_)
  refine Wp.rgn (K := 0) (fun n _ => by simp [evalRgn, Option.map_some, evalOps, step, wants, osem, M.run_bind, M.mapL, M.run, M.ok, M.fresh, M.write, M.look, M.lift, putD, Arb.set, ev, Arb.get, keepFr, bin, intBin, strBin, mk, params, cellsM, load, obRead, fadr, fld, isl, iarr, xarr, idx, len, valid, slc, bound, store, splice, nilc, un, eqs, eq0, evalFeet, footOf, M.foot, orderOk, apartAll, apart1, clash, meets, callM, fcallM, callee, fz1, fzC, fz, flat, flat1, flat0, flatI, Option.bind_some, putAll, M.bind]; rfl) ?_
  refine Wp.seq (Wp.seq ?_)
  refine Wp.rgn (K := 0) (fun n _ => by simp [evalRgn, Option.map_some, evalOps, step, wants, osem, M.run_bind, M.mapL, M.run, M.ok, M.fresh, M.write, M.look, M.lift, putD, Arb.set, ev, Arb.get, keepFr, bin, intBin, strBin, mk, params, cellsM, load, obRead, fadr, fld, isl, iarr, xarr, idx, len, valid, slc, bound, store, splice, nilc, un, eqs, eq0, evalFeet, footOf, M.foot, orderOk, apartAll, apart1, clash, meets, callM, fcallM, callee, fz1, fzC, fz, flat, flat1, flat0, flatI, Option.bind_some, putAll, M.bind]; rfl) ?_
  refine Wp.block ?_
  refine Wp.range l.length (fun i => ⟨[(0, .iv (.sl 1 (l.map st1))), (1, .iv (.str t)), (7, .iv (.int .i64 l.length)), (8, .iv (.int .i64 i))], [], 1256⟩) (fun i => idxFrom t (l.drop i) i = idxFrom t l 0) (by simp [keepFr, get]) rfl ?_ ?_
  · intro i hi hg
    obtain ⟨x, hx⟩ : ∃ x, l[i]? = some x := ⟨_, List.getElem?_eq_getElem hi⟩
    rw [drop_cons hx, idxFrom] at hg
    refine Wp.seq ?_
    refine Wp.rgn (K := 0) (fun n _ => by simp [evalRgn, Option.map_some, evalOps, step, wants, osem, M.run_bind, M.mapL, M.run, M.ok, M.fresh, M.write, M.look, M.lift, putD, Arb.set, ev, Arb.get, keepFr, bin, intBin, strBin, mk, params, cellsM, load, obRead, fadr, fld, isl, iarr, xarr, idx, len, valid, slc, bound, store, splice, nilc, un, eqs, eq0, evalFeet, footOf, M.foot, orderOk, apartAll, apart1, clash, meets, callM, fcallM, callee, fz1, fzC, fz, flat, flat1, flat0, flatI, Option.bind_some, putAll, M.bind, hi]; rfl) ?_
    refine Wp.seq (Wp.cond rfl (Wp.skip (Wp.seq (Wp.block (Wp.seq ?_)))))
    refine Wp.rgn (K := 0) (fun n _ => by simp [evalRgn, Option.map_some, evalOps, step, wants, osem, M.run_bind, M.mapL, M.run, M.ok, M.fresh, M.write, M.look, M.lift, putD, Arb.set, ev, Arb.get, keepFr, bin, intBin, strBin, mk, params, cellsM, load, obRead, fadr, fld, isl, iarr, xarr, idx, len, valid, slc, bound, store, splice, nilc, un, eqs, eq0, evalFeet, footOf, M.foot, orderOk, apartAll, apart1, clash, meets, callM, fcallM, callee, fz1, fzC, fz, flat, flat1, flat0, flatI, Option.bind_some, putAll, M.bind]; rfl) ?_
    refine Wp.seq ?_
    refine Wp.rgn (K := 0) (s' := ⟨[(0, .iv (.sl 1 (l.map st1))), (1, .iv (.str t)), (5, .iv (.int .i64 i)), (7, .iv (.int .i64 l.length)), (8, .iv (.int .i64 i)), (16, .iv (.bool (t == x)))], [], 1832⟩) (fun n _ => by simp [evalRgn, Option.map_some, evalOps, step, wants, osem, M.run_bind, M.mapL, M.run, M.ok, M.fresh, M.write, M.look, M.lift, putD, Arb.set, ev, Arb.get, keepFr, bin, intBin, strBin, mk, params, cellsM, load, obRead, fadr, fld, isl, iarr, xarr, idx, len, valid, slc, bound, store, splice, nilc, un, eqs, eq0, evalFeet, footOf, M.foot, orderOk, apartAll, apart1, clash, meets, callM, fcallM, callee, fz1, fzC, fz, flat, flat1, flat0, flatI, Option.bind_some, putAll, M.bind, hx, st1]) ?_
    refine Wp.cond rfl ?_
    cases hb : t == x with
    | true =>
      refine Wp.seq ?_
      refine Wp.rgn (K := 0) (fun n _ => by simp [evalRgn, Option.map_some, evalOps, step, wants, osem, M.run_bind, M.mapL, M.run, M.ok, M.fresh, M.write, M.look, M.lift, putD, Arb.set, ev, Arb.get, keepFr, bin, intBin, strBin, mk, params, cellsM, load, obRead, fadr, fld, isl, iarr, xarr, idx, len, valid, slc, bound, store, splice, nilc, un, eqs, eq0, evalFeet, footOf, M.foot, orderOk, apartAll, apart1, clash, meets, callM, fcallM, callee, fz1, fzC, fz, flat, flat1, flat0, flatI, Option.bind_some, putAll, M.bind]; rfl) ?_
      refine Wp.ret ?_
      rw [ba_beq, decide_eq_true_eq] at hb
      rw [if_pos hb] at hg
      rw [← hg]; rfl
    | false =>
      refine Wp.skip ?_
      refine Wp.rgn (K := 0) (fun n _ => by simp [evalRgn, Option.map_some, evalOps, step, wants, osem, M.run_bind, M.mapL, M.run, M.ok, M.fresh, M.write, M.look, M.lift, putD, Arb.set, ev, Arb.get, keepFr, bin, intBin, strBin, mk, params, cellsM, load, obRead, fadr, fld, isl, iarr, xarr, idx, len, valid, slc, bound, store, splice, nilc, un, eqs, eq0, evalFeet, footOf, M.foot, orderOk, apartAll, apart1, clash, meets, callM, fcallM, callee, fz1, fzC, fz, flat, flat1, flat0, flatI, Option.bind_some, putAll, M.bind]; rfl) ?_
      rw [ba_beq, decide_eq_false_iff_not] at hb
      rw [if_neg hb] at hg
      exact ⟨by simp [again, keepFr, get, nrm, wrap_succ hi hl], hg⟩
  · intro hg
    rw [List.drop_length] at hg
    refine Wp.seq ?_
    refine Wp.rgn (K := 0) (fun n _ => by simp [evalRgn, Option.map_some, evalOps, step, wants, osem, M.run_bind, M.mapL, M.run, M.ok, M.fresh, M.write, M.look, M.lift, putD, Arb.set, ev, Arb.get, keepFr, bin, intBin, strBin, mk, params, cellsM, load, obRead, fadr, fld, isl, iarr, xarr, idx, len, valid, slc, bound, store, splice, nilc, un, eqs, eq0, evalFeet, footOf, M.foot, orderOk, apartAll, apart1, clash, meets, callM, fcallM, callee, fz1, fzC, fz, flat, flat1, flat0, flatI, Option.bind_some, putAll, M.bind]; rfl) ?_
    refine Wp.seq (Wp.cond rfl (Wp.exit ?_))
    simp only [Ex.then, Ex.inBlock, if_true]
    refine Wp.seq ?_
    refine Wp.rgn (K := 0) (fun n _ => by simp [evalRgn, Option.map_some, evalOps, step, wants, osem, M.run_bind, M.mapL, M.run, M.ok, M.fresh, M.write, M.look, M.lift, putD, Arb.set, ev, Arb.get, keepFr, bin, intBin, strBin, mk, params, cellsM, load, obRead, fadr, fld, isl, iarr, xarr, idx, len, valid, slc, bound, store, splice, nilc, un, eqs, eq0, evalFeet, footOf, M.foot, orderOk, apartAll, apart1, clash, meets, callM, fcallM, callee, fz1, fzC, fz, flat, flat1, flat0, flatI, Option.bind_some, putAll, M.bind]; rfl) ?_
    refine Wp.ret ?_
    rw [← hg]; rfl

theorem p_contains (h64 : prog 64 = some F64) (h : prog 53 = some F53) (l : List ByteArray) (t : ByteArray) (hl : l.length ≤ maxLen) : Ans prog 53 [.iv (.sl 1 (l.map st1)), .iv (.str t)] (.iv (.bool (hasT l t))) := by
  obtain ⟨K, hK⟩ := p_index h64 l t hl
  refine Ans.of h rfl rfl (Wp.seq ?_)
  refine Wp.rgn (K := 0) (fun n _ => by simp [evalRgn, Option.map_some, evalOps, step, wants, osem, M.run_bind, M.mapL, M.run, M.ok, M.fresh, M.write, M.look, M.lift, putD, Arb.set, ev, Arb.get, keepFr, bin, intBin, strBin, mk, params, cellsM, load, obRead, fadr, fld, isl, iarr, xarr, idx, len, valid, slc, bound, store, splice, nilc, un, eqs, eq0, evalFeet, footOf, M.foot, orderOk, apartAll, apart1, clash, meets, callM, fcallM, callee, fz1, fzC, fz, flat, flat1, flat0, flatI, Option.bind_some, putAll, M.bind]; rfl) ?_
  refine Wp.seq ?_
  refine Wp.rgn (K := K) (fun n hn => by simp [evalRgn, Option.map_some, evalOps, step, wants, osem, M.run_bind, M.mapL, M.run, M.ok, M.fresh, M.write, M.look, M.lift, putD, Arb.set, ev, Arb.get, keepFr, bin, intBin, strBin, mk, params, cellsM, load, obRead, fadr, fld, isl, iarr, xarr, idx, len, valid, slc, bound, store, splice, nilc, un, eqs, eq0, evalFeet, footOf, M.foot, orderOk, apartAll, apart1, clash, meets, callM, fcallM, callee, fz1, fzC, fz, flat, flat1, flat0, flatI, Option.bind_some, putAll, M.bind, hK n hn]; rfl) ?_
  exact Wp.ret rfl
end
end Arb

/-
  THOSE OF A LIST THAT ARE, OR AREN'T, IN ANOTHER ONE.
-/
set_option linter.unusedSimpArgs false
namespace Arb
open Go

def pickS (a b : List ByteArray) (inn : Bool) : List ByteArray := a.filter fun s => hasT b s == inn
theorem take_succ_filter {α : Type} {l : List α} {i : Nat} {x : α} {f : α → Bool} (hx : l[i]? = some x) : (l.take (i + 1)).filter f = (l.take i).filter f ++ if f x then [x] else [] := by
  rw [List.take_add_one, hx, List.filter_append]
  congr 1
  simp only [Option.toList_some, List.filter_cons, List.filter_nil]
theorem filter_take_le {α : Type} (l : List α) (i : Nat) (f : α → Bool) : ((l.take i).filter f).length ≤ l.length :=
  Nat.le_trans (List.length_filter_le _ _) (by rw [List.length_take]; omega)

section
variable {prog : Nat → Option IFn}

set_option maxHeartbeats 1000000 in
theorem p_pick (h64 : prog 64 = some F64) (h53 : prog 53 = some F53) (h : prog 39 = some F39) (a b : List ByteArray) (inn : Bool) (ha : a.length ≤ 1000) (hb : b.length ≤ maxLen) :
    Ans prog 39 [.iv (.sl 1 (a.map st1)), .iv (.sl 1 (b.map st1)), .iv (.bool inn)] (.iv (.sl 1 ((pickS a b inn).map st1))) := by
  have ha' : a.length ≤ maxLen := by unfold maxLen; omega
  refine Ans.of h rfl rfl (Wp.seq ?_)
  refine Wp.rgn (K := 0) (fun n _ => by simp [evalRgn, Option.map_some, evalOps, step, wants, osem, M.run_bind, M.mapL, M.run, M.ok, M.fresh, M.write, M.look, M.lift, putD, Arb.set, ev, Arb.get, keepFr, bin, intBin, strBin, mk, params, cellsM, load, obRead, fadr, fld, isl, iarr, xarr, idx, len, valid, slc, bound, store, splice, nilc, un, eqs, eq0, evalFeet, footOf, M.foot, orderOk, apartAll, apart1, clash, meets, callM, fcallM, callee, fz1, fzC, fz, flat, flat1, flat0, flatI, Option.bind_some, putAll, M.bind]; rfl) ?_
  refine Wp.seq (Wp.seq ?_)
  refine Wp.rgn (K := 0) (fun n _ => by simp [evalRgn, Option.map_some, evalOps, step, wants, osem, M.run_bind, M.mapL, M.run, M.ok, M.fresh, M.write, M.look, M.lift, putD, Arb.set, ev, Arb.get, keepFr, bin, intBin, strBin, mk, params, cellsM, load, obRead, fadr, fld, isl, iarr, xarr, idx, len, valid, slc, bound, store, splice, nilc, un, eqs, eq0, evalFeet, footOf, M.foot, orderOk, apartAll, apart1, clash, meets, callM, fcallM, callee, fz1, fzC, fz, flat, flat1, flat0, flatI, Option.bind_some, putAll, M.bind]; rfl) ?_
  refine Wp.block ?_
  refine Wp.range a.length (fun i => ⟨[(1, .iv (.sl 1 (b.map st1))), (2, .iv (.bool inn)), (6, .own 1000 0 (pickS (a.take i) b inn).length 0), (9, .iv (.sl 1 (a.map st1))), (10, .iv (.int .i64 a.length)), (11, .iv (.int .i64 i))],
    [(1000, .buf 0 1 ((pickS (a.take i) b inn).map st1))], 1256⟩) (fun _ => True) (by simp [keepFr, get, pickS]) trivial ?_ ?_
  · intro i hi _
    obtain ⟨x, hx⟩ : ∃ x, a[i]? = some x := ⟨_, List.getElem?_eq_getElem hi⟩
    have hlen : (pickS (a.take i) b inn).length ≤ a.length := filter_take_le _ _ _
    generalize hacc : pickS (a.take i) b inn = acc at hlen
    have hnext : pickS (a.take (i + 1)) b inn = acc ++ if hasT b x == inn then [x] else [] := by rw [← hacc]; exact take_succ_filter hx
    refine Wp.seq ?_
    refine Wp.rgn (K := 0) (fun n _ => by simp [evalRgn, Option.map_some, evalOps, step, wants, osem, M.run_bind, M.mapL, M.run, M.ok, M.fresh, M.write, M.look, M.lift, putD, Arb.set, ev, Arb.get, keepFr, bin, intBin, strBin, mk, params, cellsM, load, obRead, fadr, fld, isl, iarr, xarr, idx, len, valid, slc, bound, store, splice, nilc, un, eqs, eq0, evalFeet, footOf, M.foot, orderOk, apartAll, apart1, clash, meets, callM, fcallM, callee, fz1, fzC, fz, flat, flat1, flat0, flatI, Option.bind_some, putAll, M.bind, hi]; rfl) ?_
    refine Wp.seq (Wp.cond rfl (Wp.skip (Wp.seq (Wp.block (Wp.seq ?_)))))
    refine Wp.rgn (K := 0) (fun n _ => by simp [evalRgn, Option.map_some, evalOps, step, wants, osem, M.run_bind, M.mapL, M.run, M.ok, M.fresh, M.write, M.look, M.lift, putD, Arb.set, ev, Arb.get, keepFr, bin, intBin, strBin, mk, params, cellsM, load, obRead, fadr, fld, isl, iarr, xarr, idx, len, valid, slc, bound, store, splice, nilc, un, eqs, eq0, evalFeet, footOf, M.foot, orderOk, apartAll, apart1, clash, meets, callM, fcallM, callee, fz1, fzC, fz, flat, flat1, flat0, flatI, Option.bind_some, putAll, M.bind, hx, st1]; rfl) ?_
    refine Wp.seq ?_
    obtain ⟨K, hK⟩ := p_contains h64 h53 b x hb
    refine Wp.rgn (K := K) (fun n hn => by simp [evalRgn, Option.map_some, evalOps, step, wants, osem, M.run_bind, M.mapL, M.run, M.ok, M.fresh, M.write, M.look, M.lift, putD, Arb.set, ev, Arb.get, keepFr, bin, intBin, strBin, mk, params, cellsM, load, obRead, fadr, fld, isl, iarr, xarr, idx, len, valid, slc, bound, store, splice, nilc, un, eqs, eq0, evalFeet, footOf, M.foot, orderOk, apartAll, apart1, clash, meets, callM, fcallM, callee, fz1, fzC, fz, flat, flat1, flat0, flatI, Option.bind_some, putAll, M.bind, hK n hn]; rfl) ?_
    refine Wp.cond rfl ?_
    rw [hnext]
    cases hp : hasT b x == inn with
    | true =>
      refine Wp.rgn (K := 0) (fun n _ => by
        simp [evalRgn, Option.map_some, evalOps, step, wants, osem, M.run_bind, M.mapL, M.run, M.ok, M.fresh, M.write, M.look, M.lift, putD, Arb.set, ev, Arb.get, keepFr, bin, intBin, strBin, mk, params, cellsM, load, obRead, fadr, fld, isl, iarr, xarr, idx, len, valid, slc, bound, store, splice, nilc, un, eqs, eq0, evalFeet, footOf, M.foot, orderOk, apartAll, apart1, clash, meets, callM, fcallM, callee, fz1, fzC, fz, flat, flat1, flat0, flatI, Option.bind_some, putAll, M.bind, setAll, app, elems, roomy, show acc.length + 1 ≤ 1073741824 by omega]
        rfl) ?_
      simp only [Ex.then, Ex.inBlock]
      refine Wp.rgn (K := 0) (fun n _ => by simp [evalRgn, Option.map_some, evalOps, step, wants, osem, M.run_bind, M.mapL, M.run, M.ok, M.fresh, M.write, M.look, M.lift, putD, Arb.set, ev, Arb.get, keepFr, bin, intBin, strBin, mk, params, cellsM, load, obRead, fadr, fld, isl, iarr, xarr, idx, len, valid, slc, bound, store, splice, nilc, un, eqs, eq0, evalFeet, footOf, M.foot, orderOk, apartAll, apart1, clash, meets, callM, fcallM, callee, fz1, fzC, fz, flat, flat1, flat0, flatI, Option.bind_some, putAll, M.bind]; rfl) ?_
      refine ⟨?_, trivial⟩
      simp [again, keepFr, get, nrm, nrmO, wrap_succ hi ha', st1, List.take_of_length_le]
    | false =>
      refine Wp.skip ?_
      simp only [Ex.then, Ex.inBlock]
      refine Wp.rgn (K := 0) (fun n _ => by simp [evalRgn, Option.map_some, evalOps, step, wants, osem, M.run_bind, M.mapL, M.run, M.ok, M.fresh, M.write, M.look, M.lift, putD, Arb.set, ev, Arb.get, keepFr, bin, intBin, strBin, mk, params, cellsM, load, obRead, fadr, fld, isl, iarr, xarr, idx, len, valid, slc, bound, store, splice, nilc, un, eqs, eq0, evalFeet, footOf, M.foot, orderOk, apartAll, apart1, clash, meets, callM, fcallM, callee, fz1, fzC, fz, flat, flat1, flat0, flatI, Option.bind_some, putAll, M.bind]; rfl) ?_
      exact ⟨by simp [again, keepFr, get, nrm, nrmO, wrap_succ hi ha'], trivial⟩
  · intro _
    refine Wp.seq ?_
    refine Wp.rgn (K := 0) (fun n _ => by simp [evalRgn, Option.map_some, evalOps, step, wants, osem, M.run_bind, M.mapL, M.run, M.ok, M.fresh, M.write, M.look, M.lift, putD, Arb.set, ev, Arb.get, keepFr, bin, intBin, strBin, mk, params, cellsM, load, obRead, fadr, fld, isl, iarr, xarr, idx, len, valid, slc, bound, store, splice, nilc, un, eqs, eq0, evalFeet, footOf, M.foot, orderOk, apartAll, apart1, clash, meets, callM, fcallM, callee, fz1, fzC, fz, flat, flat1, flat0, flatI, Option.bind_some, putAll, M.bind]; rfl) ?_
    refine Wp.seq (Wp.cond rfl (Wp.exit ?_))
    simp only [Ex.then, Ex.inBlock, if_true]
    refine Wp.seq ?_
    refine Wp.rgn (K := 0) (fun n _ => by simp [evalRgn, Option.map_some, evalOps, step, wants, osem, M.run_bind, M.mapL, M.run, M.ok, M.fresh, M.write, M.look, M.lift, putD, Arb.set, ev, Arb.get, keepFr, bin, intBin, strBin, mk, params, cellsM, load, obRead, fadr, fld, isl, iarr, xarr, idx, len, valid, slc, bound, store, splice, nilc, un, eqs, eq0, evalFeet, footOf, M.foot, orderOk, apartAll, apart1, clash, meets, callM, fcallM, callee, fz1, fzC, fz, flat, flat1, flat0, flatI, Option.bind_some, putAll, M.bind]; rfl) ?_
    refine Wp.ret ?_
    simp [FinS, F39, resAll, resM, outA, ev, get, M.look, M.bind, M.run, M.ok, shut, fzA, fz1, fzC, fz, M.write, List.take_of_length_le]
end
end Arb

/-
  HOW MANY BITS: some number.
-/
set_option linter.unusedSimpArgs false
namespace Arb
open Go

def lenTab : ByteArray := match F70.body with
  | .seq _ (.seq _ (.seq _ (.seq _ (.seq (.rgn _ [_, _, _, ⟨_, .xstr (.c (.str s)) _, _, _⟩, _, _, _] _) _)))) => s
  | _ => ⟨#[]⟩
theorem lenTab_size : lenTab.size = 256 := by kernel_rfl

section
variable {prog : Nat → Option IFn}

set_option maxRecDepth 20000 in
set_option maxHeartbeats 1000000 in
theorem p_len64 (h : prog 70 = some F70) {n : Nat} (hn : n < 256) : ∃ v : Int, Ans prog 70 [.iv (.int .u64 n)] (.iv (.int .i64 v)) := by
  obtain ⟨b, hb⟩ : ∃ b, lenTab[n]? = some b := ⟨_, getElem?_pos lenTab n (by rw [lenTab_size]; exact hn)⟩
  refine ⟨IntKind.i64.wrap (0 + IntKind.i64.wrap (b.toNat : Int)), ?_⟩
  have c1 : decide ((4294967296 : Int) ≤ n) = false := decide_eq_false (by omega)
  have c2 : decide ((65536 : Int) ≤ n) = false := decide_eq_false (by omega)
  have c3 : decide ((256 : Int) ≤ n) = false := decide_eq_false (by omega)
  have c4 : IntKind.u8.wrap (n : Int) = n := by rw [IntKind.wrap_u8]; omega
  refine Ans.of h rfl rfl (Wp.seq ?_)
  refine Wp.rgn (K := 0) (fun n _ => by simp [evalRgn, Option.map_some, evalOps, step, wants, osem, M.run_bind, M.mapL, M.run, M.ok, M.fresh, M.write, M.look, M.lift, putD, Arb.set, ev, Arb.get, keepFr, bin, intBin, strBin, mk, params, cellsM, load, obRead, fadr, fld, isl, iarr, xarr, idx, len, valid, slc, bound, store, splice, nilc, un, eqs, eq0, evalFeet, footOf, M.foot, orderOk, apartAll, apart1, clash, meets, callM, fcallM, callee, fz1, fzC, fz, flat, flat1, flat0, flatI, Option.bind_some, putAll, M.bind]; rfl) ?_
  refine Wp.seq (Wp.seq ?_)
  refine Wp.rgn (K := 0) (s' := ⟨[(0, .iv (.int .u64 n)), (2, .iv (.int .i64 0)), (4, .iv (.bool false))], [], 1192⟩) (fun _ _ => by simp [evalRgn, Option.map_some, evalOps, step, wants, osem, M.run_bind, M.mapL, M.run, M.ok, M.fresh, M.write, M.look, M.lift, putD, Arb.set, ev, Arb.get, keepFr, bin, intBin, strBin, mk, params, cellsM, load, obRead, fadr, fld, isl, iarr, xarr, idx, len, valid, slc, bound, store, splice, nilc, un, eqs, eq0, evalFeet, footOf, M.foot, orderOk, apartAll, apart1, clash, meets, callM, fcallM, callee, fz1, fzC, fz, flat, flat1, flat0, flatI, Option.bind_some, putAll, M.bind, c1]) ?_
  refine Wp.cond rfl (Wp.skip (Wp.seq (Wp.seq ?_)))
  refine Wp.rgn (K := 0) (s' := ⟨[(0, .iv (.int .u64 n)), (2, .iv (.int .i64 0)), (8, .iv (.bool false))], [], 1320⟩) (fun _ _ => by simp [evalRgn, Option.map_some, evalOps, step, wants, osem, M.run_bind, M.mapL, M.run, M.ok, M.fresh, M.write, M.look, M.lift, putD, Arb.set, ev, Arb.get, keepFr, bin, intBin, strBin, mk, params, cellsM, load, obRead, fadr, fld, isl, iarr, xarr, idx, len, valid, slc, bound, store, splice, nilc, un, eqs, eq0, evalFeet, footOf, M.foot, orderOk, apartAll, apart1, clash, meets, callM, fcallM, callee, fz1, fzC, fz, flat, flat1, flat0, flatI, Option.bind_some, putAll, M.bind, c2]) ?_
  refine Wp.cond rfl (Wp.skip (Wp.seq (Wp.seq ?_)))
  refine Wp.rgn (K := 0) (s' := ⟨[(0, .iv (.int .u64 n)), (2, .iv (.int .i64 0)), (14, .iv (.bool false))], [], 1448⟩) (fun _ _ => by simp [evalRgn, Option.map_some, evalOps, step, wants, osem, M.run_bind, M.mapL, M.run, M.ok, M.fresh, M.write, M.look, M.lift, putD, Arb.set, ev, Arb.get, keepFr, bin, intBin, strBin, mk, params, cellsM, load, obRead, fadr, fld, isl, iarr, xarr, idx, len, valid, slc, bound, store, splice, nilc, un, eqs, eq0, evalFeet, footOf, M.foot, orderOk, apartAll, apart1, clash, meets, callM, fcallM, callee, fz1, fzC, fz, flat, flat1, flat0, flatI, Option.bind_some, putAll, M.bind, c3]) ?_
  refine Wp.cond rfl (Wp.skip (Wp.seq ?_))
  refine Wp.rgn (K := 0) (s' := ⟨[(2, .iv (.int .i64 (IntKind.i64.wrap (0 + IntKind.i64.wrap (b.toNat : Int)))))], [], 1896⟩) (fun _ _ => by
    have hx : xstr (.iv (.str lenTab)) (.iv (.int .u8 n)) = M.ret (.iv (.int .u8 b.toNat)) := by
      simp only [xstr, Int.toNat_natCast, hb]
      rfl
    show evalRgn _ false [⟨some 19, .mov (.t 2), none, []⟩, ⟨some 20, .mov (.t 0), none, []⟩, ⟨some 21, .cvi .u8 (.t 20), none, []⟩, ⟨some 22, .xstr (.c (.str lenTab)) (.t 21), none, []⟩, ⟨some 23, .cvi .i64 (.t 22), none, []⟩, ⟨some 24, .bin .add 0 (.t 19) (.t 23), none, []⟩, ⟨some 2, .mov (.t 24), none, []⟩] [2] _ = _
    simp [evalRgn, Option.map_some, evalOps, step, wants, osem, M.run_bind, M.mapL, M.run, M.ok, M.fresh, M.write, M.look, M.lift, putD, Arb.set, ev, Arb.get, keepFr, bin, intBin, strBin, mk, params, cellsM, load, obRead, fadr, fld, isl, iarr, xarr, idx, len, valid, slc, bound, store, splice, nilc, un, eqs, eq0, evalFeet, footOf, M.foot, orderOk, apartAll, apart1, clash, meets, callM, fcallM, callee, fz1, fzC, fz, flat, flat1, flat0, flatI, Option.bind_some, putAll, M.bind, c4, hx]) ?_
  exact Wp.ret rfl

theorem p_len (h70 : prog 70 = some F70) (h : prog 62 = some F62) {n : Nat} (hn : n < 256) : ∃ v : Int, Ans prog 62 [.iv (.int .u64 n)] (.iv (.int .i64 v)) := by
  obtain ⟨v, K, hK⟩ := p_len64 h70 hn
  refine ⟨v, Ans.of h rfl rfl (Wp.seq ?_)⟩
  refine Wp.rgn (K := 0) (fun n _ => by simp [evalRgn, Option.map_some, evalOps, step, wants, osem, M.run_bind, M.mapL, M.run, M.ok, M.fresh, M.write, M.look, M.lift, putD, Arb.set, ev, Arb.get, keepFr, bin, intBin, strBin, mk, params, cellsM, load, obRead, fadr, fld, isl, iarr, xarr, idx, len, valid, slc, bound, store, splice, nilc, un, eqs, eq0, evalFeet, footOf, M.foot, orderOk, apartAll, apart1, clash, meets, callM, fcallM, callee, fz1, fzC, fz, flat, flat1, flat0, flatI, Option.bind_some, putAll, M.bind]; rfl) ?_
  refine Wp.seq (Wp.cond (t := false) rfl (Wp.skip (Wp.seq ?_)))
  refine Wp.rgn (K := K) (s' := ⟨[(2, .iv (.int .i64 v))], [], 1256⟩) (fun n hn => by simp [evalRgn, Option.map_some, evalOps, step, wants, osem, M.run_bind, M.mapL, M.run, M.ok, M.fresh, M.write, M.look, M.lift, putD, Arb.set, ev, Arb.get, keepFr, bin, intBin, strBin, mk, params, cellsM, load, obRead, fadr, fld, isl, iarr, xarr, idx, len, valid, slc, bound, store, splice, nilc, un, eqs, eq0, evalFeet, footOf, M.foot, orderOk, apartAll, apart1, clash, meets, callM, fcallM, callee, fz1, fzC, fz, flat, flat1, flat0, flatI, Option.bind_some, putAll, M.bind, hK n hn]) ?_
  exact Wp.ret rfl
end
end Arb

/-
  SORTING BY INSERTION: ranges.
-/
set_option linter.unusedSimpArgs false
namespace Arb
open Go

section
variable {α : Type} (lt : α → α → Bool)
/-- the element at j goes down as long as it is less than the one ahead of it -/
def sink : Nat → List α → List α
  | 0, l => l
  | j + 1, l => match l[j + 1]?, l[j]? with
    | some y, some x => if lt y x then sink j ((l.set (j + 1) x).set j y) else l
    | _, _ => l
def sinks (l : List α) : Nat → List α
  | 0 => l
  | k + 1 => sink lt (k + 1) (sinks l k)
/-- sorted by insertion -/
def isort (l : List α) : List α := sinks lt l (l.length - 1)

theorem sink_len : ∀ (j : Nat) (l : List α), (sink lt j l).length = l.length
  | 0, _ => rfl
  | j + 1, l => by
    unfold sink
    split
    · split
      · rw [sink_len j]; simp
      · rfl
    · rfl
theorem sinks_len (l : List α) : ∀ k, (sinks lt l k).length = l.length
  | 0 => rfl
  | k + 1 => by rw [sinks, sink_len, sinks_len l k]
end
def ltR (x y : Int × Int) : Bool := decide (cmpI x.1 y.1 < 0)

section
variable {prog : Nat → Option IFn}

set_option maxHeartbeats 2000000 in
theorem p_isortR (h63 : prog 63 = some F63) (h52 : prog 52 = some F52) (h51 : prog 51 = some F51) (h : prog 68 = some F68) (l : List (Int × Int)) (hl : l.length ≤ maxLen) :
    Ev prog 68 [.own 0 0 l.length 0, .iv (.int .i64 0), .iv (.int .i64 l.length), .iv (.fn 51 [])] [(0, .buf 0 2 (l.map rng))] (.tup [], [(0, .buf 0 2 ((isort ltR l).map rng))]) := by
  refine Ev.of h rfl rfl (Wp.seq ?_)
  refine Wp.rgn (K := 0) (fun n _ => by simp [evalRgn, Option.map_some, evalOps, step, wants, osem, M.run_bind, M.mapL, M.run, M.ok, M.fresh, M.write, M.look, M.lift, putD, Arb.set, ev, Arb.get, keepFr, bin, intBin, strBin, mk, params, cellsM, load, obRead, fadr, fld, isl, iarr, xarr, idx, len, valid, slc, bound, store, splice, nilc, un, eqs, eq0, evalFeet, footOf, M.foot, orderOk, apartAll, apart1, clash, meets, callM, fcallM, callee, fz1, fzC, fz, flat, flat1, flat0, flatI, Option.bind_some, putAll, M.bind]; rfl) ?_
  refine Wp.block ?_
  refine Wp.range (l.length - 1) (fun i => ⟨[(0, .own 0 0 l.length 0), (1, .iv (.int .i64 0)), (2, .iv (.int .i64 l.length)), (3, .iv (.fn 51 [])), (8, .iv (.int .i64 ((i : Int) + 1)))], [(0, .buf 0 2 ((sinks ltR l i).map rng))], 1192⟩) (fun _ => True) (by simp [keepFr, get, sinks]; rfl) trivial ?_ ?_
  · intro i hi _
    have hlt : (i : Int) + 1 < l.length := by omega
    refine Wp.seq (Wp.seq ?_)
    refine Wp.rgn (K := 0) (s' := ⟨[(0, .own 0 0 l.length 0), (1, .iv (.int .i64 0)), (2, .iv (.int .i64 l.length)), (3, .iv (.fn 51 [])), (8, .iv (.int .i64 ((i : Int) + 1))), (14, .iv (.bool true))], [(0, .buf 0 2 ((sinks ltR l i).map rng))], 1384⟩) (fun n _ => by simp [evalRgn, Option.map_some, evalOps, step, wants, osem, M.run_bind, M.mapL, M.run, M.ok, M.fresh, M.write, M.look, M.lift, putD, Arb.set, ev, Arb.get, keepFr, bin, intBin, strBin, mk, params, cellsM, load, obRead, fadr, fld, isl, iarr, xarr, idx, len, valid, slc, bound, store, splice, nilc, un, eqs, eq0, evalFeet, footOf, M.foot, orderOk, apartAll, apart1, clash, meets, callM, fcallM, callee, fz1, fzC, fz, flat, flat1, flat0, flatI, Option.bind_some, putAll, M.bind, hlt]) ?_
    refine Wp.cond rfl (Wp.skip (Wp.seq (Wp.block (Wp.seq ?_))))
    refine Wp.rgn (K := 0) (fun n _ => by simp [evalRgn, Option.map_some, evalOps, step, wants, osem, M.run_bind, M.mapL, M.run, M.ok, M.fresh, M.write, M.look, M.lift, putD, Arb.set, ev, Arb.get, keepFr, bin, intBin, strBin, mk, params, cellsM, load, obRead, fadr, fld, isl, iarr, xarr, idx, len, valid, slc, bound, store, splice, nilc, un, eqs, eq0, evalFeet, footOf, M.foot, orderOk, apartAll, apart1, clash, meets, callM, fcallM, callee, fz1, fzC, fz, flat, flat1, flat0, flatI, Option.bind_some, putAll, M.bind]; rfl) ?_
    refine Wp.block ?_
    refine Wp.loop (fun m s1 => ∃ l', sink ltR m l' = sinks ltR l (i + 1) ∧ l'.length = l.length ∧ m ≤ i + 1 ∧ s1 = ⟨[(0, .own 0 0 l.length 0), (1, .iv (.int .i64 0)), (2, .iv (.int .i64 l.length)), (3, .iv (.fn 51 [])), (8, .iv (.int .i64 ((i : Int) + 1))), (9, .iv (.int .i64 m))], [(0, .buf 0 2 (l'.map rng))], 1512⟩) (m := i + 1) ⟨sinks ltR l i, rfl, sinks_len _ _ _, Nat.le_refl _, by simp [keepFr, get]⟩ ?_
    rintro m s1 ⟨l', h1, h2, h3, rfl⟩
    have hw1 : IntKind.wrap .i64 ((i : Int) + 1 + 1) = (i : Int) + 1 + 1 := IntWalk.i64_in _ (by unfold maxLen at hl; omega)
    refine Wp.seq (Wp.seq ?_)
    cases m with
    | zero =>
      refine Wp.rgn (K := 0) (s' := ⟨[(0, .own 0 0 l.length 0), (1, .iv (.int .i64 0)), (2, .iv (.int .i64 l.length)), (3, .iv (.fn 51 [])), (8, .iv (.int .i64 ((i : Int) + 1))), (9, .iv (.int .i64 0)), (34, .iv (.bool false))], [(0, .buf 0 2 (l'.map rng))], 2600⟩) (fun n _ => rgn_quiet' rfl (by simp [evalRgn, Option.map_some, evalOps, step, wants, osem, M.run_bind, M.mapL, M.run, M.ok, M.fresh, M.write, M.look, M.lift, putD, Arb.set, ev, Arb.get, keepFr, bin, intBin, strBin, mk, params, cellsM, load, obRead, fadr, fld, isl, iarr, xarr, idx, len, valid, slc, bound, store, splice, nilc, un, eqs, eq0, evalFeet, footOf, M.foot, orderOk, apartAll, apart1, clash, meets, callM, fcallM, callee, fz1, fzC, fz, flat, flat1, flat0, flatI, Option.bind_some, putAll, M.bind])) ?_
      refine Wp.cond rfl (Wp.exit ?_)
      simp only [Ex.then, Ex.inBlock, if_true]
      have : l' = sinks ltR l (i + 1) := h1
      subst this
      refine Wp.rgn (K := 0) (fun n _ => by simp [evalRgn, Option.map_some, evalOps, step, wants, osem, M.run_bind, M.mapL, M.run, M.ok, M.fresh, M.write, M.look, M.lift, putD, Arb.set, ev, Arb.get, keepFr, bin, intBin, strBin, mk, params, cellsM, load, obRead, fadr, fld, isl, iarr, xarr, idx, len, valid, slc, bound, store, splice, nilc, un, eqs, eq0, evalFeet, footOf, M.foot, orderOk, apartAll, apart1, clash, meets, callM, fcallM, callee, fz1, fzC, fz, flat, flat1, flat0, flatI, Option.bind_some, putAll, M.bind]; rfl) ?_
      exact ⟨by simp [again, keepFr, get, nrm, nrmO, hw1], trivial⟩
    | succ j =>
      obtain ⟨y, hy⟩ : ∃ y, l'[j + 1]? = some y := ⟨_, List.getElem?_eq_getElem (by omega)⟩
      obtain ⟨x, hx⟩ : ∃ x, l'[j]? = some x := ⟨_, List.getElem?_eq_getElem (by omega)⟩
      obtain ⟨K, hK⟩ := p_less h63 h52 h51 y x
      have hy' : l'[j + 1]'(by omega) = y := (List.getElem?_eq_some_iff.1 hy).2
      have hx' : l'[j]'(by omega) = x := (List.getElem?_eq_some_iff.1 hx).2
      have hj1 : j + 1 < l.length := by omega
      have hj0 : j < l.length := by omega
      have hj2 : (0 : Int) ≤ (j : Int) + 1 := by omega
      have hj3 : (j : Int) + 1 < l.length := by omega
      have hj4 : (j : Int) < l.length := by omega
      have hj5 : (0 : Int) < (j : Int) + 1 := by omega
      have hw : IntKind.wrap .i64 (j : Int) = j := IntWalk.i64_in _ (by unfold maxLen at hl; omega)
      refine Wp.rgn (K := K) (s' := ⟨[(0, .own 0 0 l.length 0), (1, .iv (.int .i64 0)), (2, .iv (.int .i64 l.length)), (3, .iv (.fn 51 [])), (8, .iv (.int .i64 ((i : Int) + 1))), (9, .iv (.int .i64 ((j + 1 : Nat) : Int))), (34, .iv (.bool (ltR y x)))], [(0, .buf 0 2 (l'.map rng))], 2600⟩) (fun n hn => rgn_quiet' rfl (by
        have hc := hK n hn
        simp [evalRgn, Option.map_some, evalOps, step, wants, osem, M.run_bind, M.mapL, M.run, M.ok, M.fresh, M.write, M.look, M.lift, putD, Arb.set, ev, Arb.get, keepFr, bin, intBin, strBin, mk, params, cellsM, load, obRead, fadr, fld, isl, iarr, xarr, idx, len, valid, slc, bound, store, splice, nilc, un, eqs, eq0, evalFeet, footOf, M.foot, orderOk, apartAll, apart1, clash, meets, callM, fcallM, callee, fz1, fzC, fz, flat, flat1, flat0, flatI, Option.bind_some, putAll, M.bind, hj1, hj0, hj2, hj3, hj4, hj5, hw, hy, hx, rng, hc, ltR])) ?_
      refine Wp.cond rfl ?_
      rw [sink, hy, hx] at h1
      simp only at h1
      cases hb : ltR y x with
      | false =>
        rw [hb, if_neg Bool.false_ne_true] at h1
        subst h1
        refine Wp.exit ?_
        simp only [Ex.then, Ex.inBlock, if_true]
        refine Wp.rgn (K := 0) (fun n _ => by simp [evalRgn, Option.map_some, evalOps, step, wants, osem, M.run_bind, M.mapL, M.run, M.ok, M.fresh, M.write, M.look, M.lift, putD, Arb.set, ev, Arb.get, keepFr, bin, intBin, strBin, mk, params, cellsM, load, obRead, fadr, fld, isl, iarr, xarr, idx, len, valid, slc, bound, store, splice, nilc, un, eqs, eq0, evalFeet, footOf, M.foot, orderOk, apartAll, apart1, clash, meets, callM, fcallM, callee, fz1, fzC, fz, flat, flat1, flat0, flatI, Option.bind_some, putAll, M.bind]; rfl) ?_
        exact ⟨by simp [again, keepFr, get, nrm, nrmO, hw1], trivial⟩
      | true =>
        rw [hb, if_pos rfl] at h1
        refine Wp.skip (Wp.seq (Wp.block ?_))
        refine Wp.rgn (K := 0) (s' := ⟨[(0, .own 0 0 l.length 0), (1, .iv (.int .i64 0)), (2, .iv (.int .i64 l.length)), (3, .iv (.fn 51 [])), (8, .iv (.int .i64 ((i : Int) + 1))), (9, .iv (.int .i64 ((j + 1 : Nat) : Int)))], [(0, .buf 0 2 (((l'.set (j + 1) x).set j y).map rng))], 3752⟩) (fun n hn => by
          simp [evalRgn, Option.map_some, evalOps, step, wants, osem, M.run_bind, M.mapL, M.run, M.ok, M.fresh, M.write, M.look, M.lift, putD, Arb.set, ev, Arb.get, keepFr, bin, intBin, strBin, mk, params, cellsM, load, obRead, fadr, fld, isl, iarr, xarr, idx, len, valid, slc, bound, store, splice, nilc, un, eqs, eq0, evalFeet, footOf, M.foot, orderOk, apartAll, apart1, clash, meets, callM, fcallM, callee, fz1, fzC, fz, flat, flat1, flat0, flatI, Option.bind_some, putAll, M.bind, hj1, hj0, hj2, hj3, hj4, hj5, hw, hy, hx, rng, h2, hx', hy']) ?_
        simp only [Ex.then, Ex.inBlock]
        refine Wp.rgn (K := 0) (fun n _ => by simp [evalRgn, Option.map_some, evalOps, step, wants, osem, M.run_bind, M.mapL, M.run, M.ok, M.fresh, M.write, M.look, M.lift, putD, Arb.set, ev, Arb.get, keepFr, bin, intBin, strBin, mk, params, cellsM, load, obRead, fadr, fld, isl, iarr, xarr, idx, len, valid, slc, bound, store, splice, nilc, un, eqs, eq0, evalFeet, footOf, M.foot, orderOk, apartAll, apart1, clash, meets, callM, fcallM, callee, fz1, fzC, fz, flat, flat1, flat0, flatI, Option.bind_some, putAll, M.bind]; rfl) ?_
        refine ⟨j, by omega, _, h1, by simp [h2], by omega, ?_⟩
        simp [again, keepFr, get, nrm, nrmO, hw]
  · intro _
    have hlt : ¬ ((l.length - 1 : Nat) : Int) + 1 < l.length := by omega
    refine Wp.seq (Wp.seq ?_)
    refine Wp.rgn (K := 0) (s' := ⟨[(0, .own 0 0 l.length 0), (1, .iv (.int .i64 0)), (2, .iv (.int .i64 l.length)), (3, .iv (.fn 51 [])), (8, .iv (.int .i64 (((l.length - 1 : Nat) : Int) + 1))), (14, .iv (.bool false))], [(0, .buf 0 2 ((isort ltR l).map rng))], 1384⟩) (fun n _ => by simp [evalRgn, Option.map_some, evalOps, step, wants, osem, M.run_bind, M.mapL, M.run, M.ok, M.fresh, M.write, M.look, M.lift, putD, Arb.set, ev, Arb.get, keepFr, bin, intBin, strBin, mk, params, cellsM, load, obRead, fadr, fld, isl, iarr, xarr, idx, len, valid, slc, bound, store, splice, nilc, un, eqs, eq0, evalFeet, footOf, M.foot, orderOk, apartAll, apart1, clash, meets, callM, fcallM, callee, fz1, fzC, fz, flat, flat1, flat0, flatI, Option.bind_some, putAll, M.bind, isort]; omega) ?_
    exact Wp.cond rfl (Wp.exit rfl)
end
end Arb

/-
  SORTING BY INSERTION: strings.
-/
set_option linter.unusedSimpArgs false
namespace Arb
open Go

def ltT (x y : ByteArray) : Bool := sless x y

section
variable {prog : Nat → Option IFn}

theorem p_isNaNT (h : prog 88 = some F88) (a : ByteArray) : Ans prog 88 [.iv (.str a)] (.iv (.bool false)) := by
  refine Ans.of h rfl rfl (Wp.seq ?_)
  refine Wp.rgn (K := 0) (fun n _ => by simp [evalRgn, Option.map_some, evalOps, step, wants, osem, M.run_bind, M.mapL, M.run, M.ok, M.fresh, M.write, M.look, M.lift, putD, Arb.set, ev, Arb.get, keepFr, bin, intBin, strBin, mk, params, cellsM, load, obRead, fadr, fld, isl, iarr, xarr, idx, len, valid, slc, bound, store, splice, nilc, un, eqs, eq0, evalFeet, footOf, M.foot, orderOk, apartAll, apart1, clash, meets, callM, fcallM, callee, fz1, fzC, fz, flat, flat1, flat0, flatI, Option.bind_some, putAll, M.bind]; rfl) ?_
  refine Wp.seq ?_
  refine Wp.rgn (K := 0) (s' := ⟨[(2, .iv (.bool false))], [], 1320⟩) (fun n _ => by simp [evalRgn, Option.map_some, evalOps, step, wants, osem, M.run_bind, M.mapL, M.run, M.ok, M.fresh, M.write, M.look, M.lift, putD, Arb.set, ev, Arb.get, keepFr, bin, intBin, strBin, mk, params, cellsM, load, obRead, fadr, fld, isl, iarr, xarr, idx, len, valid, slc, bound, store, splice, nilc, un, eqs, eq0, evalFeet, footOf, M.foot, orderOk, apartAll, apart1, clash, meets, callM, fcallM, callee, fz1, fzC, fz, flat, flat1, flat0, flatI, Option.bind_some, putAll, M.bind, ba_beq]) ?_
  exact Wp.ret rfl
theorem p_lessT (h88 : prog 88 = some F88) (h : prog 72 = some F72) (a b : ByteArray) : Ans prog 72 [.iv (.str a), .iv (.str b)] (.iv (.bool (ltT a b))) := by
  obtain ⟨K1, h1⟩ := p_isNaNT h88 a
  refine Ans.of h rfl rfl (Wp.seq ?_)
  refine Wp.rgn (K := 0) (fun n _ => by simp [evalRgn, Option.map_some, evalOps, step, wants, osem, M.run_bind, M.mapL, M.run, M.ok, M.fresh, M.write, M.look, M.lift, putD, Arb.set, ev, Arb.get, keepFr, bin, intBin, strBin, mk, params, cellsM, load, obRead, fadr, fld, isl, iarr, xarr, idx, len, valid, slc, bound, store, splice, nilc, un, eqs, eq0, evalFeet, footOf, M.foot, orderOk, apartAll, apart1, clash, meets, callM, fcallM, callee, fz1, fzC, fz, flat, flat1, flat0, flatI, Option.bind_some, putAll, M.bind]; rfl) ?_
  refine Wp.seq ?_
  refine Wp.rgn (K := K1) (fun n hn => by simp [evalRgn, Option.map_some, evalOps, step, wants, osem, M.run_bind, M.mapL, M.run, M.ok, M.fresh, M.write, M.look, M.lift, putD, Arb.set, ev, Arb.get, keepFr, bin, intBin, strBin, mk, params, cellsM, load, obRead, fadr, fld, isl, iarr, xarr, idx, len, valid, slc, bound, store, splice, nilc, un, eqs, eq0, evalFeet, footOf, M.foot, orderOk, apartAll, apart1, clash, meets, callM, fcallM, callee, fz1, fzC, fz, flat, flat1, flat0, flatI, Option.bind_some, putAll, M.bind, h1 n hn]; rfl) ?_
  exact Wp.ret rfl

set_option maxHeartbeats 2000000 in
theorem p_isortT (h88 : prog 88 = some F88) (h72 : prog 72 = some F72) (h : prog 71 = some F71) (v0 : Nat) (l : List ByteArray) (hl : l.length ≤ maxLen) :
    Ev prog 71 [.own 0 0 l.length v0, .iv (.int .i64 0), .iv (.int .i64 l.length)] [(0, .buf v0 1 (l.map st1))] (.tup [], [(0, .buf v0 1 ((isort ltT l).map st1))]) := by
  refine Ev.of h rfl rfl (Wp.seq ?_)
  refine Wp.rgn (K := 0) (fun n _ => by simp [evalRgn, Option.map_some, evalOps, step, wants, osem, M.run_bind, M.mapL, M.run, M.ok, M.fresh, M.write, M.look, M.lift, putD, Arb.set, ev, Arb.get, keepFr, bin, intBin, strBin, mk, params, cellsM, load, obRead, fadr, fld, isl, iarr, xarr, idx, len, valid, slc, bound, store, splice, nilc, un, eqs, eq0, evalFeet, footOf, M.foot, orderOk, apartAll, apart1, clash, meets, callM, fcallM, callee, fz1, fzC, fz, flat, flat1, flat0, flatI, Option.bind_some, putAll, M.bind]; rfl) ?_
  refine Wp.block ?_
  refine Wp.range (l.length - 1) (fun i => ⟨[(0, .own 0 0 l.length v0), (1, .iv (.int .i64 0)), (2, .iv (.int .i64 l.length)), (6, .iv (.int .i64 ((i : Int) + 1)))], [(0, .buf v0 1 ((sinks ltT l i).map st1))], 1192⟩) (fun _ => True) (by simp [keepFr, get, sinks]; rfl) trivial ?_ ?_
  · intro i hi _
    have hlt : (i : Int) + 1 < l.length := by omega
    refine Wp.seq (Wp.seq ?_)
    refine Wp.rgn (K := 0) (s' := ⟨[(0, .own 0 0 l.length v0), (1, .iv (.int .i64 0)), (2, .iv (.int .i64 l.length)), (6, .iv (.int .i64 ((i : Int) + 1))), (12, .iv (.bool true))], [(0, .buf v0 1 ((sinks ltT l i).map st1))], 1384⟩) (fun n _ => by simp [evalRgn, Option.map_some, evalOps, step, wants, osem, M.run_bind, M.mapL, M.run, M.ok, M.fresh, M.write, M.look, M.lift, putD, Arb.set, ev, Arb.get, keepFr, bin, intBin, strBin, mk, params, cellsM, load, obRead, fadr, fld, isl, iarr, xarr, idx, len, valid, slc, bound, store, splice, nilc, un, eqs, eq0, evalFeet, footOf, M.foot, orderOk, apartAll, apart1, clash, meets, callM, fcallM, callee, fz1, fzC, fz, flat, flat1, flat0, flatI, Option.bind_some, putAll, M.bind, hlt]) ?_
    refine Wp.cond rfl (Wp.skip (Wp.seq (Wp.block (Wp.seq ?_))))
    refine Wp.rgn (K := 0) (fun n _ => by simp [evalRgn, Option.map_some, evalOps, step, wants, osem, M.run_bind, M.mapL, M.run, M.ok, M.fresh, M.write, M.look, M.lift, putD, Arb.set, ev, Arb.get, keepFr, bin, intBin, strBin, mk, params, cellsM, load, obRead, fadr, fld, isl, iarr, xarr, idx, len, valid, slc, bound, store, splice, nilc, un, eqs, eq0, evalFeet, footOf, M.foot, orderOk, apartAll, apart1, clash, meets, callM, fcallM, callee, fz1, fzC, fz, flat, flat1, flat0, flatI, Option.bind_some, putAll, M.bind]; rfl) ?_
    refine Wp.block ?_
    refine Wp.loop (fun m s1 => ∃ l', sink ltT m l' = sinks ltT l (i + 1) ∧ l'.length = l.length ∧ m ≤ i + 1 ∧ s1 = ⟨[(0, .own 0 0 l.length v0), (1, .iv (.int .i64 0)), (2, .iv (.int .i64 l.length)), (6, .iv (.int .i64 ((i : Int) + 1))), (7, .iv (.int .i64 m))], [(0, .buf v0 1 (l'.map st1))], 1512⟩) (m := i + 1) ⟨sinks ltT l i, rfl, sinks_len _ _ _, Nat.le_refl _, by simp [keepFr, get]⟩ ?_
    rintro m s1 ⟨l', h1, h2, h3, rfl⟩
    have hw1 : IntKind.wrap .i64 ((i : Int) + 1 + 1) = (i : Int) + 1 + 1 := IntWalk.i64_in _ (by unfold maxLen at hl; omega)
    refine Wp.seq (Wp.seq ?_)
    cases m with
    | zero =>
      refine Wp.rgn (K := 0) (s' := ⟨[(0, .own 0 0 l.length v0), (1, .iv (.int .i64 0)), (2, .iv (.int .i64 l.length)), (6, .iv (.int .i64 ((i : Int) + 1))), (7, .iv (.int .i64 0)), (30, .iv (.bool false))], [(0, .buf v0 1 (l'.map st1))], 2472⟩) (fun n _ => rgn_quiet' rfl (by simp [evalRgn, Option.map_some, evalOps, step, wants, osem, M.run_bind, M.mapL, M.run, M.ok, M.fresh, M.write, M.look, M.lift, putD, Arb.set, ev, Arb.get, keepFr, bin, intBin, strBin, mk, params, cellsM, load, obRead, fadr, fld, isl, iarr, xarr, idx, len, valid, slc, bound, store, splice, nilc, un, eqs, eq0, evalFeet, footOf, M.foot, orderOk, apartAll, apart1, clash, meets, callM, fcallM, callee, fz1, fzC, fz, flat, flat1, flat0, flatI, Option.bind_some, putAll, M.bind])) ?_
      refine Wp.cond rfl (Wp.exit ?_)
      simp only [Ex.then, Ex.inBlock, if_true]
      have : l' = sinks ltT l (i + 1) := h1
      subst this
      refine Wp.rgn (K := 0) (fun n _ => by simp [evalRgn, Option.map_some, evalOps, step, wants, osem, M.run_bind, M.mapL, M.run, M.ok, M.fresh, M.write, M.look, M.lift, putD, Arb.set, ev, Arb.get, keepFr, bin, intBin, strBin, mk, params, cellsM, load, obRead, fadr, fld, isl, iarr, xarr, idx, len, valid, slc, bound, store, splice, nilc, un, eqs, eq0, evalFeet, footOf, M.foot, orderOk, apartAll, apart1, clash, meets, callM, fcallM, callee, fz1, fzC, fz, flat, flat1, flat0, flatI, Option.bind_some, putAll, M.bind]; rfl) ?_
      exact ⟨by simp [again, keepFr, get, nrm, nrmO, hw1], trivial⟩
    | succ j =>
      obtain ⟨y, hy⟩ : ∃ y, l'[j + 1]? = some y := ⟨_, List.getElem?_eq_getElem (by omega)⟩
      obtain ⟨x, hx⟩ : ∃ x, l'[j]? = some x := ⟨_, List.getElem?_eq_getElem (by omega)⟩
      obtain ⟨K, hK⟩ := p_lessT h88 h72 y x
      have hy' : l'[j + 1]'(by omega) = y := (List.getElem?_eq_some_iff.1 hy).2
      have hx' : l'[j]'(by omega) = x := (List.getElem?_eq_some_iff.1 hx).2
      have hj1 : j + 1 < l.length := by omega
      have hj0 : j < l.length := by omega
      have hj2 : (0 : Int) ≤ (j : Int) + 1 := by omega
      have hj3 : (j : Int) + 1 < l.length := by omega
      have hj4 : (j : Int) < l.length := by omega
      have hj5 : (0 : Int) < (j : Int) + 1 := by omega
      have hw : IntKind.wrap .i64 (j : Int) = j := IntWalk.i64_in _ (by unfold maxLen at hl; omega)
      refine Wp.rgn (K := K) (s' := ⟨[(0, .own 0 0 l.length v0), (1, .iv (.int .i64 0)), (2, .iv (.int .i64 l.length)), (6, .iv (.int .i64 ((i : Int) + 1))), (7, .iv (.int .i64 ((j + 1 : Nat) : Int))), (30, .iv (.bool (ltT y x)))], [(0, .buf v0 1 (l'.map st1))], 2472⟩) (fun n hn => rgn_quiet' rfl (by
        have hc := hK n hn
        simp [evalRgn, Option.map_some, evalOps, step, wants, osem, M.run_bind, M.mapL, M.run, M.ok, M.fresh, M.write, M.look, M.lift, putD, Arb.set, ev, Arb.get, keepFr, bin, intBin, strBin, mk, params, cellsM, load, obRead, fadr, fld, isl, iarr, xarr, idx, len, valid, slc, bound, store, splice, nilc, un, eqs, eq0, evalFeet, footOf, M.foot, orderOk, apartAll, apart1, clash, meets, callM, fcallM, callee, fz1, fzC, fz, flat, flat1, flat0, flatI, Option.bind_some, putAll, M.bind, hj1, hj0, hj2, hj3, hj4, hj5, hw, hy, hx, st1, hc])) ?_
      refine Wp.cond rfl ?_
      rw [sink, hy, hx] at h1
      simp only at h1
      cases hb : ltT y x with
      | false =>
        rw [hb, if_neg Bool.false_ne_true] at h1
        subst h1
        refine Wp.exit ?_
        simp only [Ex.then, Ex.inBlock, if_true]
        refine Wp.rgn (K := 0) (fun n _ => by simp [evalRgn, Option.map_some, evalOps, step, wants, osem, M.run_bind, M.mapL, M.run, M.ok, M.fresh, M.write, M.look, M.lift, putD, Arb.set, ev, Arb.get, keepFr, bin, intBin, strBin, mk, params, cellsM, load, obRead, fadr, fld, isl, iarr, xarr, idx, len, valid, slc, bound, store, splice, nilc, un, eqs, eq0, evalFeet, footOf, M.foot, orderOk, apartAll, apart1, clash, meets, callM, fcallM, callee, fz1, fzC, fz, flat, flat1, flat0, flatI, Option.bind_some, putAll, M.bind]; rfl) ?_
        exact ⟨by simp [again, keepFr, get, nrm, nrmO, hw1], trivial⟩
      | true =>
        rw [hb, if_pos rfl] at h1
        refine Wp.skip (Wp.seq (Wp.block ?_))
        refine Wp.rgn (K := 0) (s' := ⟨[(0, .own 0 0 l.length v0), (1, .iv (.int .i64 0)), (2, .iv (.int .i64 l.length)), (6, .iv (.int .i64 ((i : Int) + 1))), (7, .iv (.int .i64 ((j + 1 : Nat) : Int)))], [(0, .buf v0 1 (((l'.set (j + 1) x).set j y).map st1))], 3624⟩) (fun n hn => by
          simp [evalRgn, Option.map_some, evalOps, step, wants, osem, M.run_bind, M.mapL, M.run, M.ok, M.fresh, M.write, M.look, M.lift, putD, Arb.set, ev, Arb.get, keepFr, bin, intBin, strBin, mk, params, cellsM, load, obRead, fadr, fld, isl, iarr, xarr, idx, len, valid, slc, bound, store, splice, nilc, un, eqs, eq0, evalFeet, footOf, M.foot, orderOk, apartAll, apart1, clash, meets, callM, fcallM, callee, fz1, fzC, fz, flat, flat1, flat0, flatI, Option.bind_some, putAll, M.bind, hj1, hj0, hj2, hj3, hj4, hj5, hw, hy, hx, st1, h2, hx', hy']) ?_
        simp only [Ex.then, Ex.inBlock]
        refine Wp.rgn (K := 0) (fun n _ => by simp [evalRgn, Option.map_some, evalOps, step, wants, osem, M.run_bind, M.mapL, M.run, M.ok, M.fresh, M.write, M.look, M.lift, putD, Arb.set, ev, Arb.get, keepFr, bin, intBin, strBin, mk, params, cellsM, load, obRead, fadr, fld, isl, iarr, xarr, idx, len, valid, slc, bound, store, splice, nilc, un, eqs, eq0, evalFeet, footOf, M.foot, orderOk, apartAll, apart1, clash, meets, callM, fcallM, callee, fz1, fzC, fz, flat, flat1, flat0, flatI, Option.bind_some, putAll, M.bind]; rfl) ?_
        refine ⟨j, by omega, _, h1, by simp [h2], by omega, ?_⟩
        simp [again, keepFr, get, nrm, nrmO, hw]
  · intro _
    have hlt : ¬ ((l.length - 1 : Nat) : Int) + 1 < l.length := by omega
    refine Wp.seq (Wp.seq ?_)
    refine Wp.rgn (K := 0) (s' := ⟨[(0, .own 0 0 l.length v0), (1, .iv (.int .i64 0)), (2, .iv (.int .i64 l.length)), (6, .iv (.int .i64 (((l.length - 1 : Nat) : Int) + 1))), (12, .iv (.bool false))], [(0, .buf v0 1 ((isort ltT l).map st1))], 1384⟩) (fun n _ => by simp [evalRgn, Option.map_some, evalOps, step, wants, osem, M.run_bind, M.mapL, M.run, M.ok, M.fresh, M.write, M.look, M.lift, putD, Arb.set, ev, Arb.get, keepFr, bin, intBin, strBin, mk, params, cellsM, load, obRead, fadr, fld, isl, iarr, xarr, idx, len, valid, slc, bound, store, splice, nilc, un, eqs, eq0, evalFeet, footOf, M.foot, orderOk, apartAll, apart1, clash, meets, callM, fcallM, callee, fz1, fzC, fz, flat, flat1, flat0, flatI, Option.bind_some, putAll, M.bind, isort]; omega) ?_
    exact Wp.cond rfl (Wp.exit rfl)
end
end Arb

/-
  SORTING: rows of at most 12.
-/
set_option linter.unusedSimpArgs false
namespace Arb
open Go

structure Lib2 (prog : Nat → Option IFn) : Prop where
  h50 : prog 50 = some F50
  h51 : prog 51 = some F51
  h52 : prog 52 = some F52
  h55 : prog 55 = some F55
  h61 : prog 61 = some F61
  h62 : prog 62 = some F62
  h63 : prog 63 = some F63
  h65 : prog 65 = some F65
  h68 : prog 68 = some F68
  h70 : prog 70 = some F70
  h71 : prog 71 = some F71
  h72 : prog 72 = some F72
  h88 : prog 88 = some F88

section
variable {prog : Nat → Option IFn}

theorem p_pdqR (H : Lib2 prog) (l : List (Int × Int)) (hl : l.length ≤ 12) (v : Int) :
    Ev prog 61 [.own 0 0 l.length 0, .iv (.int .i64 0), .iv (.int .i64 l.length), .iv (.int .i64 v), .iv (.fn 51 [])] [(0, .buf 0 2 (l.map rng))] (.tup [], [(0, .buf 0 2 ((isort ltR l).map rng))]) := by
  obtain ⟨K, hK⟩ := p_isortR H.h63 H.h52 H.h51 H.h68 l (by unfold maxLen; omega)
  have hl' : (l.length : Int) ≤ 12 := by omega
  have hw : IntKind.wrap .i64 (l.length : Int) = l.length := IntWalk.i64_in _ (by omega)
  refine Ev.of H.h61 rfl rfl (Wp.seq ?_)
  refine Wp.rgn (K := 0) (fun n _ => by simp [evalRgn, Option.map_some, evalOps, step, wants, osem, M.run_bind, M.mapL, M.run, M.ok, M.fresh, M.write, M.look, M.lift, putD, Arb.set, ev, Arb.get, keepFr, bin, intBin, strBin, mk, params, cellsM, load, obRead, fadr, fld, isl, iarr, xarr, idx, len, valid, slc, bound, store, splice, nilc, un, eqs, eq0, evalFeet, footOf, M.foot, orderOk, apartAll, apart1, clash, meets, callM, fcallM, callee, fz1, fzC, fz, flat, flat1, flat0, flatI, Option.bind_some, putAll, M.bind]; rfl) ?_
  refine Wp.seq ?_
  refine Wp.rgn (K := 0) (fun n _ => by simp [evalRgn, Option.map_some, evalOps, step, wants, osem, M.run_bind, M.mapL, M.run, M.ok, M.fresh, M.write, M.look, M.lift, putD, Arb.set, ev, Arb.get, keepFr, bin, intBin, strBin, mk, params, cellsM, load, obRead, fadr, fld, isl, iarr, xarr, idx, len, valid, slc, bound, store, splice, nilc, un, eqs, eq0, evalFeet, footOf, M.foot, orderOk, apartAll, apart1, clash, meets, callM, fcallM, callee, fz1, fzC, fz, flat, flat1, flat0, flatI, Option.bind_some, putAll, M.bind]; rfl) ?_
  refine Wp.block ?_
  refine Wp.loop (fun _ s1 => s1 = ⟨[(0, .own 0 0 l.length 0), (1, .iv (.int .i64 0)), (2, .iv (.int .i64 l.length)), (3, .iv (.int .i64 v)), (4, .iv (.fn 51 [])), (10, .iv (.bool true)), (11, .iv (.bool true))], [(0, .buf 0 2 (l.map rng))], 1128⟩) (m := 0) (by simp [keepFr, get]) ?_
  rintro m s1 rfl
  refine Wp.block (Wp.seq ?_)
  refine Wp.rgn (K := 0) (fun n _ => by simp [evalRgn, Option.map_some, evalOps, step, wants, osem, M.run_bind, M.mapL, M.run, M.ok, M.fresh, M.write, M.look, M.lift, putD, Arb.set, ev, Arb.get, keepFr, bin, intBin, strBin, mk, params, cellsM, load, obRead, fadr, fld, isl, iarr, xarr, idx, len, valid, slc, bound, store, splice, nilc, un, eqs, eq0, evalFeet, footOf, M.foot, orderOk, apartAll, apart1, clash, meets, callM, fcallM, callee, fz1, fzC, fz, flat, flat1, flat0, flatI, Option.bind_some, putAll, M.bind, hw]; rfl) ?_
  refine Wp.seq (Wp.seq ?_)
  refine Wp.rgn (K := 0) (s' := ⟨[(0, .own 0 0 l.length 0), (1, .iv (.int .i64 0)), (2, .iv (.int .i64 l.length)), (3, .iv (.int .i64 v)), (4, .iv (.fn 51 [])), (10, .iv (.bool true)), (11, .iv (.bool true)), (12, .iv (.int .i64 l.length)), (25, .iv (.bool true))], [(0, .buf 0 2 (l.map rng))], 1512⟩) (fun n hn => by simp [evalRgn, Option.map_some, evalOps, step, wants, osem, M.run_bind, M.mapL, M.run, M.ok, M.fresh, M.write, M.look, M.lift, putD, Arb.set, ev, Arb.get, keepFr, bin, intBin, strBin, mk, params, cellsM, load, obRead, fadr, fld, isl, iarr, xarr, idx, len, valid, slc, bound, store, splice, nilc, un, eqs, eq0, evalFeet, footOf, M.foot, orderOk, apartAll, apart1, clash, meets, callM, fcallM, callee, fz1, fzC, fz, flat, flat1, flat0, flatI, Option.bind_some, putAll, M.bind, hl']) ?_
  refine Wp.cond rfl (Wp.seq ?_)
  refine Wp.rgn (K := K) (s' := ⟨[], [(0, .buf 0 2 ((isort ltR l).map rng))], 1832⟩) (fun n hn => by simp [evalRgn, Option.map_some, evalOps, step, wants, osem, M.run_bind, M.mapL, M.run, M.ok, M.fresh, M.write, M.look, M.lift, putD, Arb.set, ev, Arb.get, keepFr, bin, intBin, strBin, mk, params, cellsM, load, obRead, fadr, fld, isl, iarr, xarr, idx, len, valid, slc, bound, store, splice, nilc, un, eqs, eq0, evalFeet, footOf, M.foot, orderOk, apartAll, apart1, clash, meets, callM, fcallM, callee, fz1, fzC, fz, flat, flat1, flat0, flatI, Option.bind_some, putAll, M.bind, lcallM, callee, idsOf, List.flatMap, dedup, nodupB, lendA, place, lentOk, withPlaces, lentR, backAll, hK n hn]) ?_
  exact Wp.ret rfl

theorem p_sortR (H : Lib2 prog) (l : List (Int × Int)) (hl : l.length ≤ 12) :
    Ev prog 50 [.own 0 0 l.length 0, .iv (.fn 51 [])] [(0, .buf 0 2 (l.map rng))] (.tup [], [(0, .buf 0 2 ((isort ltR l).map rng))]) := by
  obtain ⟨v, K1, hK1⟩ := p_len H.h70 H.h62 (n := l.length) (by omega)
  obtain ⟨K, hK⟩ := p_pdqR H l hl v
  have hw : IntKind.wrap .u64 (l.length : Int) = l.length := by rw [IntKind.wrap_u64]; omega
  refine Ev.of H.h50 rfl rfl (Wp.seq ?_)
  refine Wp.rgn (K := 0) (fun n _ => by simp [evalRgn, Option.map_some, evalOps, step, wants, osem, M.run_bind, M.mapL, M.run, M.ok, M.fresh, M.write, M.look, M.lift, putD, Arb.set, ev, Arb.get, keepFr, bin, intBin, strBin, mk, params, cellsM, load, obRead, fadr, fld, isl, iarr, xarr, idx, len, valid, slc, bound, store, splice, nilc, un, eqs, eq0, evalFeet, footOf, M.foot, orderOk, apartAll, apart1, clash, meets, callM, fcallM, callee, fz1, fzC, fz, flat, flat1, flat0, flatI, Option.bind_some, putAll, M.bind]; rfl) ?_
  refine Wp.rgn (K := max K K1) (s' := ⟨[], [(0, .buf 0 2 ((isort ltR l).map rng))], 1640⟩) (fun n hn => by simp [evalRgn, Option.map_some, evalOps, step, wants, osem, M.run_bind, M.mapL, M.run, M.ok, M.fresh, M.write, M.look, M.lift, putD, Arb.set, ev, Arb.get, keepFr, bin, intBin, strBin, mk, params, cellsM, load, obRead, fadr, fld, isl, iarr, xarr, idx, len, valid, slc, bound, store, splice, nilc, un, eqs, eq0, evalFeet, footOf, M.foot, orderOk, apartAll, apart1, clash, meets, callM, fcallM, callee, fz1, fzC, fz, flat, flat1, flat0, flatI, Option.bind_some, putAll, M.bind, lcallM, callee, idsOf, List.flatMap, dedup, nodupB, lendA, place, lentOk, withPlaces, lentR, backAll, hw, hK1 n (by omega), hK n (by omega)]) ?_
  rfl

theorem p_pdqT (H : Lib2 prog) (v0 : Nat) (l : List ByteArray) (hl : l.length ≤ 12) (v : Int) :
    Ev prog 65 [.own 0 0 l.length v0, .iv (.int .i64 0), .iv (.int .i64 l.length), .iv (.int .i64 v)] [(0, .buf v0 1 (l.map st1))] (.tup [], [(0, .buf v0 1 ((isort ltT l).map st1))]) := by
  obtain ⟨K, hK⟩ := p_isortT H.h88 H.h72 H.h71 v0 l (by unfold maxLen; omega)
  have hl' : (l.length : Int) ≤ 12 := by omega
  have hw : IntKind.wrap .i64 (l.length : Int) = l.length := IntWalk.i64_in _ (by omega)
  refine Ev.of H.h65 rfl rfl (Wp.seq ?_)
  refine Wp.rgn (K := 0) (fun n _ => by simp [evalRgn, Option.map_some, evalOps, step, wants, osem, M.run_bind, M.mapL, M.run, M.ok, M.fresh, M.write, M.look, M.lift, putD, Arb.set, ev, Arb.get, keepFr, bin, intBin, strBin, mk, params, cellsM, load, obRead, fadr, fld, isl, iarr, xarr, idx, len, valid, slc, bound, store, splice, nilc, un, eqs, eq0, evalFeet, footOf, M.foot, orderOk, apartAll, apart1, clash, meets, callM, fcallM, callee, fz1, fzC, fz, flat, flat1, flat0, flatI, Option.bind_some, putAll, M.bind]; rfl) ?_
  refine Wp.seq ?_
  refine Wp.rgn (K := 0) (fun n _ => by simp [evalRgn, Option.map_some, evalOps, step, wants, osem, M.run_bind, M.mapL, M.run, M.ok, M.fresh, M.write, M.look, M.lift, putD, Arb.set, ev, Arb.get, keepFr, bin, intBin, strBin, mk, params, cellsM, load, obRead, fadr, fld, isl, iarr, xarr, idx, len, valid, slc, bound, store, splice, nilc, un, eqs, eq0, evalFeet, footOf, M.foot, orderOk, apartAll, apart1, clash, meets, callM, fcallM, callee, fz1, fzC, fz, flat, flat1, flat0, flatI, Option.bind_some, putAll, M.bind]; rfl) ?_
  refine Wp.block ?_
  refine Wp.loop (fun _ s1 => s1 = ⟨[(0, .own 0 0 l.length v0), (1, .iv (.int .i64 0)), (2, .iv (.int .i64 l.length)), (3, .iv (.int .i64 v)), (8, .iv (.bool true)), (9, .iv (.bool true))], [(0, .buf v0 1 (l.map st1))], 1128⟩) (m := 0) (by simp [keepFr, get]) ?_
  rintro m s1 rfl
  refine Wp.block (Wp.seq ?_)
  refine Wp.rgn (K := 0) (fun n _ => by simp [evalRgn, Option.map_some, evalOps, step, wants, osem, M.run_bind, M.mapL, M.run, M.ok, M.fresh, M.write, M.look, M.lift, putD, Arb.set, ev, Arb.get, keepFr, bin, intBin, strBin, mk, params, cellsM, load, obRead, fadr, fld, isl, iarr, xarr, idx, len, valid, slc, bound, store, splice, nilc, un, eqs, eq0, evalFeet, footOf, M.foot, orderOk, apartAll, apart1, clash, meets, callM, fcallM, callee, fz1, fzC, fz, flat, flat1, flat0, flatI, Option.bind_some, putAll, M.bind, hw]; rfl) ?_
  refine Wp.seq (Wp.seq ?_)
  refine Wp.rgn (K := 0) (s' := ⟨[(0, .own 0 0 l.length v0), (1, .iv (.int .i64 0)), (2, .iv (.int .i64 l.length)), (3, .iv (.int .i64 v)), (8, .iv (.bool true)), (9, .iv (.bool true)), (10, .iv (.int .i64 l.length)), (23, .iv (.bool true))], [(0, .buf v0 1 (l.map st1))], 1512⟩) (fun n hn => by simp [evalRgn, Option.map_some, evalOps, step, wants, osem, M.run_bind, M.mapL, M.run, M.ok, M.fresh, M.write, M.look, M.lift, putD, Arb.set, ev, Arb.get, keepFr, bin, intBin, strBin, mk, params, cellsM, load, obRead, fadr, fld, isl, iarr, xarr, idx, len, valid, slc, bound, store, splice, nilc, un, eqs, eq0, evalFeet, footOf, M.foot, orderOk, apartAll, apart1, clash, meets, callM, fcallM, callee, fz1, fzC, fz, flat, flat1, flat0, flatI, Option.bind_some, putAll, M.bind, hl']) ?_
  refine Wp.cond rfl (Wp.seq ?_)
  refine Wp.rgn (K := K) (s' := ⟨[], [(0, .buf v0 1 ((isort ltT l).map st1))], 1768⟩) (fun n hn => by simp [evalRgn, Option.map_some, evalOps, step, wants, osem, M.run_bind, M.mapL, M.run, M.ok, M.fresh, M.write, M.look, M.lift, putD, Arb.set, ev, Arb.get, keepFr, bin, intBin, strBin, mk, params, cellsM, load, obRead, fadr, fld, isl, iarr, xarr, idx, len, valid, slc, bound, store, splice, nilc, un, eqs, eq0, evalFeet, footOf, M.foot, orderOk, apartAll, apart1, clash, meets, callM, fcallM, callee, fz1, fzC, fz, flat, flat1, flat0, flatI, Option.bind_some, putAll, M.bind, lcallM, callee, idsOf, List.flatMap, dedup, nodupB, lendA, place, lentOk, withPlaces, lentR, backAll, hK n hn]) ?_
  exact Wp.ret rfl

theorem p_sortT (H : Lib2 prog) (v0 : Nat) (l : List ByteArray) (hl : l.length ≤ 12) :
    Ev prog 55 [.own 0 0 l.length v0] [(0, .buf v0 1 (l.map st1))] (.tup [], [(0, .buf v0 1 ((isort ltT l).map st1))]) := by
  obtain ⟨v, K1, hK1⟩ := p_len H.h70 H.h62 (n := l.length) (by omega)
  obtain ⟨K, hK⟩ := p_pdqT H v0 l hl v
  have hw : IntKind.wrap .u64 (l.length : Int) = l.length := by rw [IntKind.wrap_u64]; omega
  refine Ev.of H.h55 rfl rfl (Wp.seq ?_)
  refine Wp.rgn (K := 0) (fun n _ => by simp [evalRgn, Option.map_some, evalOps, step, wants, osem, M.run_bind, M.mapL, M.run, M.ok, M.fresh, M.write, M.look, M.lift, putD, Arb.set, ev, Arb.get, keepFr, bin, intBin, strBin, mk, params, cellsM, load, obRead, fadr, fld, isl, iarr, xarr, idx, len, valid, slc, bound, store, splice, nilc, un, eqs, eq0, evalFeet, footOf, M.foot, orderOk, apartAll, apart1, clash, meets, callM, fcallM, callee, fz1, fzC, fz, flat, flat1, flat0, flatI, Option.bind_some, putAll, M.bind]; rfl) ?_
  refine Wp.rgn (K := max K K1) (s' := ⟨[], [(0, .buf v0 1 ((isort ltT l).map st1))], 1576⟩) (fun n hn => by simp [evalRgn, Option.map_some, evalOps, step, wants, osem, M.run_bind, M.mapL, M.run, M.ok, M.fresh, M.write, M.look, M.lift, putD, Arb.set, ev, Arb.get, keepFr, bin, intBin, strBin, mk, params, cellsM, load, obRead, fadr, fld, isl, iarr, xarr, idx, len, valid, slc, bound, store, splice, nilc, un, eqs, eq0, evalFeet, footOf, M.foot, orderOk, apartAll, apart1, clash, meets, callM, fcallM, callee, fz1, fzC, fz, flat, flat1, flat0, flatI, Option.bind_some, putAll, M.bind, lcallM, callee, idsOf, List.flatMap, dedup, nodupB, lendA, place, lentOk, withPlaces, lentR, backAll, hw, hK1 n (by omega), hK n (by omega)]) ?_
  rfl
end
end Arb

/-
  slices.Compact OF STRINGS.
-/
set_option linter.unusedSimpArgs false
namespace Arb
open Go

/-- without what is as the one ahead of it: of the first j -/
def compTo (l : List ByteArray) : Nat → List ByteArray
  | 0 => []
  | j + 1 => match l[j]? with
    | none => compTo l j
    | some x => if 0 < j ∧ l[j - 1]? = some x then compTo l j else compTo l j ++ [x]
def comp (l : List ByteArray) : List ByteArray := compTo l l.length

theorem compTo_len (l : List ByteArray) : ∀ j, (compTo l j).length ≤ j
  | 0 => Nat.le_refl _
  | j + 1 => by
    have := compTo_len l j
    unfold compTo
    split
    · omega
    · split
      · omega
      · simp; omega

theorem comp_self {l : List ByteArray} (h : comp l = l) : (l.map st1).take (comp l).length = (comp l).map st1 := by
  rw [h, List.take_of_length_le (by simp)]

section
variable {prog : Nat → Option IFn}

theorem Ev.ofx {f : Nat} {fn : IFn} (hf : prog f = some fn) (hcl : fn.cl = none) {args : List AV} (hn : args.length = fn.np) {hp : Hp} (P : AV × Hp → Prop) (h : Wp prog fn.body ⟨params args 0, hp, 1000⟩ (fun e s => ∃ p, P p ∧ Fin fn.res p e s)) : ∃ p, P p ∧ Ev prog f args hp p := by
  obtain ⟨K, ex, s', h, p, hp, q⟩ := h
  exact ⟨p, hp, Ev.of hf hcl hn ⟨K, ex, s', h, q⟩⟩

set_option maxHeartbeats 2000000 in
theorem p_compact (h : prog 56 = some F56) (v0 : Nat) (l : List ByteArray) (hl : l.length ≤ maxLen) :
    ∃ p : AV × Hp, (∃ rows', rows'.take (comp l).length = (comp l).map st1 ∧ (comp l).length ≤ rows'.length ∧ p = (.own 0 0 (comp l).length v0, [(0, .buf v0 1 rows'), (1000, .buf 0 1 [])])) ∧ Ev prog 56 [.own 0 0 l.length v0] [(0, .buf v0 1 (l.map st1))] p := by
  refine Ev.ofx h rfl rfl _ (Wp.seq ?_)
  refine Wp.rgn (K := 0) (fun n _ => by simp [evalRgn, Option.map_some, evalOps, step, wants, osem, M.run_bind, M.mapL, M.run, M.ok, M.fresh, M.write, M.look, M.lift, putD, Arb.set, ev, Arb.get, keepFr, bin, intBin, strBin, mk, params, cellsM, load, obRead, fadr, fld, isl, iarr, xarr, idx, len, valid, slc, bound, store, splice, nilc, un, eqs, eq0, evalFeet, footOf, M.foot, orderOk, apartAll, apart1, clash, meets, callM, fcallM, callee, fz1, fzC, fz, flat, flat1, flat0, flatI, Option.bind_some, putAll, M.bind]; rfl) ?_
  refine Wp.seq (Wp.seq ?_)
  refine Wp.rgn (K := 0) (s' := ⟨[(0, .own 0 0 l.length v0), (8, .iv (.bool (decide (l.length < 2))))], [(0, .buf v0 1 (l.map st1)), (1000, .buf 0 1 [])], 1256⟩) (fun n _ => by
    have : decide ((l.length : Int) < 2) = decide (l.length < 2) := decide_eq_decide.2 (by omega)
    simp [evalRgn, Option.map_some, evalOps, step, wants, osem, M.run_bind, M.mapL, M.run, M.ok, M.fresh, M.write, M.look, M.lift, putD, Arb.set, ev, Arb.get, keepFr, bin, intBin, strBin, mk, params, cellsM, load, obRead, fadr, fld, isl, iarr, xarr, idx, len, valid, slc, bound, store, splice, nilc, un, eqs, eq0, evalFeet, footOf, M.foot, orderOk, apartAll, apart1, clash, meets, callM, fcallM, callee, fz1, fzC, fz, flat, flat1, flat0, flatI, Option.bind_some, putAll, M.bind, this]) ?_
  refine Wp.cond rfl ?_
  cases hs : decide (l.length < 2) with
  | true =>
    refine Wp.seq ?_
    refine Wp.rgn (K := 0) (fun n _ => by simp [evalRgn, Option.map_some, evalOps, step, wants, osem, M.run_bind, M.mapL, M.run, M.ok, M.fresh, M.write, M.look, M.lift, putD, Arb.set, ev, Arb.get, keepFr, bin, intBin, strBin, mk, params, cellsM, load, obRead, fadr, fld, isl, iarr, xarr, idx, len, valid, slc, bound, store, splice, nilc, un, eqs, eq0, evalFeet, footOf, M.foot, orderOk, apartAll, apart1, clash, meets, callM, fcallM, callee, fz1, fzC, fz, flat, flat1, flat0, flatI, Option.bind_some, putAll, M.bind]; rfl) ?_
    have hs := of_decide_eq_true hs
    have hc : comp l = l := by
      unfold comp
      match l, hs with
      | [], _ => rfl
      | [x], _ => rfl
    refine Wp.ret ⟨_, ⟨l.map st1, comp_self hc, by rw [hc]; simp, rfl⟩, ?_⟩
    rw [hc]; simp [Fin, F56, resAll, resM, outA, ev, get, M.look, M.bind, M.run, M.run_bind, M.ok]
  | false =>
    have hs := of_decide_eq_false hs
    refine Wp.skip (Wp.seq (Wp.seq ?_))
    refine Wp.rgn (K := 0) (fun n _ => by simp [evalRgn, Option.map_some, evalOps, step, wants, osem, M.run_bind, M.mapL, M.run, M.ok, M.fresh, M.write, M.look, M.lift, putD, Arb.set, ev, Arb.get, keepFr, bin, intBin, strBin, mk, params, cellsM, load, obRead, fadr, fld, isl, iarr, xarr, idx, len, valid, slc, bound, store, splice, nilc, un, eqs, eq0, evalFeet, footOf, M.foot, orderOk, apartAll, apart1, clash, meets, callM, fcallM, callee, fz1, fzC, fz, flat, flat1, flat0, flatI, Option.bind_some, putAll, M.bind]; rfl) ?_
    refine Wp.block ?_
    refine Wp.range (l.length - 1) (fun i => ⟨[(0, .own 0 0 l.length v0), (3, .iv (.int .i64 ((i : Int) + 1)))], [(0, .buf v0 1 (l.map st1)), (1000, .buf 0 1 [])], 1320⟩) (fun i => compTo l (i + 1) = l.take (i + 1)) (by simp [keepFr, get]) (by
      obtain ⟨x, hx⟩ : ∃ x, l[0]? = some x := ⟨_, List.getElem?_eq_getElem (by omega)⟩
      rw [compTo, hx, List.take_add_one, hx]; simp [compTo]) ?_ ?_
    · intro i hi hg
      have hi1 : (i : Int) + 1 < l.length := by omega
      have hi2 : (i : Int) < l.length := by omega
      have hi3 : (0 : Int) ≤ (i : Int) + 1 := by omega
      have hi4 : i + 1 < l.length := by omega
      have hi6 : (i : Int) + 1 ≤ l.length := by omega
      have hi5 : i < l.length := by omega
      have hw : IntKind.wrap .i64 (i : Int) = i := IntWalk.i64_in _ (by unfold maxLen at hl; omega)
      have hw1 : IntKind.wrap .i64 ((i : Int) + 1 + 1) = (i : Int) + 1 + 1 := IntWalk.i64_in _ (by unfold maxLen at hl; omega)
      obtain ⟨y, hy⟩ : ∃ y, l[i + 1]? = some y := ⟨_, List.getElem?_eq_getElem (by omega)⟩
      obtain ⟨x, hx⟩ : ∃ x, l[i]? = some x := ⟨_, List.getElem?_eq_getElem (by omega)⟩
      have hy' : l[i + 1]'(by omega) = y := (List.getElem?_eq_some_iff.1 hy).2
      have hx' : l[i]'(by omega) = x := (List.getElem?_eq_some_iff.1 hx).2
      refine Wp.seq (Wp.seq ?_)
      refine Wp.rgn (K := 0) (s' := ⟨[(0, .own 0 0 l.length v0), (3, .iv (.int .i64 ((i : Int) + 1))), (13, .iv (.bool true))], [(0, .buf v0 1 (l.map st1)), (1000, .buf 0 1 [])], 1576⟩) (fun n _ => by simp [evalRgn, Option.map_some, evalOps, step, wants, osem, M.run_bind, M.mapL, M.run, M.ok, M.fresh, M.write, M.look, M.lift, putD, Arb.set, ev, Arb.get, keepFr, bin, intBin, strBin, mk, params, cellsM, load, obRead, fadr, fld, isl, iarr, xarr, idx, len, valid, slc, bound, store, splice, nilc, un, eqs, eq0, evalFeet, footOf, M.foot, orderOk, apartAll, apart1, clash, meets, callM, fcallM, callee, fz1, fzC, fz, flat, flat1, flat0, flatI, Option.bind_some, putAll, M.bind, hi1]) ?_
      refine Wp.cond rfl (Wp.skip (Wp.seq (Wp.block (Wp.seq ?_))))
      refine Wp.rgn (K := 0) (s' := ⟨[(0, .own 0 0 l.length v0), (3, .iv (.int .i64 ((i : Int) + 1))), (25, .iv (.bool (y == x)))], [(0, .buf v0 1 (l.map st1)), (1000, .buf 0 1 [])], 2216⟩) (fun n _ => rgn_quiet' rfl (by simp [evalRgn, Option.map_some, evalOps, step, wants, osem, M.run_bind, M.mapL, M.run, M.ok, M.fresh, M.write, M.look, M.lift, putD, Arb.set, ev, Arb.get, keepFr, bin, intBin, strBin, mk, params, cellsM, load, obRead, fadr, fld, isl, iarr, xarr, idx, len, valid, slc, bound, store, splice, nilc, un, eqs, eq0, evalFeet, footOf, M.foot, orderOk, apartAll, apart1, clash, meets, callM, fcallM, callee, fz1, fzC, fz, flat, flat1, flat0, flatI, Option.bind_some, putAll, M.bind, hi1, hi2, hi3, hi4, hi5, hw, hx, hy, hx', hy', st1])) ?_
      refine Wp.cond rfl ?_
      cases hb : y == x with
      | false =>
        refine Wp.skip ?_
        refine Wp.rgn (K := 0) (fun n _ => by simp [evalRgn, Option.map_some, evalOps, step, wants, osem, M.run_bind, M.mapL, M.run, M.ok, M.fresh, M.write, M.look, M.lift, putD, Arb.set, ev, Arb.get, keepFr, bin, intBin, strBin, mk, params, cellsM, load, obRead, fadr, fld, isl, iarr, xarr, idx, len, valid, slc, bound, store, splice, nilc, un, eqs, eq0, evalFeet, footOf, M.foot, orderOk, apartAll, apart1, clash, meets, callM, fcallM, callee, fz1, fzC, fz, flat, flat1, flat0, flatI, Option.bind_some, putAll, M.bind]; rfl) ?_
        refine ⟨by simp [again, keepFr, get, nrm, nrmO, hw1], ?_⟩
        rw [compTo, hy, hg]
        rw [ba_beq, decide_eq_false_iff_not] at hb
        have : ¬ (0 < i + 1 ∧ l[i + 1 - 1]? = some y) := by
          rintro ⟨_, h2⟩
          rw [Nat.add_sub_cancel, hx] at h2
          exact hb (Option.some.inj h2).symm
        simp only [if_neg this]
        rw [List.take_add_one (i := i + 1), hy]; rfl
      | true =>
        rw [ba_beq, decide_eq_true_eq] at hb
        refine Wp.seq ?_
        refine Wp.rgn (K := 0) (s' := ⟨[(0, .own 0 0 l.length v0), (3, .iv (.int .i64 ((i : Int) + 1))), (4, .own 0 (i + 1) (l.length - (i + 1)) v0)], [(0, .buf v0 1 (l.map st1)), (1000, .buf 0 1 [])], 2472⟩) (fun n _ => by simp [evalRgn, Option.map_some, evalOps, step, wants, osem, M.run_bind, M.mapL, M.run, M.ok, M.fresh, M.write, M.look, M.lift, putD, Arb.set, ev, Arb.get, keepFr, bin, intBin, strBin, mk, params, cellsM, load, obRead, fadr, fld, isl, iarr, xarr, idx, len, valid, slc, bound, store, splice, nilc, un, eqs, eq0, evalFeet, footOf, M.foot, orderOk, apartAll, apart1, clash, meets, callM, fcallM, callee, fz1, fzC, fz, flat, flat1, flat0, flatI, Option.bind_some, putAll, M.bind, hi1, hi3, hi6]) ?_
        refine Wp.seq (Wp.seq ?_)
        refine Wp.rgn (K := 0) (fun n _ => by simp [evalRgn, Option.map_some, evalOps, step, wants, osem, M.run_bind, M.mapL, M.run, M.ok, M.fresh, M.write, M.look, M.lift, putD, Arb.set, ev, Arb.get, keepFr, bin, intBin, strBin, mk, params, cellsM, load, obRead, fadr, fld, isl, iarr, xarr, idx, len, valid, slc, bound, store, splice, nilc, un, eqs, eq0, evalFeet, footOf, M.foot, orderOk, apartAll, apart1, clash, meets, callM, fcallM, callee, fz1, fzC, fz, flat, flat1, flat0, flatI, Option.bind_some, putAll, M.bind]; rfl) ?_
        refine Wp.block ?_
        refine Wp.loop (fun m s1 => ∃ (j k : Nat) (cur : List ByteArray), j + m = l.length - (i + 1) ∧ 1 ≤ j ∧ cur.length = l.length ∧ (∀ t, i + j ≤ t → cur[t]? = l[t]?) ∧ k ≤ i + j ∧ cur.take k = compTo l (i + 1 + j) ∧
          s1 = ⟨[(0, .own 0 0 l.length v0), (3, .iv (.int .i64 (k : Int))), (4, .own 0 (i + 1) (l.length - (i + 1)) v0), (5, .iv (.int .i64 (j : Int)))], [(0, .buf v0 1 (cur.map st1)), (1000, .buf 0 1 [])], 2536⟩) (m := l.length - (i + 1) - 1) ?_ ?_
        · refine ⟨1, i + 1, l, by omega, Nat.le_refl _, rfl, fun _ _ => rfl, Nat.le_refl _, ?_, by simp [keepFr, get]⟩
          rw [compTo, hy, ← hg]
          simp only
          rw [if_pos ⟨Nat.succ_pos _, by rw [Nat.add_sub_cancel, hx, hb]⟩]
        · rintro m s1 ⟨j, k, cur, e1, e2, e3, e4, e5, e6, rfl⟩
          have hwk : IntKind.wrap .i64 ((k : Int) + 1) = (k : Int) + 1 := IntWalk.i64_in _ (by unfold maxLen at hl; omega)
          have hwj : IntKind.wrap .i64 ((j : Int) + 1) = (j : Int) + 1 := IntWalk.i64_in _ (by unfold maxLen at hl; omega)
          have hwj1 : IntKind.wrap .i64 ((j : Int) - 1) = ((j - 1 : Nat) : Int) := by rw [IntWalk.i64_in _ (by unfold maxLen at hl; omega)]; omega
          cases m with
          | zero =>
            have hj : ¬ (j : Int) < ((l.length - (i + 1) : Nat) : Int) := by omega
            refine Wp.seq (Wp.seq ?_)
            refine Wp.rgn (K := 0) (s' := ⟨[(0, .own 0 0 l.length v0), (3, .iv (.int .i64 (k : Int))), (4, .own 0 (i + 1) (l.length - (i + 1)) v0), (5, .iv (.int .i64 (j : Int))), (32, .iv (.bool false))], [(0, .buf v0 1 (cur.map st1)), (1000, .buf 0 1 [])], 2792⟩) (fun n _ => by simp [evalRgn, Option.map_some, evalOps, step, wants, osem, M.run_bind, M.mapL, M.run, M.ok, M.fresh, M.write, M.look, M.lift, putD, Arb.set, ev, Arb.get, keepFr, bin, intBin, strBin, mk, params, cellsM, load, obRead, fadr, fld, isl, iarr, xarr, idx, len, valid, slc, bound, store, splice, nilc, un, eqs, eq0, evalFeet, footOf, M.foot, orderOk, apartAll, apart1, clash, meets, callM, fcallM, callee, fz1, fzC, fz, flat, flat1, flat0, flatI, Option.bind_some, putAll, M.bind, hj]) ?_
            refine Wp.cond rfl (Wp.exit ?_)
            simp only [Ex.then, Ex.inBlock, if_true]
            have hk1 : (k : Int) ≤ l.length := by omega
            have hkn : k ≤ l.length := by omega
            refine Wp.seq ?_
            refine Wp.rgn (K := 0) (s' := ⟨[(0, .own 0 0 l.length v0), (3, .iv (.int .i64 (k : Int)))], [(0, .buf v0 1 ((cur.map st1).take k ++ List.replicate (l.length - k) [.str ⟨#[]⟩] ++ (cur.map st1).drop (k + (l.length - k)))), (1000, .buf 0 1 [])], 3048⟩) (fun n _ => by simp [evalRgn, Option.map_some, evalOps, step, wants, osem, M.run_bind, M.mapL, M.run, M.ok, M.fresh, M.write, M.look, M.lift, putD, Arb.set, ev, Arb.get, keepFr, bin, intBin, strBin, mk, params, cellsM, load, obRead, fadr, fld, isl, iarr, xarr, idx, len, valid, slc, bound, store, splice, nilc, un, eqs, eq0, evalFeet, footOf, M.foot, orderOk, apartAll, apart1, clash, meets, callM, fcallM, callee, fz1, fzC, fz, flat, flat1, flat0, flatI, Option.bind_some, putAll, M.bind, clr, hk1, hkn]) ?_
            refine Wp.seq ?_
            refine Wp.rgn (K := 0) (s' := ⟨[(2, .own 0 0 k v0)], [(0, .buf v0 1 ((cur.map st1).take k ++ List.replicate (l.length - k) [.str ⟨#[]⟩] ++ (cur.map st1).drop (k + (l.length - k)))), (1000, .buf 0 1 [])], 3304⟩) (fun n _ => by simp [evalRgn, Option.map_some, evalOps, step, wants, osem, M.run_bind, M.mapL, M.run, M.ok, M.fresh, M.write, M.look, M.lift, putD, Arb.set, ev, Arb.get, keepFr, bin, intBin, strBin, mk, params, cellsM, load, obRead, fadr, fld, isl, iarr, xarr, idx, len, valid, slc, bound, store, splice, nilc, un, eqs, eq0, evalFeet, footOf, M.foot, orderOk, apartAll, apart1, clash, meets, callM, fcallM, callee, fz1, fzC, fz, flat, flat1, flat0, flatI, Option.bind_some, putAll, M.bind, hk1, hkn]) ?_
            have hc : comp l = cur.take k := by rw [e6]; unfold comp; congr 1; omega
            have hk : (comp l).length = k := by rw [hc, List.length_take]; omega
            refine Wp.ret ⟨_, ⟨(cur.map st1).take k ++ List.replicate (l.length - k) [.str ⟨#[]⟩] ++ (cur.map st1).drop (k + (l.length - k)), ?_, ?_, rfl⟩, ?_⟩
            case refine_3 => rw [hk]; simp [Fin, F56, resAll, resM, outA, ev, get, M.look, M.bind, M.run, M.run_bind, M.ok]
            case refine_1 => rw [hk, hc, List.append_assoc, List.take_append_of_le_length (by simp; omega), List.map_take, List.take_take, Nat.min_self]
            case refine_2 => rw [hk]; simp; omega
          | succ m =>
            have hj : (j : Int) < ((l.length - (i + 1) : Nat) : Int) := by omega
            have hj1 : j < l.length - (i + 1) := by omega
            have hj2 : (((j - 1 : Nat) : Int)) < ((l.length - (i + 1) : Nat) : Int) := by omega
            have hj3 : i + 1 + (j - 1) = i + j := by omega
            have hj4 : j - 1 < l.length - (i + 1) := by omega
            obtain ⟨v, hv⟩ : ∃ v, l[i + 1 + j]? = some v := ⟨_, List.getElem?_eq_getElem (by omega)⟩
            obtain ⟨u, hu⟩ : ∃ u, l[i + j]? = some u := ⟨_, List.getElem?_eq_getElem (by omega)⟩
            have cv : cur[i + 1 + j]? = some v := by rw [e4 _ (by omega), hv]
            have cu : cur[i + j]? = some u := by rw [e4 _ (by omega), hu]
            have cv' : cur[i + 1 + j]'(by omega) = v := (List.getElem?_eq_some_iff.1 cv).2
            have cu' : cur[i + j]'(by omega) = u := (List.getElem?_eq_some_iff.1 cu).2
            refine Wp.seq (Wp.seq ?_)
            refine Wp.rgn (K := 0) (s' := ⟨[(0, .own 0 0 l.length v0), (3, .iv (.int .i64 (k : Int))), (4, .own 0 (i + 1) (l.length - (i + 1)) v0), (5, .iv (.int .i64 (j : Int))), (32, .iv (.bool true))], [(0, .buf v0 1 (cur.map st1)), (1000, .buf 0 1 [])], 2792⟩) (fun n _ => by simp [evalRgn, Option.map_some, evalOps, step, wants, osem, M.run_bind, M.mapL, M.run, M.ok, M.fresh, M.write, M.look, M.lift, putD, Arb.set, ev, Arb.get, keepFr, bin, intBin, strBin, mk, params, cellsM, load, obRead, fadr, fld, isl, iarr, xarr, idx, len, valid, slc, bound, store, splice, nilc, un, eqs, eq0, evalFeet, footOf, M.foot, orderOk, apartAll, apart1, clash, meets, callM, fcallM, callee, fz1, fzC, fz, flat, flat1, flat0, flatI, Option.bind_some, putAll, M.bind, hj]) ?_
            refine Wp.cond rfl (Wp.skip (Wp.seq (Wp.block (Wp.seq ?_))))
            refine Wp.rgn (K := 0) (s' := ⟨[(0, .own 0 0 l.length v0), (3, .iv (.int .i64 (k : Int))), (4, .own 0 (i + 1) (l.length - (i + 1)) v0), (5, .iv (.int .i64 (j : Int))), (44, .iv (.bool (!(v == u))))], [(0, .buf v0 1 (cur.map st1)), (1000, .buf 0 1 [])], 3432⟩) (fun n _ => rgn_quiet' rfl (by simp [evalRgn, Option.map_some, evalOps, step, wants, osem, M.run_bind, M.mapL, M.run, M.ok, M.fresh, M.write, M.look, M.lift, putD, Arb.set, ev, Arb.get, keepFr, bin, intBin, strBin, mk, params, cellsM, load, obRead, fadr, fld, isl, iarr, xarr, idx, len, valid, slc, bound, store, splice, nilc, un, eqs, eq0, evalFeet, footOf, M.foot, orderOk, apartAll, apart1, clash, meets, callM, fcallM, callee, fz1, fzC, fz, flat, flat1, flat0, flatI, Option.bind_some, putAll, M.bind, hj, hj1, hj2, hj3, hj4, hwj1, cv, cu, cv', cu', st1])) ?_
            refine Wp.cond rfl ?_
            cases hb2 : v == u with
            | true =>
              refine Wp.skip ?_
              simp only [Ex.then, Ex.inBlock]
              refine Wp.rgn (K := 0) (fun n _ => by simp [evalRgn, Option.map_some, evalOps, step, wants, osem, M.run_bind, M.mapL, M.run, M.ok, M.fresh, M.write, M.look, M.lift, putD, Arb.set, ev, Arb.get, keepFr, bin, intBin, strBin, mk, params, cellsM, load, obRead, fadr, fld, isl, iarr, xarr, idx, len, valid, slc, bound, store, splice, nilc, un, eqs, eq0, evalFeet, footOf, M.foot, orderOk, apartAll, apart1, clash, meets, callM, fcallM, callee, fz1, fzC, fz, flat, flat1, flat0, flatI, Option.bind_some, putAll, M.bind]; rfl) ?_
              refine ⟨m, by omega, j + 1, k, cur, by omega, by omega, e3, fun t ht => e4 t (by omega), by omega, ?_, by simp [again, keepFr, get, nrm, nrmO, hwj]⟩
              rw [ba_beq, decide_eq_true_eq] at hb2
              rw [e6, ← Nat.add_assoc, compTo, hv]
              simp only
              rw [if_pos ⟨by omega, by rw [show i + 1 + j - 1 = i + j by omega, hu, hb2]⟩]
            | false =>
              have hk1 : (k : Int) < l.length := by omega
              have hk2 : k < l.length := by omega
              refine Wp.seq ?_
              refine Wp.rgn (K := 0) (s' := ⟨[(0, .own 0 0 l.length v0), (3, .iv (.int .i64 (k : Int))), (4, .own 0 (i + 1) (l.length - (i + 1)) v0), (5, .iv (.int .i64 (j : Int)))], [(0, .buf v0 1 ((cur.set k v).map st1)), (1000, .buf 0 1 [])], 3944⟩) (fun n _ => by simp [evalRgn, Option.map_some, evalOps, step, wants, osem, M.run_bind, M.mapL, M.run, M.ok, M.fresh, M.write, M.look, M.lift, putD, Arb.set, ev, Arb.get, keepFr, bin, intBin, strBin, mk, params, cellsM, load, obRead, fadr, fld, isl, iarr, xarr, idx, len, valid, slc, bound, store, splice, nilc, un, eqs, eq0, evalFeet, footOf, M.foot, orderOk, apartAll, apart1, clash, meets, callM, fcallM, callee, fz1, fzC, fz, flat, flat1, flat0, flatI, Option.bind_some, putAll, M.bind, hj, hj1, hj2, hj3, hj4, hwj1, cv, cu, cv', cu', hk1, hk2, e3, st1]) ?_
              refine Wp.rgn (K := 0) (fun n _ => by simp [evalRgn, Option.map_some, evalOps, step, wants, osem, M.run_bind, M.mapL, M.run, M.ok, M.fresh, M.write, M.look, M.lift, putD, Arb.set, ev, Arb.get, keepFr, bin, intBin, strBin, mk, params, cellsM, load, obRead, fadr, fld, isl, iarr, xarr, idx, len, valid, slc, bound, store, splice, nilc, un, eqs, eq0, evalFeet, footOf, M.foot, orderOk, apartAll, apart1, clash, meets, callM, fcallM, callee, fz1, fzC, fz, flat, flat1, flat0, flatI, Option.bind_some, putAll, M.bind]; rfl) ?_
              simp only [Ex.then, Ex.inBlock]
              refine Wp.rgn (K := 0) (fun n _ => by simp [evalRgn, Option.map_some, evalOps, step, wants, osem, M.run_bind, M.mapL, M.run, M.ok, M.fresh, M.write, M.look, M.lift, putD, Arb.set, ev, Arb.get, keepFr, bin, intBin, strBin, mk, params, cellsM, load, obRead, fadr, fld, isl, iarr, xarr, idx, len, valid, slc, bound, store, splice, nilc, un, eqs, eq0, evalFeet, footOf, M.foot, orderOk, apartAll, apart1, clash, meets, callM, fcallM, callee, fz1, fzC, fz, flat, flat1, flat0, flatI, Option.bind_some, putAll, M.bind]; rfl) ?_
              refine ⟨m, by omega, j + 1, k + 1, cur.set k v, by omega, by omega, by simp [e3], fun t ht => by rw [List.getElem?_set_ne (by omega)]; exact e4 t (by omega), by omega, ?_, by simp [again, keepFr, get, nrm, nrmO, hwj, hwk]⟩
              rw [ba_beq, decide_eq_false_iff_not] at hb2
              rw [← Nat.add_assoc, compTo, hv]
              simp only
              rw [if_neg (by rintro ⟨_, h2⟩; rw [show i + 1 + j - 1 = i + j by omega, hu] at h2; exact hb2 (Option.some.inj h2).symm), ← e6, List.take_add_one]
              simp [List.take_set, List.getElem?_set, hk2, e3]
              exact List.set_eq_of_length_le (by simp; omega)
    · intro hg
      refine Wp.seq (Wp.seq ?_)
      have hn : ¬ ((l.length - 1 : Nat) : Int) + 1 < l.length := by omega
      refine Wp.rgn (K := 0) (s' := ⟨[(0, .own 0 0 l.length v0), (3, .iv (.int .i64 (((l.length - 1 : Nat) : Int) + 1))), (13, .iv (.bool false))], [(0, .buf v0 1 (l.map st1)), (1000, .buf 0 1 [])], 1576⟩) (fun n _ => by simp [evalRgn, Option.map_some, evalOps, step, wants, osem, M.run_bind, M.mapL, M.run, M.ok, M.fresh, M.write, M.look, M.lift, putD, Arb.set, ev, Arb.get, keepFr, bin, intBin, strBin, mk, params, cellsM, load, obRead, fadr, fld, isl, iarr, xarr, idx, len, valid, slc, bound, store, splice, nilc, un, eqs, eq0, evalFeet, footOf, M.foot, orderOk, apartAll, apart1, clash, meets, callM, fcallM, callee, fz1, fzC, fz, flat, flat1, flat0, flatI, Option.bind_some, putAll, M.bind, hn]) ?_
      refine Wp.cond rfl (Wp.exit ?_)
      simp only [Ex.then, Ex.inBlock, if_true]
      refine Wp.seq ?_
      refine Wp.rgn (K := 0) (fun n _ => by simp [evalRgn, Option.map_some, evalOps, step, wants, osem, M.run_bind, M.mapL, M.run, M.ok, M.fresh, M.write, M.look, M.lift, putD, Arb.set, ev, Arb.get, keepFr, bin, intBin, strBin, mk, params, cellsM, load, obRead, fadr, fld, isl, iarr, xarr, idx, len, valid, slc, bound, store, splice, nilc, un, eqs, eq0, evalFeet, footOf, M.foot, orderOk, apartAll, apart1, clash, meets, callM, fcallM, callee, fz1, fzC, fz, flat, flat1, flat0, flatI, Option.bind_some, putAll, M.bind]; rfl) ?_
      have hc : comp l = l := by
        unfold comp
        rw [show l.length - 1 + 1 = l.length by omega, List.take_length] at hg
        exact hg
      refine Wp.ret ⟨_, ⟨l.map st1, comp_self hc, by rw [hc]; simp, rfl⟩, ?_⟩
      rw [hc]; simp [Fin, F56, resAll, resM, outA, ev, get, M.look, M.bind, M.run, M.run_bind, M.ok]
end
end Arb
