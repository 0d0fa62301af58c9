/-
  WHICH EVENTS A FILTER HAS.
-/
import Derived.Test.YtiggikalagohaaaGreatArbA
import Derived.Test.YtiggikalagohaaaGreatArbB
import Derived.Test.YtiggikalagohaaaGreatArbC
import Derived.Test.YtiggikalagohaaaGreatArbD
import Derived.Test.YtiggikalagohaaaGreatArbE
set_option linter.unusedSimpArgs false
namespace Arb
open Go

theorem rightTo_false {e : E} {i : Nat} (h : rightV (e.get i) = false) : ∀ n, i < n → rightTo e n = false
  | 0, hn => absurd hn (Nat.not_lt_zero _)
  | n + 1, hn => by
    rw [rightTo]
    by_cases hi : i = n
    · subst hi; rw [h, Bool.and_false]
    · rw [rightTo_false h n (by omega), Bool.false_and]
theorem hasTo_false {b : B} {e : E} {i : Nat} (h : hasV (b.get i) (e.get i) = false) : ∀ n, i < n → hasTo b e n = false
  | 0, hn => absurd hn (Nat.not_lt_zero _)
  | n + 1, hn => by
    rw [hasTo]
    by_cases hi : i = n
    · subst hi; rw [h, Bool.and_false]
    · rw [hasTo_false h n (by omega), Bool.false_and]

section
variable {prog : Nat → Option IFn}

set_option maxHeartbeats 1000000 in
theorem p_rightE (h43 : prog 43 = some F43) (h : prog 34 = some F34) (e : E) : Ans prog 34 [e.av] (.iv (.bool (rightE e))) := by
  refine Ans.of h rfl rfl (Wp.seq ?_)
  refine Wp.rgn (K := 0) (s' := ⟨[(1, .ref 1000 0 0 0)], [(1000, .cells e.cs)], 1128⟩) (fun n _ => by simp [evalRgn, Option.map_some, evalOps, step, wants, osem, M.run_bind, M.mapL, M.run, M.ok, M.fresh, M.write, M.look, M.lift, putD, Arb.set, ev, Arb.get, keepFr, bin, intBin, strBin, mk, params, cellsM, load, obRead, fadr, fld, isl, iarr, xarr, idx, len, valid, slc, bound, store, splice, nilc, un, eqs, eq0, evalFeet, footOf, M.foot, orderOk, apartAll, apart1, clash, meets, callM, fcallM, callee, fz1, flat, flat1, flat0, flatI, Option.bind_some, putAll, M.bind, E.av, E.cs_nilc]) ?_
  refine Wp.seq (Wp.seq ?_)
  refine Wp.rgn (K := 0) (fun n _ => by simp [evalRgn, Option.map_some, evalOps, step, wants, osem, M.run_bind, M.mapL, M.run, M.ok, M.fresh, M.write, M.look, M.lift, putD, Arb.set, ev, Arb.get, keepFr, bin, intBin, strBin, mk, params, cellsM, load, obRead, fadr, fld, isl, iarr, xarr, idx, len, valid, slc, bound, store, splice, nilc, un, eqs, eq0, evalFeet, footOf, M.foot, orderOk, apartAll, apart1, clash, meets, callM, fcallM, callee, fz1, fzC, fz, flat, flat1, flat0, flatI, Option.bind_some, putAll, M.bind]; rfl) ?_
  refine Wp.block ?_
  refine Wp.range 4 (fun i => ⟨[(1, .ref 1000 0 0 0), (3, .iv (.int .i64 i))], [(1000, .cells e.cs)], 1192⟩) (fun i => rightTo e i = true) rfl rfl ?_ ?_
  · intro i hi hg
    have hi' : (i : Int) < 4 := by omega
    have hm : min 3 (12 - i * 3) = 3 := by omega
    refine Wp.seq (Wp.seq ?_)
    refine Wp.rgn (K := 0) (fun n _ => by simp [evalRgn, Option.map_some, evalOps, step, wants, osem, M.run_bind, M.mapL, M.run, M.ok, M.fresh, M.write, M.look, M.lift, putD, Arb.set, ev, Arb.get, keepFr, bin, intBin, strBin, mk, params, cellsM, load, obRead, fadr, fld, isl, iarr, xarr, idx, len, valid, slc, bound, store, splice, nilc, un, eqs, eq0, evalFeet, footOf, M.foot, orderOk, apartAll, apart1, clash, meets, callM, fcallM, callee, fz1, fzC, fz, flat, flat1, flat0, flatI, Option.bind_some, putAll, M.bind, hi']; rfl) ?_
    refine Wp.cond rfl (Wp.skip (Wp.seq (Wp.block (Wp.seq ?_))))
    obtain ⟨K, hK⟩ := p_rightV h43 (e.get i)
    refine Wp.rgn (K := K) (s' := ⟨[(1, .ref 1000 0 0 0), (3, .iv (.int .i64 i)), (12, .iv (.bool (!rightV (e.get i))))], [(1000, .cells e.cs)], 1640⟩) (fun n hn => by
      have e1 := hK n hn
      simp only [V.av] at e1
      generalize evalF prog n = g at e1
      simp [evalRgn, Option.map_some, evalOps, step, wants, osem, M.run_bind, M.mapL, M.run, M.ok, M.fresh, M.write, M.look, M.lift, putD, Arb.set, ev, Arb.get, keepFr, bin, intBin, strBin, mk, params, cellsM, load, obRead, fadr, fld, isl, iarr, xarr, idx, len, valid, slc, bound, store, splice, nilc, un, eqs, eq0, evalFeet, footOf, M.foot, orderOk, apartAll, apart1, clash, meets, callM, fcallM, callee, fz1, fzC, fz, flat, flat1, flat0, flatI, Option.bind_some, putAll, M.bind, hi', E.cs_at e hi, E.cs_len, hm, e1]) ?_
    refine Wp.cond rfl ?_
    cases hr : rightV (e.get i) with
    | false =>
      refine Wp.seq ?_
      refine Wp.rgn (K := 0) (fun n _ => by simp [evalRgn, Option.map_some, evalOps, step, wants, osem, M.run_bind, M.mapL, M.run, M.ok, M.fresh, M.write, M.look, M.lift, putD, Arb.set, ev, Arb.get, keepFr, bin, intBin, strBin, mk, params, cellsM, load, obRead, fadr, fld, isl, iarr, xarr, idx, len, valid, slc, bound, store, splice, nilc, un, eqs, eq0, evalFeet, footOf, M.foot, orderOk, apartAll, apart1, clash, meets, callM, fcallM, callee, fz1, fzC, fz, flat, flat1, flat0, flatI, Option.bind_some, putAll, M.bind]; rfl) ?_
      refine Wp.ret ?_
      rw [show rightE e = false from rightTo_false hr 4 hi]; rfl
    | true =>
      refine Wp.skip ?_
      refine Wp.rgn (K := 0) (fun n _ => by simp [evalRgn, Option.map_some, evalOps, step, wants, osem, M.run_bind, M.mapL, M.run, M.ok, M.fresh, M.write, M.look, M.lift, putD, Arb.set, ev, Arb.get, keepFr, bin, intBin, strBin, mk, params, cellsM, load, obRead, fadr, fld, isl, iarr, xarr, idx, len, valid, slc, bound, store, splice, nilc, un, eqs, eq0, evalFeet, footOf, M.foot, orderOk, apartAll, apart1, clash, meets, callM, fcallM, callee, fz1, fzC, fz, flat, flat1, flat0, flatI, Option.bind_some, putAll, M.bind]; rfl) ?_
      refine ⟨by simp [again, keepFr, get, nrm_iv, nrm_ref_cells, nrmO, E.cs_nrm, wrap_lt4 hi], ?_⟩
      rw [rightTo, hg, hr]; rfl
  · intro hg
    refine Wp.seq (Wp.seq ?_)
    refine Wp.rgn (K := 0) (fun n _ => by simp [evalRgn, Option.map_some, evalOps, step, wants, osem, M.run_bind, M.mapL, M.run, M.ok, M.fresh, M.write, M.look, M.lift, putD, Arb.set, ev, Arb.get, keepFr, bin, intBin, strBin, mk, params, cellsM, load, obRead, fadr, fld, isl, iarr, xarr, idx, len, valid, slc, bound, store, splice, nilc, un, eqs, eq0, evalFeet, footOf, M.foot, orderOk, apartAll, apart1, clash, meets, callM, fcallM, callee, fz1, fzC, fz, flat, flat1, flat0, flatI, Option.bind_some, putAll, M.bind]; rfl) ?_
    refine Wp.cond rfl (Wp.exit ?_)
    simp only [Ex.then, Ex.inBlock, if_true]
    refine Wp.seq ?_
    refine Wp.rgn (K := 0) (fun n _ => by simp [evalRgn, Option.map_some, evalOps, step, wants, osem, M.run_bind, M.mapL, M.run, M.ok, M.fresh, M.write, M.look, M.lift, putD, Arb.set, ev, Arb.get, keepFr, bin, intBin, strBin, mk, params, cellsM, load, obRead, fadr, fld, isl, iarr, xarr, idx, len, valid, slc, bound, store, splice, nilc, un, eqs, eq0, evalFeet, footOf, M.foot, orderOk, apartAll, apart1, clash, meets, callM, fcallM, callee, fz1, fzC, fz, flat, flat1, flat0, flatI, Option.bind_some, putAll, M.bind]; rfl) ?_
    refine Wp.ret ?_
    rw [show rightE e = true from hg]; rfl

structure Has3 (prog : Nat → Option IFn) : Prop where
  h35 : prog 35 = some F35
  h43 : prog 43 = some F43
  h48 : prog 48 = some F48
  h49 : prog 49 = some F49

set_option maxHeartbeats 1000000 in
theorem p_hasV (H : Has3 prog) (x : S) (v : V) (hi : x.i.length ≤ maxLen) (hs : x.s.length ≤ maxLen) : Ans prog 35 [x.av, v.av] (.iv (.bool (hasV x v))) := by
  obtain ⟨K1, hK1⟩ := p_rightV H.h43 v
  refine Ans.of H.h35 rfl rfl (Wp.seq ?_)
  refine Wp.rgn (K := 0) (fun n _ => by simp [evalRgn, Option.map_some, evalOps, step, wants, osem, M.run_bind, M.mapL, M.run, M.ok, M.fresh, M.write, M.look, M.lift, putD, Arb.set, ev, Arb.get, keepFr, bin, intBin, strBin, mk, params, cellsM, load, obRead, fadr, fld, isl, iarr, xarr, idx, len, valid, slc, bound, store, splice, nilc, un, eqs, eq0, evalFeet, footOf, M.foot, orderOk, apartAll, apart1, clash, meets, callM, fcallM, callee, fz1, fzC, fz, flat, flat1, flat0, flatI, Option.bind_some, putAll, M.bind, S.av, V.av]; rfl) ?_
  refine Wp.seq (Wp.seq ?_)
  refine Wp.rgn (K := K1) (s' := ⟨[(2, .ref 1000 0 0 0), (3, .ref 1064 0 0 0), (7, .iv (.bool (!rightV v)))], [(1000, .cells [.iv (.bool x.a), .iv (.sl 2 (x.i.map rng)), .iv (.bool x.c), .iv (.sl 1 (x.s.map st1))]), (1064, .cells [.iv (.int .i64 v.k), .iv (.int .i64 v.n), .iv (.str v.s)])], 1384⟩) (fun n hn => by
    have e1 := hK1 n hn
    simp only [V.av] at e1
    generalize evalF prog n = g at e1
    simp [evalRgn, Option.map_some, evalOps, step, wants, osem, M.run_bind, M.mapL, M.run, M.ok, M.fresh, M.write, M.look, M.lift, putD, Arb.set, ev, Arb.get, keepFr, bin, intBin, strBin, mk, params, cellsM, load, obRead, fadr, fld, isl, iarr, xarr, idx, len, valid, slc, bound, store, splice, nilc, un, eqs, eq0, evalFeet, footOf, M.foot, orderOk, apartAll, apart1, clash, meets, callM, fcallM, callee, fz1, fzC, fz, flat, flat1, flat0, flatI, Option.bind_some, putAll, M.bind, e1]) ?_
  unfold hasV
  refine Wp.cond rfl ?_
  cases hr : rightV v with
  | false =>
    refine Wp.seq ?_
    refine Wp.rgn (K := 0) (fun n _ => by simp [evalRgn, Option.map_some, evalOps, step, wants, osem, M.run_bind, M.mapL, M.run, M.ok, M.fresh, M.write, M.look, M.lift, putD, Arb.set, ev, Arb.get, keepFr, bin, intBin, strBin, mk, params, cellsM, load, obRead, fadr, fld, isl, iarr, xarr, idx, len, valid, slc, bound, store, splice, nilc, un, eqs, eq0, evalFeet, footOf, M.foot, orderOk, apartAll, apart1, clash, meets, callM, fcallM, callee, fz1, fzC, fz, flat, flat1, flat0, flatI, Option.bind_some, putAll, M.bind]; rfl) ?_
    exact Wp.ret rfl
  | true =>
    refine Wp.skip (Wp.seq (Wp.seq ?_))
    refine Wp.rgn (K := 0) (fun n _ => by simp [evalRgn, Option.map_some, evalOps, step, wants, osem, M.run_bind, M.mapL, M.run, M.ok, M.fresh, M.write, M.look, M.lift, putD, Arb.set, ev, Arb.get, keepFr, bin, intBin, strBin, mk, params, cellsM, load, obRead, fadr, fld, isl, iarr, xarr, idx, len, valid, slc, bound, store, splice, nilc, un, eqs, eq0, evalFeet, footOf, M.foot, orderOk, apartAll, apart1, clash, meets, callM, fcallM, callee, fz1, fzC, fz, flat, flat1, flat0, flatI, Option.bind_some, putAll, M.bind]; rfl) ?_
    refine Wp.block (Wp.seq ?_)
    refine Wp.rgn (K := 0) (fun n _ => by simp [evalRgn, Option.map_some, evalOps, step, wants, osem, M.run_bind, M.mapL, M.run, M.ok, M.fresh, M.write, M.look, M.lift, putD, Arb.set, ev, Arb.get, keepFr, bin, intBin, strBin, mk, params, cellsM, load, obRead, fadr, fld, isl, iarr, xarr, idx, len, valid, slc, bound, store, splice, nilc, un, eqs, eq0, evalFeet, footOf, M.foot, orderOk, apartAll, apart1, clash, meets, callM, fcallM, callee, fz1, fzC, fz, flat, flat1, flat0, flatI, Option.bind_some, putAll, M.bind]; rfl) ?_
    refine Wp.cond rfl ?_
    cases h0 : v.k == 0 with
    | true =>
      refine Wp.seq ?_
      refine Wp.rgn (K := 0) (fun n _ => by simp [evalRgn, Option.map_some, evalOps, step, wants, osem, M.run_bind, M.mapL, M.run, M.ok, M.fresh, M.write, M.look, M.lift, putD, Arb.set, ev, Arb.get, keepFr, bin, intBin, strBin, mk, params, cellsM, load, obRead, fadr, fld, isl, iarr, xarr, idx, len, valid, slc, bound, store, splice, nilc, un, eqs, eq0, evalFeet, footOf, M.foot, orderOk, apartAll, apart1, clash, meets, callM, fcallM, callee, fz1, fzC, fz, flat, flat1, flat0, flatI, Option.bind_some, putAll, M.bind]; rfl) ?_
      exact Wp.ret rfl
    | false =>
      refine Wp.seq ?_
      refine Wp.rgn (K := 0) (fun n _ => by simp [evalRgn, Option.map_some, evalOps, step, wants, osem, M.run_bind, M.mapL, M.run, M.ok, M.fresh, M.write, M.look, M.lift, putD, Arb.set, ev, Arb.get, keepFr, bin, intBin, strBin, mk, params, cellsM, load, obRead, fadr, fld, isl, iarr, xarr, idx, len, valid, slc, bound, store, splice, nilc, un, eqs, eq0, evalFeet, footOf, M.foot, orderOk, apartAll, apart1, clash, meets, callM, fcallM, callee, fz1, fzC, fz, flat, flat1, flat0, flatI, Option.bind_some, putAll, M.bind]; rfl) ?_
      refine Wp.cond rfl ?_
      cases h1 : v.k == 1 with
      | true =>
        obtain ⟨K2, hK2⟩ := p_hasI H.h48 x.i v.n hi
        refine Wp.seq ?_
        refine Wp.rgn (K := K2) (fun n hn => by
          have e1 := hK2 n hn
          generalize evalF prog n = g at e1
          simp [evalRgn, Option.map_some, evalOps, step, wants, osem, M.run_bind, M.mapL, M.run, M.ok, M.fresh, M.write, M.look, M.lift, putD, Arb.set, ev, Arb.get, keepFr, bin, intBin, strBin, mk, params, cellsM, load, obRead, fadr, fld, isl, iarr, xarr, idx, len, valid, slc, bound, store, splice, nilc, un, eqs, eq0, evalFeet, footOf, M.foot, orderOk, apartAll, apart1, clash, meets, callM, fcallM, callee, fz1, fzC, fz, flat, flat1, flat0, flatI, Option.bind_some, putAll, M.bind, e1]
          rfl) ?_
        exact Wp.ret rfl
      | false =>
        refine Wp.skip ?_
        simp only [Ex.then, Ex.inBlock]
        obtain ⟨K3, hK3⟩ := p_hasT H.h49 x.s v.s hs
        refine Wp.seq ?_
        refine Wp.rgn (K := K3) (fun n hn => rgn_quiet' rfl (by
          have e1 := hK3 n hn
          generalize evalF prog n = g at e1
          simp [evalRgn, Option.map_some, evalOps, step, wants, osem, M.run_bind, M.mapL, M.run, M.ok, M.fresh, M.write, M.look, M.lift, putD, Arb.set, ev, Arb.get, keepFr, bin, intBin, strBin, mk, params, cellsM, load, obRead, fadr, fld, isl, iarr, xarr, idx, len, valid, slc, bound, store, splice, nilc, un, eqs, eq0, evalFeet, footOf, M.foot, orderOk, apartAll, apart1, clash, meets, callM, fcallM, callee, fz1, fzC, fz, flat, flat1, flat0, flatI, Option.bind_some, putAll, M.bind, e1]
          rfl)) ?_
        refine Wp.ret ?_
        simp [FinS, F35, resAll, resM, outA, ev, get, M.run, shut, fzA, fz1, fzC, fz, M.run_bind, M.bind]
        cases hasT x.s v.s <;> cases x.c <;> rfl

set_option maxHeartbeats 1000000 in
theorem p_hasB (H : Has3 prog) (h34 : prog 34 = some F34) (h : prog 20 = some F20) (b : B) (e : E) (hb : b.fits) : Ans prog 20 [b.av, e.av] (.iv (.bool (hasB b e))) := by
  obtain ⟨K1, hK1⟩ := p_rightE H.h43 h34 e
  refine Ans.of h rfl rfl (Wp.seq ?_)
  refine Wp.rgn (K := 0) (s' := ⟨[(2, .ref 1000 0 0 0), (3, .ref 1064 0 0 0)], [(1000, .cells b.cs), (1064, .cells e.cs)], 1192⟩) (fun n _ => by simp [evalRgn, Option.map_some, evalOps, step, wants, osem, M.run_bind, M.mapL, M.run, M.ok, M.fresh, M.write, M.look, M.lift, putD, Arb.set, ev, Arb.get, keepFr, bin, intBin, strBin, mk, params, cellsM, load, obRead, fadr, fld, isl, iarr, xarr, idx, len, valid, slc, bound, store, splice, nilc, un, eqs, eq0, evalFeet, footOf, M.foot, orderOk, apartAll, apart1, clash, meets, callM, fcallM, callee, fz1, flat, flat1, flat0, flatI, Option.bind_some, putAll, M.bind, B.av, B.cs_nilc, E.av, E.cs_nilc]) ?_
  refine Wp.seq (Wp.seq ?_)
  refine Wp.rgn (K := K1) (s' := ⟨[(2, .ref 1000 0 0 0), (3, .ref 1064 0 0 0), (8, .iv (.bool (!rightE e)))], [(1000, .cells b.cs), (1064, .cells e.cs)], 1384⟩) (fun n hn => by
    have e1 := hK1 n hn
    simp only [E.av] at e1
    generalize evalF prog n = g at e1
    simp [evalRgn, Option.map_some, evalOps, step, wants, osem, M.run_bind, M.mapL, M.run, M.ok, M.fresh, M.write, M.look, M.lift, putD, Arb.set, ev, Arb.get, keepFr, bin, intBin, strBin, mk, params, cellsM, load, obRead, fadr, fld, isl, iarr, xarr, idx, len, valid, slc, bound, store, splice, nilc, un, eqs, eq0, evalFeet, footOf, M.foot, orderOk, apartAll, apart1, clash, meets, callM, fcallM, callee, fz1, flat, flat1, flat0, flatI, Option.bind_some, putAll, M.bind, E.cs_12, E.cs_len, E.cs_fzC, e1]) ?_
  unfold hasB
  refine Wp.cond rfl ?_
  cases hr : rightE e with
  | false =>
    refine Wp.seq ?_
    refine Wp.rgn (K := 0) (fun n _ => by simp [evalRgn, Option.map_some, evalOps, step, wants, osem, M.run_bind, M.mapL, M.run, M.ok, M.fresh, M.write, M.look, M.lift, putD, Arb.set, ev, Arb.get, keepFr, bin, intBin, strBin, mk, params, cellsM, load, obRead, fadr, fld, isl, iarr, xarr, idx, len, valid, slc, bound, store, splice, nilc, un, eqs, eq0, evalFeet, footOf, M.foot, orderOk, apartAll, apart1, clash, meets, callM, fcallM, callee, fz1, fzC, fz, flat, flat1, flat0, flatI, Option.bind_some, putAll, M.bind]; rfl) ?_
    exact Wp.ret rfl
  | true =>
    refine Wp.skip (Wp.seq (Wp.seq ?_))
    refine Wp.rgn (K := 0) (fun n _ => by simp [evalRgn, Option.map_some, evalOps, step, wants, osem, M.run_bind, M.mapL, M.run, M.ok, M.fresh, M.write, M.look, M.lift, putD, Arb.set, ev, Arb.get, keepFr, bin, intBin, strBin, mk, params, cellsM, load, obRead, fadr, fld, isl, iarr, xarr, idx, len, valid, slc, bound, store, splice, nilc, un, eqs, eq0, evalFeet, footOf, M.foot, orderOk, apartAll, apart1, clash, meets, callM, fcallM, callee, fz1, fzC, fz, flat, flat1, flat0, flatI, Option.bind_some, putAll, M.bind]; rfl) ?_
    refine Wp.block ?_
    refine Wp.range 4 (fun i => ⟨[(2, .ref 1000 0 0 0), (3, .ref 1064 0 0 0), (5, .iv (.int .i64 i))], [(1000, .cells b.cs), (1064, .cells e.cs)], 1448⟩) (fun i => hasTo b e i = true) rfl rfl ?_ ?_
    · intro i hi hg
      have hi' : (i : Int) < 4 := by omega
      have hm : min 3 (12 - i * 3) = 3 := by omega
      have hm2 : min 4 (16 - i * 4) = 4 := by omega
      refine Wp.seq (Wp.seq ?_)
      refine Wp.rgn (K := 0) (fun n _ => by simp [evalRgn, Option.map_some, evalOps, step, wants, osem, M.run_bind, M.mapL, M.run, M.ok, M.fresh, M.write, M.look, M.lift, putD, Arb.set, ev, Arb.get, keepFr, bin, intBin, strBin, mk, params, cellsM, load, obRead, fadr, fld, isl, iarr, xarr, idx, len, valid, slc, bound, store, splice, nilc, un, eqs, eq0, evalFeet, footOf, M.foot, orderOk, apartAll, apart1, clash, meets, callM, fcallM, callee, fz1, fzC, fz, flat, flat1, flat0, flatI, Option.bind_some, putAll, M.bind, hi']; rfl) ?_
      refine Wp.cond rfl (Wp.skip (Wp.seq (Wp.block (Wp.seq ?_))))
      obtain ⟨K, hK⟩ := p_hasV H (b.get i) (e.get i) (hb i hi).1 (hb i hi).2
      refine Wp.rgn (K := K) (s' := ⟨[(2, .ref 1000 0 0 0), (3, .ref 1064 0 0 0), (5, .iv (.int .i64 i)), (20, .iv (.bool (!hasV (b.get i) (e.get i))))], [(1000, .cells b.cs), (1064, .cells e.cs)], 2088⟩) (fun n hn => rgn_quiet' rfl (by
        have e1 := hK n hn
        simp only [V.av, S.av] at e1
        generalize evalF prog n = g at e1
        simp [evalRgn, Option.map_some, evalOps, step, wants, osem, M.run_bind, M.mapL, M.run, M.ok, M.fresh, M.write, M.look, M.lift, putD, Arb.set, ev, Arb.get, keepFr, bin, intBin, strBin, mk, params, cellsM, load, obRead, fadr, fld, isl, iarr, xarr, idx, len, valid, slc, bound, store, splice, nilc, un, eqs, eq0, evalFeet, footOf, M.foot, orderOk, apartAll, apart1, clash, meets, callM, fcallM, callee, fz1, fzC, fz, flat, flat1, flat0, flatI, Option.bind_some, putAll, M.bind, hi', E.cs_at e hi, E.cs_len, hm, hm2, B.cs_at b hi, B.cs_len, e1])) ?_
      refine Wp.cond rfl ?_
      cases hr : hasV (b.get i) (e.get i) with
      | false =>
        refine Wp.seq ?_
        refine Wp.rgn (K := 0) (fun n _ => by simp [evalRgn, Option.map_some, evalOps, step, wants, osem, M.run_bind, M.mapL, M.run, M.ok, M.fresh, M.write, M.look, M.lift, putD, Arb.set, ev, Arb.get, keepFr, bin, intBin, strBin, mk, params, cellsM, load, obRead, fadr, fld, isl, iarr, xarr, idx, len, valid, slc, bound, store, splice, nilc, un, eqs, eq0, evalFeet, footOf, M.foot, orderOk, apartAll, apart1, clash, meets, callM, fcallM, callee, fz1, fzC, fz, flat, flat1, flat0, flatI, Option.bind_some, putAll, M.bind]; rfl) ?_
        refine Wp.ret ?_
        rw [hasTo_false hr 4 hi]; rfl
      | true =>
        refine Wp.skip ?_
        refine Wp.rgn (K := 0) (fun n _ => by simp [evalRgn, Option.map_some, evalOps, step, wants, osem, M.run_bind, M.mapL, M.run, M.ok, M.fresh, M.write, M.look, M.lift, putD, Arb.set, ev, Arb.get, keepFr, bin, intBin, strBin, mk, params, cellsM, load, obRead, fadr, fld, isl, iarr, xarr, idx, len, valid, slc, bound, store, splice, nilc, un, eqs, eq0, evalFeet, footOf, M.foot, orderOk, apartAll, apart1, clash, meets, callM, fcallM, callee, fz1, fzC, fz, flat, flat1, flat0, flatI, Option.bind_some, putAll, M.bind]; rfl) ?_
        refine ⟨by simp [again, keepFr, get, nrm_iv, nrm_ref_cells, nrmO, E.cs_nrm, B.cs_nrm, wrap_lt4 hi], ?_⟩
        rw [hasTo, hg, hr]; rfl
    · intro hg
      refine Wp.seq (Wp.seq ?_)
      refine Wp.rgn (K := 0) (fun n _ => by simp [evalRgn, Option.map_some, evalOps, step, wants, osem, M.run_bind, M.mapL, M.run, M.ok, M.fresh, M.write, M.look, M.lift, putD, Arb.set, ev, Arb.get, keepFr, bin, intBin, strBin, mk, params, cellsM, load, obRead, fadr, fld, isl, iarr, xarr, idx, len, valid, slc, bound, store, splice, nilc, un, eqs, eq0, evalFeet, footOf, M.foot, orderOk, apartAll, apart1, clash, meets, callM, fcallM, callee, fz1, fzC, fz, flat, flat1, flat0, flatI, Option.bind_some, putAll, M.bind]; rfl) ?_
      refine Wp.cond rfl (Wp.exit ?_)
      simp only [Ex.then, Ex.inBlock, if_true]
      refine Wp.seq ?_
      refine Wp.rgn (K := 0) (fun n _ => by simp [evalRgn, Option.map_some, evalOps, step, wants, osem, M.run_bind, M.mapL, M.run, M.ok, M.fresh, M.write, M.look, M.lift, putD, Arb.set, ev, Arb.get, keepFr, bin, intBin, strBin, mk, params, cellsM, load, obRead, fadr, fld, isl, iarr, xarr, idx, len, valid, slc, bound, store, splice, nilc, un, eqs, eq0, evalFeet, footOf, M.foot, orderOk, apartAll, apart1, clash, meets, callM, fcallM, callee, fz1, fzC, fz, flat, flat1, flat0, flatI, Option.bind_some, putAll, M.bind]; rfl) ?_
      refine Wp.ret ?_
      rw [hg]; rfl

set_option maxHeartbeats 1000000 in
theorem p_hasF (H : Has3 prog) (h34 : prog 34 = some F34) (h20 : prog 20 = some F20) (h : prog 8 = some F8) (f : List B) (e : E) (hl : f.length ≤ maxLen) (hf : ∀ b ∈ f, b.fits) : Ans prog 8 [filt f, e.av] (.iv (.bool (hasF f e))) := by
  refine Ans.of h rfl rfl (Wp.seq ?_)
  refine Wp.rgn (K := 0) (s' := ⟨[(0, filt f), (3, .ref 1000 0 0 0)], [(1000, .cells e.cs)], 1128⟩) (fun n _ => by simp [evalRgn, Option.map_some, evalOps, step, wants, osem, M.run_bind, M.mapL, M.run, M.ok, M.fresh, M.write, M.look, M.lift, putD, Arb.set, ev, Arb.get, keepFr, bin, intBin, strBin, mk, params, cellsM, load, obRead, fadr, fld, isl, iarr, xarr, idx, len, valid, slc, bound, store, splice, nilc, un, eqs, eq0, evalFeet, footOf, M.foot, orderOk, apartAll, apart1, clash, meets, callM, fcallM, callee, fz1, flat, flat1, flat0, flatI, Option.bind_some, putAll, M.bind, E.av, E.cs_nilc]) ?_
  refine Wp.seq (Wp.seq ?_)
  refine Wp.rgn (K := 0) (fun n _ => by simp [evalRgn, Option.map_some, evalOps, step, wants, osem, M.run_bind, M.mapL, M.run, M.ok, M.fresh, M.write, M.look, M.lift, putD, Arb.set, ev, Arb.get, keepFr, bin, intBin, strBin, mk, params, cellsM, load, obRead, fadr, fld, isl, iarr, xarr, idx, len, valid, slc, bound, store, splice, nilc, un, eqs, eq0, evalFeet, footOf, M.foot, orderOk, apartAll, apart1, clash, meets, callM, fcallM, callee, fz1, fzC, fz, flat, flat1, flat0, flatI, Option.bind_some, putAll, M.bind]; rfl) ?_
  refine Wp.block ?_
  refine Wp.range f.length (fun i => ⟨[(0, filt f), (3, .ref 1000 0 0 0), (5, .iv (.int .i64 i))], [(1000, .cells e.cs)], 1192⟩) (fun i => hasF (f.take i) e = false) rfl (by simp [hasF]) ?_ ?_
  · intro i hi hg
    have hi' : (i : Int) < f.length := by omega
    obtain ⟨b, hb⟩ : ∃ x, f[i]? = some x := ⟨_, List.getElem?_eq_getElem hi⟩
    refine Wp.seq (Wp.seq ?_)
    refine Wp.rgn (K := 0) (fun n _ => by simp [evalRgn, Option.map_some, evalOps, step, wants, osem, M.run_bind, M.mapL, M.run, M.ok, M.fresh, M.write, M.look, M.lift, putD, Arb.set, ev, Arb.get, keepFr, bin, intBin, strBin, mk, params, cellsM, load, obRead, fadr, fld, isl, iarr, xarr, idx, len, valid, slc, bound, store, splice, nilc, un, eqs, eq0, evalFeet, footOf, M.foot, orderOk, apartAll, apart1, clash, meets, callM, fcallM, callee, fz1, fzC, fz, flat, flat1, flat0, flatI, Option.bind_some, putAll, M.bind, filt, hi]; rfl) ?_
    refine Wp.cond rfl (Wp.skip (Wp.seq (Wp.block (Wp.seq ?_))))
    obtain ⟨K, hK⟩ := p_hasB H h34 h20 b e (hf b (List.mem_of_getElem? hb))
    refine Wp.rgn (K := K) (s' := ⟨[(0, filt f), (3, .ref 1000 0 0 0), (5, .iv (.int .i64 i)), (17, .iv (.bool (hasB b e)))], [(1000, .cells e.cs)], 1832⟩) (fun n hn => rgn_quiet' rfl (by
      have e1 := hK n hn
      simp only [B.av, E.av] at e1
      generalize evalF prog n = g at e1
      simp [evalRgn, Option.map_some, evalOps, step, wants, osem, M.run_bind, M.mapL, M.run, M.ok, M.fresh, M.write, M.look, M.lift, putD, Arb.set, ev, Arb.get, keepFr, bin, intBin, strBin, mk, params, cellsM, load, obRead, fadr, fld, isl, iarr, xarr, idx, len, valid, slc, bound, store, splice, nilc, un, eqs, eq0, evalFeet, footOf, M.foot, orderOk, apartAll, apart1, clash, meets, callM, fcallM, callee, fz1, flat, flat1, flat0, flatI, Option.bind_some, putAll, M.bind, filt, hb, E.cs_12, E.cs_len, E.cs_fzC, B.enc_take, B.enc_len, B.enc_cs, B.cs_fzC, e1])) ?_
    refine Wp.cond rfl ?_
    cases hh : hasB b e with
    | true =>
      refine Wp.seq ?_
      refine Wp.rgn (K := 0) (fun n _ => by simp [evalRgn, Option.map_some, evalOps, step, wants, osem, M.run_bind, M.mapL, M.run, M.ok, M.fresh, M.write, M.look, M.lift, putD, Arb.set, ev, Arb.get, keepFr, bin, intBin, strBin, mk, params, cellsM, load, obRead, fadr, fld, isl, iarr, xarr, idx, len, valid, slc, bound, store, splice, nilc, un, eqs, eq0, evalFeet, footOf, M.foot, orderOk, apartAll, apart1, clash, meets, callM, fcallM, callee, fz1, fzC, fz, flat, flat1, flat0, flatI, Option.bind_some, putAll, M.bind]; rfl) ?_
      refine Wp.ret ?_
      rw [show hasF f e = true from any_true hb hh]; rfl
    | false =>
      refine Wp.skip ?_
      refine Wp.rgn (K := 0) (fun n _ => by simp [evalRgn, Option.map_some, evalOps, step, wants, osem, M.run_bind, M.mapL, M.run, M.ok, M.fresh, M.write, M.look, M.lift, putD, Arb.set, ev, Arb.get, keepFr, bin, intBin, strBin, mk, params, cellsM, load, obRead, fadr, fld, isl, iarr, xarr, idx, len, valid, slc, bound, store, splice, nilc, un, eqs, eq0, evalFeet, footOf, M.foot, orderOk, apartAll, apart1, clash, meets, callM, fcallM, callee, fz1, fzC, fz, flat, flat1, flat0, flatI, Option.bind_some, putAll, M.bind]; rfl) ?_
      refine ⟨by simp [again, keepFr, get, nrm_iv, nrm_ref_cells, nrmO, E.cs_nrm, filt, wrap_succ hi hl], ?_⟩
      unfold hasF at hg ⊢
      rw [take_succ_any hb, hg, hh]; rfl
  · intro hg
    rw [List.take_length] at hg
    refine Wp.seq (Wp.seq ?_)
    refine Wp.rgn (K := 0) (fun n _ => by simp [evalRgn, Option.map_some, evalOps, step, wants, osem, M.run_bind, M.mapL, M.run, M.ok, M.fresh, M.write, M.look, M.lift, putD, Arb.set, ev, Arb.get, keepFr, bin, intBin, strBin, mk, params, cellsM, load, obRead, fadr, fld, isl, iarr, xarr, idx, len, valid, slc, bound, store, splice, nilc, un, eqs, eq0, evalFeet, footOf, M.foot, orderOk, apartAll, apart1, clash, meets, callM, fcallM, callee, fz1, fzC, fz, flat, flat1, flat0, flatI, Option.bind_some, putAll, M.bind, filt]; rfl) ?_
    refine Wp.cond rfl (Wp.exit ?_)
    simp only [Ex.then, Ex.inBlock, if_true]
    refine Wp.seq ?_
    refine Wp.rgn (K := 0) (fun n _ => by simp [evalRgn, Option.map_some, evalOps, step, wants, osem, M.run_bind, M.mapL, M.run, M.ok, M.fresh, M.write, M.look, M.lift, putD, Arb.set, ev, Arb.get, keepFr, bin, intBin, strBin, mk, params, cellsM, load, obRead, fadr, fld, isl, iarr, xarr, idx, len, valid, slc, bound, store, splice, nilc, un, eqs, eq0, evalFeet, footOf, M.foot, orderOk, apartAll, apart1, clash, meets, callM, fcallM, callee, fz1, fzC, fz, flat, flat1, flat0, flatI, Option.bind_some, putAll, M.bind]; rfl) ?_
    refine Wp.ret ?_
    rw [hg]; rfl
end
end Arb

/-
  HOW FAR AN EVENT IS, as it is computed.
-/
set_option linter.unusedSimpArgs false
namespace Arb
open Go

def apartI (a b : Int) : Int := if b < a then IntKind.wrap .u64 (IntKind.wrap .u64 a - IntKind.wrap .u64 b) else IntKind.wrap .u64 (IntKind.wrap .u64 b - IntKind.wrap .u64 a)
def mnU (a b : Int) : Int := if b < a then b else a
def nearTo (n : Int) : List (Int × Int) → Int → Int
  | [], m => m
  | p :: r, m => nearTo n r (if decide (p.1 ≤ p.2) then mnU m (mnU (apartI p.1 n) (apartI p.2 n)) else m)
def distV (x : S) (v : V) : Int := if hasV x v then 0 else if v.k != 1 || !rightV v then far else nearTo v.n x.i far
def distTo (b : B) (e : E) : Nat → Int
  | 0 => 0
  | i + 1 => addF (distTo b e i) (distV (b.get i) (e.get i))
def distB (b : B) (e : E) : Int := distTo b e 4
def distFrom (e : E) : List B → Int → Int
  | [], m => m
  | b :: r, m => distFrom e r (mnU m (distB b e))
def distF (f : List B) (e : E) : Int := distFrom e f far

theorem nearTo_snoc (n : Int) (p : Int × Int) : ∀ (l : List (Int × Int)) (m : Int), nearTo n (l ++ [p]) m = if decide (p.1 ≤ p.2) then mnU (nearTo n l m) (mnU (apartI p.1 n) (apartI p.2 n)) else nearTo n l m
  | [], m => rfl
  | q :: l, m => by rw [List.cons_append, nearTo, nearTo, nearTo_snoc n p l]
theorem distFrom_snoc (e : E) (b : B) : ∀ (l : List B) (m : Int), distFrom e (l ++ [b]) m = mnU (distFrom e l m) (distB b e)
  | [], m => rfl
  | q :: l, m => by rw [List.cons_append, distFrom, distFrom, distFrom_snoc e b l]

section
variable {prog : Nat → Option IFn}

theorem p_apart (h : prog 44 = some F44) (a b : Int) : Ans prog 44 [.iv (.int .i64 a), .iv (.int .i64 b)] (.iv (.int .u64 (apartI a b))) := by
  refine Ans.of h rfl rfl (Wp.seq ?_)
  refine Wp.rgn (K := 0) (fun n _ => by simp [evalRgn, Option.map_some, evalOps, step, wants, osem, M.run_bind, M.mapL, M.run, M.ok, M.fresh, M.write, M.look, M.lift, putD, Arb.set, ev, Arb.get, keepFr, bin, intBin, strBin, mk, params, cellsM, load, obRead, fadr, fld, isl, iarr, xarr, idx, len, valid, slc, bound, store, splice, nilc, un, eqs, eq0, evalFeet, footOf, M.foot, orderOk, apartAll, apart1, clash, meets, callM, fcallM, callee, fz1, fzC, fz, flat, flat1, flat0, flatI, Option.bind_some, putAll, M.bind]; rfl) ?_
  refine Wp.seq (Wp.seq ?_)
  refine Wp.rgn (K := 0) (fun n _ => by simp [evalRgn, Option.map_some, evalOps, step, wants, osem, M.run_bind, M.mapL, M.run, M.ok, M.fresh, M.write, M.look, M.lift, putD, Arb.set, ev, Arb.get, keepFr, bin, intBin, strBin, mk, params, cellsM, load, obRead, fadr, fld, isl, iarr, xarr, idx, len, valid, slc, bound, store, splice, nilc, un, eqs, eq0, evalFeet, footOf, M.foot, orderOk, apartAll, apart1, clash, meets, callM, fcallM, callee, fz1, fzC, fz, flat, flat1, flat0, flatI, Option.bind_some, putAll, M.bind]; rfl) ?_
  refine Wp.cond rfl ?_
  unfold apartI
  cases hd : decide (a > b) with
  | true =>
    rw [if_pos (of_decide_eq_true hd)]
    refine Wp.rgn (K := 0) (fun n _ => by simp [evalRgn, Option.map_some, evalOps, step, wants, osem, M.run_bind, M.mapL, M.run, M.ok, M.fresh, M.write, M.look, M.lift, putD, Arb.set, ev, Arb.get, keepFr, bin, intBin, strBin, mk, params, cellsM, load, obRead, fadr, fld, isl, iarr, xarr, idx, len, valid, slc, bound, store, splice, nilc, un, eqs, eq0, evalFeet, footOf, M.foot, orderOk, apartAll, apart1, clash, meets, callM, fcallM, callee, fz1, fzC, fz, flat, flat1, flat0, flatI, Option.bind_some, putAll, M.bind]; rfl) ?_
    simp only [Ex.then]
    refine Wp.seq ?_
    refine Wp.rgn (K := 0) (fun n _ => by simp [evalRgn, Option.map_some, evalOps, step, wants, osem, M.run_bind, M.mapL, M.run, M.ok, M.fresh, M.write, M.look, M.lift, putD, Arb.set, ev, Arb.get, keepFr, bin, intBin, strBin, mk, params, cellsM, load, obRead, fadr, fld, isl, iarr, xarr, idx, len, valid, slc, bound, store, splice, nilc, un, eqs, eq0, evalFeet, footOf, M.foot, orderOk, apartAll, apart1, clash, meets, callM, fcallM, callee, fz1, fzC, fz, flat, flat1, flat0, flatI, Option.bind_some, putAll, M.bind]; rfl) ?_
    exact Wp.ret rfl
  | false =>
    rw [if_neg (of_decide_eq_false hd)]
    refine Wp.skip ?_
    simp only [Ex.then]
    refine Wp.seq ?_
    refine Wp.rgn (K := 0) (fun n _ => by simp [evalRgn, Option.map_some, evalOps, step, wants, osem, M.run_bind, M.mapL, M.run, M.ok, M.fresh, M.write, M.look, M.lift, putD, Arb.set, ev, Arb.get, keepFr, bin, intBin, strBin, mk, params, cellsM, load, obRead, fadr, fld, isl, iarr, xarr, idx, len, valid, slc, bound, store, splice, nilc, un, eqs, eq0, evalFeet, footOf, M.foot, orderOk, apartAll, apart1, clash, meets, callM, fcallM, callee, fz1, fzC, fz, flat, flat1, flat0, flatI, Option.bind_some, putAll, M.bind]; rfl) ?_
    exact Wp.ret rfl

structure Dist (prog : Nat → Option IFn) : Prop extends Has3 prog where
  h28 : prog 28 = some F28
  h29 : prog 29 = some F29
  h44 : prog 44 = some F44

set_option maxHeartbeats 2000000 in
theorem p_distV (H : Dist prog) (x : S) (v : V) (hi : x.i.length ≤ maxLen) (hs : x.s.length ≤ maxLen) : Ans prog 29 [x.av, v.av] (.iv (.int .u64 (distV x v))) := by
  obtain ⟨K1, hK1⟩ := p_hasV H.toHas3 x v hi hs
  obtain ⟨K2, hK2⟩ := p_rightV H.h43 v
  refine Ans.of H.h29 rfl rfl (Wp.seq ?_)
  refine Wp.rgn (K := 0) (fun n _ => by simp [evalRgn, Option.map_some, evalOps, step, wants, osem, M.run_bind, M.mapL, M.run, M.ok, M.fresh, M.write, M.look, M.lift, putD, Arb.set, ev, Arb.get, keepFr, bin, intBin, strBin, mk, params, cellsM, load, obRead, fadr, fld, isl, iarr, xarr, idx, len, valid, slc, bound, store, splice, nilc, un, eqs, eq0, evalFeet, footOf, M.foot, orderOk, apartAll, apart1, clash, meets, callM, fcallM, callee, fz1, fzC, fz, flat, flat1, flat0, flatI, Option.bind_some, putAll, M.bind, S.av, V.av]; rfl) ?_
  refine Wp.seq (Wp.seq ?_)
  refine Wp.rgn (K := K1) (s' := ⟨[(2, .ref 1000 0 0 0), (3, .ref 1064 0 0 0), (9, .iv (.bool (hasV x v)))], [(1000, .cells [.iv (.bool x.a), .iv (.sl 2 (x.i.map rng)), .iv (.bool x.c), .iv (.sl 1 (x.s.map st1))]), (1064, .cells [.iv (.int .i64 v.k), .iv (.int .i64 v.n), .iv (.str v.s)])], 1384⟩) (fun n hn => by
    have e1 := hK1 n hn
    simp only [V.av, S.av] at e1
    generalize evalF prog n = g at e1
    simp [evalRgn, Option.map_some, evalOps, step, wants, osem, M.run_bind, M.mapL, M.run, M.ok, M.fresh, M.write, M.look, M.lift, putD, Arb.set, ev, Arb.get, keepFr, bin, intBin, strBin, mk, params, cellsM, load, obRead, fadr, fld, isl, iarr, xarr, idx, len, valid, slc, bound, store, splice, nilc, un, eqs, eq0, evalFeet, footOf, M.foot, orderOk, apartAll, apart1, clash, meets, callM, fcallM, callee, fz1, fzC, fz, flat, flat1, flat0, flatI, Option.bind_some, putAll, M.bind, e1]) ?_
  unfold distV
  refine Wp.cond rfl ?_
  cases hh : hasV x v with
  | true =>
    refine Wp.seq ?_
    refine Wp.rgn (K := 0) (fun n _ => by simp [evalRgn, Option.map_some, evalOps, step, wants, osem, M.run_bind, M.mapL, M.run, M.ok, M.fresh, M.write, M.look, M.lift, putD, Arb.set, ev, Arb.get, keepFr, bin, intBin, strBin, mk, params, cellsM, load, obRead, fadr, fld, isl, iarr, xarr, idx, len, valid, slc, bound, store, splice, nilc, un, eqs, eq0, evalFeet, footOf, M.foot, orderOk, apartAll, apart1, clash, meets, callM, fcallM, callee, fz1, fzC, fz, flat, flat1, flat0, flatI, Option.bind_some, putAll, M.bind]; rfl) ?_
    exact Wp.ret rfl
  | false =>
    refine Wp.skip (Wp.seq ?_)
    refine Wp.rgn (K := 0) (fun n _ => by simp [evalRgn, Option.map_some, evalOps, step, wants, osem, M.run_bind, M.mapL, M.run, M.ok, M.fresh, M.write, M.look, M.lift, putD, Arb.set, ev, Arb.get, keepFr, bin, intBin, strBin, mk, params, cellsM, load, obRead, fadr, fld, isl, iarr, xarr, idx, len, valid, slc, bound, store, splice, nilc, un, eqs, eq0, evalFeet, footOf, M.foot, orderOk, apartAll, apart1, clash, meets, callM, fcallM, callee, fz1, fzC, fz, flat, flat1, flat0, flatI, Option.bind_some, putAll, M.bind]; rfl) ?_
    refine Wp.seq (Wp.seq ?_)
    refine Wp.rgn (K := K2) (s' := ⟨[(2, .ref 1000 0 0 0), (3, .ref 1064 0 0 0), (5, .iv (.int .u64 far)), (17, .iv (.bool (v.k != 1 || !rightV v)))], [(1000, .cells [.iv (.bool x.a), .iv (.sl 2 (x.i.map rng)), .iv (.bool x.c), .iv (.sl 1 (x.s.map st1))]), (1064, .cells [.iv (.int .i64 v.k), .iv (.int .i64 v.n), .iv (.str v.s)])], 1960⟩) (fun n hn => by
      have e1 := hK2 n hn
      simp only [V.av] at e1
      generalize evalF prog n = g at e1
      cases h1 : v.k != 1 <;> simp [evalRgn, Option.map_some, evalOps, step, wants, osem, M.run_bind, M.mapL, M.run, M.ok, M.fresh, M.write, M.look, M.lift, putD, Arb.set, ev, Arb.get, keepFr, bin, intBin, strBin, mk, params, cellsM, load, obRead, fadr, fld, isl, iarr, xarr, idx, len, valid, slc, bound, store, splice, nilc, un, eqs, eq0, evalFeet, footOf, M.foot, orderOk, apartAll, apart1, clash, meets, callM, fcallM, callee, fz1, fzC, fz, flat, flat1, flat0, flatI, Option.bind_some, putAll, M.bind, e1, h1, far]) ?_
    refine Wp.cond rfl ?_
    cases hk : v.k != 1 || !rightV v with
    | true =>
      refine Wp.seq ?_
      refine Wp.rgn (K := 0) (fun n _ => by simp [evalRgn, Option.map_some, evalOps, step, wants, osem, M.run_bind, M.mapL, M.run, M.ok, M.fresh, M.write, M.look, M.lift, putD, Arb.set, ev, Arb.get, keepFr, bin, intBin, strBin, mk, params, cellsM, load, obRead, fadr, fld, isl, iarr, xarr, idx, len, valid, slc, bound, store, splice, nilc, un, eqs, eq0, evalFeet, footOf, M.foot, orderOk, apartAll, apart1, clash, meets, callM, fcallM, callee, fz1, fzC, fz, flat, flat1, flat0, flatI, Option.bind_some, putAll, M.bind]; rfl) ?_
      exact Wp.ret rfl
    | false =>
      refine Wp.skip (Wp.seq (Wp.seq ?_))
      refine Wp.rgn (K := 0) (fun n _ => by simp [evalRgn, Option.map_some, evalOps, step, wants, osem, M.run_bind, M.mapL, M.run, M.ok, M.fresh, M.write, M.look, M.lift, putD, Arb.set, ev, Arb.get, keepFr, bin, intBin, strBin, mk, params, cellsM, load, obRead, fadr, fld, isl, iarr, xarr, idx, len, valid, slc, bound, store, splice, nilc, un, eqs, eq0, evalFeet, footOf, M.foot, orderOk, apartAll, apart1, clash, meets, callM, fcallM, callee, fz1, fzC, fz, flat, flat1, flat0, flatI, Option.bind_some, putAll, M.bind]; rfl) ?_
      refine Wp.block ?_
      refine Wp.range x.i.length (fun i => ⟨[(2, .ref 1000 0 0 0), (3, .ref 1064 0 0 0), (5, .iv (.int .u64 (nearTo v.n (x.i.take i) far))), (6, .iv (.int .i64 i))], [(1000, .cells [.iv (.bool x.a), .iv (.sl 2 (x.i.map rng)), .iv (.bool x.c), .iv (.sl 1 (x.s.map st1))]), (1064, .cells [.iv (.int .i64 v.k), .iv (.int .i64 v.n), .iv (.str v.s)])], 2024⟩) (fun _ => True) rfl trivial ?_ ?_
      · intro i hi' _
        have hi2 : (i : Int) < x.i.length := by omega
        obtain ⟨p, hp⟩ : ∃ p, x.i[i]? = some p := ⟨_, List.getElem?_eq_getElem hi'⟩
        have hnext : nearTo v.n (x.i.take (i + 1)) far = if decide (p.1 ≤ p.2) then mnU (nearTo v.n (x.i.take i) far) (mnU (apartI p.1 v.n) (apartI p.2 v.n)) else nearTo v.n (x.i.take i) far := by
          rw [List.take_add_one, hp]; exact nearTo_snoc _ _ _ _
        rw [hnext]
        generalize nearTo v.n (x.i.take i) far = m
        refine Wp.seq (Wp.seq ?_)
        refine Wp.rgn (K := 0) (fun n _ => by simp [evalRgn, Option.map_some, evalOps, step, wants, osem, M.run_bind, M.mapL, M.run, M.ok, M.fresh, M.write, M.look, M.lift, putD, Arb.set, ev, Arb.get, keepFr, bin, intBin, strBin, mk, params, cellsM, load, obRead, fadr, fld, isl, iarr, xarr, idx, len, valid, slc, bound, store, splice, nilc, un, eqs, eq0, evalFeet, footOf, M.foot, orderOk, apartAll, apart1, clash, meets, callM, fcallM, callee, fz1, fzC, fz, flat, flat1, flat0, flatI, Option.bind_some, putAll, M.bind, hi']; rfl) ?_
        refine Wp.cond rfl (Wp.skip (Wp.seq (Wp.block (Wp.seq ?_))))
        refine Wp.rgn (K := 0) (s' := ⟨[(2, .ref 1000 0 0 0), (3, .ref 1064 0 0 0), (5, .iv (.int .u64 m)), (6, .iv (.int .i64 i)), (38, .iv (.bool (decide (p.1 ≤ p.2))))], [(1000, .cells [.iv (.bool x.a), .iv (.sl 2 (x.i.map rng)), .iv (.bool x.c), .iv (.sl 1 (x.s.map st1))]), (1064, .cells [.iv (.int .i64 v.k), .iv (.int .i64 v.n), .iv (.str v.s)])], 3176⟩) (fun n _ => rgn_quiet' rfl (by simp [evalRgn, Option.map_some, evalOps, step, wants, osem, M.run_bind, M.mapL, M.run, M.ok, M.fresh, M.write, M.look, M.lift, putD, Arb.set, ev, Arb.get, keepFr, bin, intBin, strBin, mk, params, cellsM, load, obRead, fadr, fld, isl, iarr, xarr, idx, len, valid, slc, bound, store, splice, nilc, un, eqs, eq0, evalFeet, footOf, M.foot, orderOk, apartAll, apart1, clash, meets, callM, fcallM, callee, fz1, fzC, fz, flat, flat1, flat0, flatI, Option.bind_some, putAll, M.bind, hp, rng])) ?_
        refine Wp.cond rfl ?_
        cases hd : decide (p.1 ≤ p.2) with
        | true =>
          obtain ⟨K3, hK3⟩ := p_apart H.h44 p.1 v.n
          obtain ⟨K4, hK4⟩ := p_apart H.h44 p.2 v.n
          refine Wp.rgn (K := max K3 K4) (s' := ⟨[(2, .ref 1000 0 0 0), (3, .ref 1064 0 0 0), (5, .iv (.int .u64 (mnU m (mnU (apartI p.1 v.n) (apartI p.2 v.n))))), (6, .iv (.int .i64 i))], [(1000, .cells [.iv (.bool x.a), .iv (.sl 2 (x.i.map rng)), .iv (.bool x.c), .iv (.sl 1 (x.s.map st1))]), (1064, .cells [.iv (.int .i64 v.k), .iv (.int .i64 v.n), .iv (.str v.s)])], 4584⟩) (fun n hn => rgn_quiet' rfl (by
            have e1 := hK3 n (by omega)
            have e2 := hK4 n (by omega)
            generalize evalF prog n = g at e1 e2
            simp [evalRgn, Option.map_some, evalOps, step, wants, osem, M.run_bind, M.mapL, M.run, M.ok, M.fresh, M.write, M.look, M.lift, putD, Arb.set, ev, Arb.get, keepFr, bin, intBin, strBin, mk, params, cellsM, load, obRead, fadr, fld, isl, iarr, xarr, idx, len, valid, slc, bound, store, splice, nilc, un, eqs, eq0, evalFeet, footOf, M.foot, orderOk, apartAll, apart1, clash, meets, callM, fcallM, callee, fz1, fzC, fz, flat, flat1, flat0, flatI, Option.bind_some, putAll, M.bind, hp, rng, e1, e2, mnI, mnU]
            rfl)) ?_
          simp only [Ex.then, Ex.inBlock]
          refine Wp.rgn (K := 0) (fun n _ => by simp [evalRgn, Option.map_some, evalOps, step, wants, osem, M.run_bind, M.mapL, M.run, M.ok, M.fresh, M.write, M.look, M.lift, putD, Arb.set, ev, Arb.get, keepFr, bin, intBin, strBin, mk, params, cellsM, load, obRead, fadr, fld, isl, iarr, xarr, idx, len, valid, slc, bound, store, splice, nilc, un, eqs, eq0, evalFeet, footOf, M.foot, orderOk, apartAll, apart1, clash, meets, callM, fcallM, callee, fz1, fzC, fz, flat, flat1, flat0, flatI, Option.bind_some, putAll, M.bind]; rfl) ?_
          exact ⟨by simp [again, keepFr, get, nrm_iv, nrm_ref_cells, nrmO, nrm, wrap_succ hi' hi], trivial⟩
        | false =>
          refine Wp.skip ?_
          simp only [Ex.then, Ex.inBlock]
          refine Wp.rgn (K := 0) (fun n _ => by simp [evalRgn, Option.map_some, evalOps, step, wants, osem, M.run_bind, M.mapL, M.run, M.ok, M.fresh, M.write, M.look, M.lift, putD, Arb.set, ev, Arb.get, keepFr, bin, intBin, strBin, mk, params, cellsM, load, obRead, fadr, fld, isl, iarr, xarr, idx, len, valid, slc, bound, store, splice, nilc, un, eqs, eq0, evalFeet, footOf, M.foot, orderOk, apartAll, apart1, clash, meets, callM, fcallM, callee, fz1, fzC, fz, flat, flat1, flat0, flatI, Option.bind_some, putAll, M.bind]; rfl) ?_
          exact ⟨by simp [again, keepFr, get, nrm_iv, nrm_ref_cells, nrmO, nrm, wrap_succ hi' hi], trivial⟩
      · intro _
        refine Wp.seq (Wp.seq ?_)
        refine Wp.rgn (K := 0) (fun n _ => by simp [evalRgn, Option.map_some, evalOps, step, wants, osem, M.run_bind, M.mapL, M.run, M.ok, M.fresh, M.write, M.look, M.lift, putD, Arb.set, ev, Arb.get, keepFr, bin, intBin, strBin, mk, params, cellsM, load, obRead, fadr, fld, isl, iarr, xarr, idx, len, valid, slc, bound, store, splice, nilc, un, eqs, eq0, evalFeet, footOf, M.foot, orderOk, apartAll, apart1, clash, meets, callM, fcallM, callee, fz1, fzC, fz, flat, flat1, flat0, flatI, Option.bind_some, putAll, M.bind]; rfl) ?_
        refine Wp.cond rfl (Wp.exit ?_)
        simp only [Ex.then, Ex.inBlock, if_true]
        refine Wp.seq ?_
        refine Wp.rgn (K := 0) (fun n _ => by simp [evalRgn, Option.map_some, evalOps, step, wants, osem, M.run_bind, M.mapL, M.run, M.ok, M.fresh, M.write, M.look, M.lift, putD, Arb.set, ev, Arb.get, keepFr, bin, intBin, strBin, mk, params, cellsM, load, obRead, fadr, fld, isl, iarr, xarr, idx, len, valid, slc, bound, store, splice, nilc, un, eqs, eq0, evalFeet, footOf, M.foot, orderOk, apartAll, apart1, clash, meets, callM, fcallM, callee, fz1, fzC, fz, flat, flat1, flat0, flatI, Option.bind_some, putAll, M.bind]; rfl) ?_
        exact Wp.ret rfl

set_option maxHeartbeats 2000000 in
theorem p_distB (H : Dist prog) (h : prog 15 = some F15) (b : B) (e : E) (hb : b.fits) : Ans prog 15 [b.av, e.av] (.iv (.int .u64 (distB b e))) := by
  refine Ans.of h rfl rfl (Wp.seq ?_)
  refine Wp.rgn (K := 0) (s' := ⟨[(2, .ref 1000 0 0 0), (3, .ref 1064 0 0 0)], [(1000, .cells b.cs), (1064, .cells e.cs)], 1192⟩) (fun n _ => by simp [evalRgn, Option.map_some, evalOps, step, wants, osem, M.run_bind, M.mapL, M.run, M.ok, M.fresh, M.write, M.look, M.lift, putD, Arb.set, ev, Arb.get, keepFr, bin, intBin, strBin, mk, params, cellsM, load, obRead, fadr, fld, isl, iarr, xarr, idx, len, valid, slc, bound, store, splice, nilc, un, eqs, eq0, evalFeet, footOf, M.foot, orderOk, apartAll, apart1, clash, meets, callM, fcallM, callee, fz1, flat, flat1, flat0, flatI, Option.bind_some, putAll, M.bind, B.av, B.cs_nilc, E.av, E.cs_nilc]) ?_
  refine Wp.seq ?_
  refine Wp.rgn (K := 0) (fun n _ => by simp [evalRgn, Option.map_some, evalOps, step, wants, osem, M.run_bind, M.mapL, M.run, M.ok, M.fresh, M.write, M.look, M.lift, putD, Arb.set, ev, Arb.get, keepFr, bin, intBin, strBin, mk, params, cellsM, load, obRead, fadr, fld, isl, iarr, xarr, idx, len, valid, slc, bound, store, splice, nilc, un, eqs, eq0, evalFeet, footOf, M.foot, orderOk, apartAll, apart1, clash, meets, callM, fcallM, callee, fz1, fzC, fz, flat, flat1, flat0, flatI, Option.bind_some, putAll, M.bind]; rfl) ?_
  refine Wp.seq (Wp.seq ?_)
  refine Wp.rgn (K := 0) (fun n _ => by simp [evalRgn, Option.map_some, evalOps, step, wants, osem, M.run_bind, M.mapL, M.run, M.ok, M.fresh, M.write, M.look, M.lift, putD, Arb.set, ev, Arb.get, keepFr, bin, intBin, strBin, mk, params, cellsM, load, obRead, fadr, fld, isl, iarr, xarr, idx, len, valid, slc, bound, store, splice, nilc, un, eqs, eq0, evalFeet, footOf, M.foot, orderOk, apartAll, apart1, clash, meets, callM, fcallM, callee, fz1, fzC, fz, flat, flat1, flat0, flatI, Option.bind_some, putAll, M.bind]; rfl) ?_
  refine Wp.block ?_
  refine Wp.range 4 (fun i => ⟨[(2, .ref 1000 0 0 0), (3, .ref 1064 0 0 0), (5, .iv (.int .u64 (distTo b e i))), (6, .iv (.int .i64 i))], [(1000, .cells b.cs), (1064, .cells e.cs)], 1320⟩) (fun _ => True) rfl trivial ?_ ?_
  · intro i hi _
    have hi' : (i : Int) < 4 := by omega
    have hm : min 3 (12 - i * 3) = 3 := by omega
    have hm2 : min 4 (16 - i * 4) = 4 := by omega
    refine Wp.seq (Wp.seq ?_)
    refine Wp.rgn (K := 0) (fun n _ => by simp [evalRgn, Option.map_some, evalOps, step, wants, osem, M.run_bind, M.mapL, M.run, M.ok, M.fresh, M.write, M.look, M.lift, putD, Arb.set, ev, Arb.get, keepFr, bin, intBin, strBin, mk, params, cellsM, load, obRead, fadr, fld, isl, iarr, xarr, idx, len, valid, slc, bound, store, splice, nilc, un, eqs, eq0, evalFeet, footOf, M.foot, orderOk, apartAll, apart1, clash, meets, callM, fcallM, callee, fz1, fzC, fz, flat, flat1, flat0, flatI, Option.bind_some, putAll, M.bind, hi']; rfl) ?_
    refine Wp.cond rfl (Wp.skip (Wp.seq (Wp.block ?_)))
    obtain ⟨K1, hK1⟩ := p_distV H (b.get i) (e.get i) (hb i hi).1 (hb i hi).2
    obtain ⟨K2, hK2⟩ := p_add H.h28 (distTo b e i) (distV (b.get i) (e.get i))
    refine Wp.rgn (K := max K1 K2) (s' := ⟨[(2, .ref 1000 0 0 0), (3, .ref 1064 0 0 0), (5, .iv (.int .u64 (distTo b e (i + 1)))), (6, .iv (.int .i64 i))], [(1000, .cells b.cs), (1064, .cells e.cs)], 2088⟩) (fun n hn => rgn_quiet' rfl (by
      have e1 := hK1 n (by omega)
      have e2 := hK2 n (by omega)
      simp only [V.av, S.av] at e1
      generalize evalF prog n = g at e1 e2
      simp [evalRgn, Option.map_some, evalOps, step, wants, osem, M.run_bind, M.mapL, M.run, M.ok, M.fresh, M.write, M.look, M.lift, putD, Arb.set, ev, Arb.get, keepFr, bin, intBin, strBin, mk, params, cellsM, load, obRead, fadr, fld, isl, iarr, xarr, idx, len, valid, slc, bound, store, splice, nilc, un, eqs, eq0, evalFeet, footOf, M.foot, orderOk, apartAll, apart1, clash, meets, callM, fcallM, callee, fz1, fzC, fz, flat, flat1, flat0, flatI, Option.bind_some, putAll, M.bind, hi', E.cs_at e hi, E.cs_len, hm, hm2, B.cs_at b hi, B.cs_len, e1, e2, distTo])) ?_
    simp only [Ex.then, Ex.inBlock]
    refine Wp.rgn (K := 0) (fun n _ => by simp [evalRgn, Option.map_some, evalOps, step, wants, osem, M.run_bind, M.mapL, M.run, M.ok, M.fresh, M.write, M.look, M.lift, putD, Arb.set, ev, Arb.get, keepFr, bin, intBin, strBin, mk, params, cellsM, load, obRead, fadr, fld, isl, iarr, xarr, idx, len, valid, slc, bound, store, splice, nilc, un, eqs, eq0, evalFeet, footOf, M.foot, orderOk, apartAll, apart1, clash, meets, callM, fcallM, callee, fz1, fzC, fz, flat, flat1, flat0, flatI, Option.bind_some, putAll, M.bind]; rfl) ?_
    exact ⟨by simp [again, keepFr, get, nrm_iv, nrm_ref_cells, nrmO, E.cs_nrm, B.cs_nrm, wrap_lt4 hi], trivial⟩
  · intro hg
    refine Wp.seq (Wp.seq ?_)
    refine Wp.rgn (K := 0) (fun n _ => by simp [evalRgn, Option.map_some, evalOps, step, wants, osem, M.run_bind, M.mapL, M.run, M.ok, M.fresh, M.write, M.look, M.lift, putD, Arb.set, ev, Arb.get, keepFr, bin, intBin, strBin, mk, params, cellsM, load, obRead, fadr, fld, isl, iarr, xarr, idx, len, valid, slc, bound, store, splice, nilc, un, eqs, eq0, evalFeet, footOf, M.foot, orderOk, apartAll, apart1, clash, meets, callM, fcallM, callee, fz1, fzC, fz, flat, flat1, flat0, flatI, Option.bind_some, putAll, M.bind]; rfl) ?_
    refine Wp.cond rfl (Wp.exit ?_)
    simp only [Ex.then, Ex.inBlock, if_true]
    refine Wp.seq ?_
    refine Wp.rgn (K := 0) (fun n _ => by simp [evalRgn, Option.map_some, evalOps, step, wants, osem, M.run_bind, M.mapL, M.run, M.ok, M.fresh, M.write, M.look, M.lift, putD, Arb.set, ev, Arb.get, keepFr, bin, intBin, strBin, mk, params, cellsM, load, obRead, fadr, fld, isl, iarr, xarr, idx, len, valid, slc, bound, store, splice, nilc, un, eqs, eq0, evalFeet, footOf, M.foot, orderOk, apartAll, apart1, clash, meets, callM, fcallM, callee, fz1, fzC, fz, flat, flat1, flat0, flatI, Option.bind_some, putAll, M.bind]; rfl) ?_
    exact Wp.ret rfl

set_option maxHeartbeats 2000000 in
theorem p_distF (H : Dist prog) (h15 : prog 15 = some F15) (h : prog 6 = some F6) (f : List B) (e : E) (hl : f.length ≤ maxLen) (hf : ∀ b ∈ f, b.fits) : Ans prog 6 [filt f, e.av] (.iv (.int .u64 (distF f e))) := by
  refine Ans.of h rfl rfl (Wp.seq ?_)
  refine Wp.rgn (K := 0) (s' := ⟨[(0, filt f), (3, .ref 1000 0 0 0)], [(1000, .cells e.cs)], 1128⟩) (fun n _ => by simp [evalRgn, Option.map_some, evalOps, step, wants, osem, M.run_bind, M.mapL, M.run, M.ok, M.fresh, M.write, M.look, M.lift, putD, Arb.set, ev, Arb.get, keepFr, bin, intBin, strBin, mk, params, cellsM, load, obRead, fadr, fld, isl, iarr, xarr, idx, len, valid, slc, bound, store, splice, nilc, un, eqs, eq0, evalFeet, footOf, M.foot, orderOk, apartAll, apart1, clash, meets, callM, fcallM, callee, fz1, flat, flat1, flat0, flatI, Option.bind_some, putAll, M.bind, E.av, E.cs_nilc]) ?_
  refine Wp.seq ?_
  refine Wp.rgn (K := 0) (fun n _ => by simp [evalRgn, Option.map_some, evalOps, step, wants, osem, M.run_bind, M.mapL, M.run, M.ok, M.fresh, M.write, M.look, M.lift, putD, Arb.set, ev, Arb.get, keepFr, bin, intBin, strBin, mk, params, cellsM, load, obRead, fadr, fld, isl, iarr, xarr, idx, len, valid, slc, bound, store, splice, nilc, un, eqs, eq0, evalFeet, footOf, M.foot, orderOk, apartAll, apart1, clash, meets, callM, fcallM, callee, fz1, fzC, fz, flat, flat1, flat0, flatI, Option.bind_some, putAll, M.bind]; rfl) ?_
  refine Wp.seq (Wp.seq ?_)
  refine Wp.rgn (K := 0) (fun n _ => by simp [evalRgn, Option.map_some, evalOps, step, wants, osem, M.run_bind, M.mapL, M.run, M.ok, M.fresh, M.write, M.look, M.lift, putD, Arb.set, ev, Arb.get, keepFr, bin, intBin, strBin, mk, params, cellsM, load, obRead, fadr, fld, isl, iarr, xarr, idx, len, valid, slc, bound, store, splice, nilc, un, eqs, eq0, evalFeet, footOf, M.foot, orderOk, apartAll, apart1, clash, meets, callM, fcallM, callee, fz1, fzC, fz, flat, flat1, flat0, flatI, Option.bind_some, putAll, M.bind]; rfl) ?_
  refine Wp.block ?_
  refine Wp.range f.length (fun i => ⟨[(0, filt f), (3, .ref 1000 0 0 0), (5, .iv (.int .u64 (distFrom e (f.take i) far))), (6, .iv (.int .i64 i))], [(1000, .cells e.cs)], 1256⟩) (fun _ => True) rfl trivial ?_ ?_
  · intro i hi _
    obtain ⟨b, hb⟩ : ∃ x, f[i]? = some x := ⟨_, List.getElem?_eq_getElem hi⟩
    have hnext : distFrom e (f.take (i + 1)) far = mnU (distFrom e (f.take i) far) (distB b e) := by
      rw [List.take_add_one, hb]; exact distFrom_snoc _ _ _ _
    rw [hnext]
    generalize distFrom e (f.take i) far = m
    refine Wp.seq (Wp.seq ?_)
    refine Wp.rgn (K := 0) (fun n _ => by simp [evalRgn, Option.map_some, evalOps, step, wants, osem, M.run_bind, M.mapL, M.run, M.ok, M.fresh, M.write, M.look, M.lift, putD, Arb.set, ev, Arb.get, keepFr, bin, intBin, strBin, mk, params, cellsM, load, obRead, fadr, fld, isl, iarr, xarr, idx, len, valid, slc, bound, store, splice, nilc, un, eqs, eq0, evalFeet, footOf, M.foot, orderOk, apartAll, apart1, clash, meets, callM, fcallM, callee, fz1, fzC, fz, flat, flat1, flat0, flatI, Option.bind_some, putAll, M.bind, filt, hi]; rfl) ?_
    refine Wp.cond rfl (Wp.skip (Wp.seq (Wp.block ?_)))
    obtain ⟨K, hK⟩ := p_distB H h15 b e (hf b (List.mem_of_getElem? hb))
    refine Wp.rgn (K := K) (s' := ⟨[(0, filt f), (3, .ref 1000 0 0 0), (5, .iv (.int .u64 (mnU m (distB b e)))), (6, .iv (.int .i64 i))], [(1000, .cells e.cs)], 2088⟩) (fun n hn => rgn_quiet' rfl (by
      have e1 := hK n hn
      simp only [B.av, E.av] at e1
      generalize evalF prog n = g at e1
      simp [evalRgn, Option.map_some, evalOps, step, wants, osem, M.run_bind, M.mapL, M.run, M.ok, M.fresh, M.write, M.look, M.lift, putD, Arb.set, ev, Arb.get, keepFr, bin, intBin, strBin, mk, params, cellsM, load, obRead, fadr, fld, isl, iarr, xarr, idx, len, valid, slc, bound, store, splice, nilc, un, eqs, eq0, evalFeet, footOf, M.foot, orderOk, apartAll, apart1, clash, meets, callM, fcallM, callee, fz1, flat, flat1, flat0, flatI, Option.bind_some, putAll, M.bind, filt, hb, E.cs_12, E.cs_len, E.cs_fzC, B.enc_take, B.enc_len, B.enc_cs, B.cs_fzC, e1, mnI, mnU])) ?_
    simp only [Ex.then, Ex.inBlock]
    refine Wp.rgn (K := 0) (fun n _ => by simp [evalRgn, Option.map_some, evalOps, step, wants, osem, M.run_bind, M.mapL, M.run, M.ok, M.fresh, M.write, M.look, M.lift, putD, Arb.set, ev, Arb.get, keepFr, bin, intBin, strBin, mk, params, cellsM, load, obRead, fadr, fld, isl, iarr, xarr, idx, len, valid, slc, bound, store, splice, nilc, un, eqs, eq0, evalFeet, footOf, M.foot, orderOk, apartAll, apart1, clash, meets, callM, fcallM, callee, fz1, fzC, fz, flat, flat1, flat0, flatI, Option.bind_some, putAll, M.bind]; rfl) ?_
    exact ⟨by simp [again, keepFr, get, nrm_iv, nrm_ref_cells, nrmO, E.cs_nrm, filt, wrap_succ hi hl], trivial⟩
  · intro hg
    rw [List.take_length]
    refine Wp.seq (Wp.seq ?_)
    refine Wp.rgn (K := 0) (fun n _ => by simp [evalRgn, Option.map_some, evalOps, step, wants, osem, M.run_bind, M.mapL, M.run, M.ok, M.fresh, M.write, M.look, M.lift, putD, Arb.set, ev, Arb.get, keepFr, bin, intBin, strBin, mk, params, cellsM, load, obRead, fadr, fld, isl, iarr, xarr, idx, len, valid, slc, bound, store, splice, nilc, un, eqs, eq0, evalFeet, footOf, M.foot, orderOk, apartAll, apart1, clash, meets, callM, fcallM, callee, fz1, fzC, fz, flat, flat1, flat0, flatI, Option.bind_some, putAll, M.bind, filt]; rfl) ?_
    refine Wp.cond rfl (Wp.exit ?_)
    simp only [Ex.then, Ex.inBlock, if_true]
    refine Wp.seq ?_
    refine Wp.rgn (K := 0) (fun n _ => by simp [evalRgn, Option.map_some, evalOps, step, wants, osem, M.run_bind, M.mapL, M.run, M.ok, M.fresh, M.write, M.look, M.lift, putD, Arb.set, ev, Arb.get, keepFr, bin, intBin, strBin, mk, params, cellsM, load, obRead, fadr, fld, isl, iarr, xarr, idx, len, valid, slc, bound, store, splice, nilc, un, eqs, eq0, evalFeet, footOf, M.foot, orderOk, apartAll, apart1, clash, meets, callM, fcallM, callee, fz1, fzC, fz, flat, flat1, flat0, flatI, Option.bind_some, putAll, M.bind]; rfl) ?_
    exact Wp.ret rfl
end
end Arb

/-
  HOW FAR AN EVENT IS: of a merger's at most so much farther from the nearer one of both.
-/
set_option linter.unusedSimpArgs false
namespace Arb
open Go

def absd (a b : Int) : Int := if b < a then a - b else b - a
theorem apartI_eq {a b : Int} (ha : in64 a) (hb : in64 b) : apartI a b = absd a b := by
  unfold apartI absd
  unfold in64 at ha hb
  simp only [IntKind.wrap_u64]
  split <;> omega
theorem addF_eq {a b : Int} (ha : 0 ≤ a ∧ a ≤ far) (hb : 0 ≤ b ∧ b ≤ far) : addF a b = min (a + b) far := by
  unfold addF far at *
  rw [IntKind.wrap_u64]
  split <;> omega
theorem nearTo_all {n : Int} (hn : in64 n) : ∀ (l : List (Int × Int)) (m : Int), in64s l → (∀ p ∈ l, p.1 ≤ p.2) →
    nearTo n l m ≤ m ∧ (∀ p ∈ l, nearTo n l m ≤ absd p.1 n ∧ nearTo n l m ≤ absd p.2 n) ∧ (nearTo n l m = m ∨ ∃ p ∈ l, nearTo n l m = absd p.1 n ∨ nearTo n l m = absd p.2 n)
  | [], m, _, _ => ⟨Int.le_refl _, fun p hp => (by cases hp), .inl rfl⟩
  | p :: l, m, h64, hle => by
    obtain ⟨h1, h2⟩ := h64 p (List.mem_cons_self ..)
    have h3 := hle p (List.mem_cons_self ..)
    rw [nearTo, decide_eq_true h3, if_pos rfl, apartI_eq h1 hn, apartI_eq h2 hn]
    obtain ⟨k1, k2, k3⟩ := nearTo_all hn l (mnU m (mnU (absd p.1 n) (absd p.2 n))) (fun q hq => h64 q (List.mem_cons_of_mem _ hq)) fun q hq => hle q (List.mem_cons_of_mem _ hq)
    have e1 : mnU m (mnU (absd p.1 n) (absd p.2 n)) ≤ m ∧ mnU m (mnU (absd p.1 n) (absd p.2 n)) ≤ absd p.1 n ∧ mnU m (mnU (absd p.1 n) (absd p.2 n)) ≤ absd p.2 n ∧
        (mnU m (mnU (absd p.1 n) (absd p.2 n)) = m ∨ mnU m (mnU (absd p.1 n) (absd p.2 n)) = absd p.1 n ∨ mnU m (mnU (absd p.1 n) (absd p.2 n)) = absd p.2 n) := by
      unfold mnU
      split <;> split <;> omega
    refine ⟨by omega, fun q hq => ?_, ?_⟩
    · rcases List.mem_cons.1 hq with rfl | hq
      · omega
      · exact k2 q hq
    · rcases k3 with k3 | ⟨q, hq, k3⟩
      · rcases e1.2.2.2 with e | e | e
        · exact .inl (by rw [k3, e])
        · exact .inr ⟨p, List.mem_cons_self .., .inl (by rw [k3, e])⟩
        · exact .inr ⟨p, List.mem_cons_self .., .inr (by rw [k3, e])⟩
      · exact .inr ⟨q, List.mem_cons_of_mem _ hq, k3⟩

theorem hasI_iff {l : List (Int × Int)} {n : Int} : hasI l n = true ↔ inR l n := by
  simp [hasI, inR]
theorem absd_ge (a b : Int) : 0 ≤ absd a b := by unfold absd; split <;> omega

structure S.num (x : S) : Prop where
  r : in64s x.i
  le : ∀ p ∈ x.i, p.1 ≤ p.2

theorem distV_range {x : S} (hx : x.num) {v : V} (hv : in64 v.n) : 0 ≤ distV x v ∧ distV x v ≤ far := by
  unfold distV
  split
  · unfold far; omega
  · split
    · unfold far; omega
    · obtain ⟨h1, -, h3⟩ := nearTo_all hv x.i far hx.r hx.le
      refine ⟨?_, h1⟩
      rcases h3 with h3 | ⟨p, -, h3 | h3⟩
      · rw [h3]; unfold far; omega
      · rw [h3]; exact absd_ge _ _
      · rw [h3]; exact absd_ge _ _
/-- of a number: at most as far as any of its numbers -/
theorem distV_le {x : S} (hx : x.num) {v : V} (hv : in64 v.n) (hk : (v.k == 1) = true) (hr : rightV v = true) {w : Int} (hw : inR x.i w) : distV x v ≤ absd v.n w := by
  unfold distV
  split
  · exact absd_ge _ _
  · rename_i hh
    have hk' : v.k = 1 := by simpa using hk
    rw [if_neg (by rw [hr]; simp [hk'])]
    obtain ⟨p, hp, hw1, hw2⟩ := hw
    obtain ⟨-, h2, -⟩ := nearTo_all hv x.i far hx.r hx.le
    obtain ⟨k1, k2⟩ := h2 p hp
    have hno : ¬ (p.1 ≤ v.n ∧ v.n ≤ p.2) := by
      intro hin
      refine hh ?_
      have : hasI x.i v.n = true := hasI_iff.2 ⟨p, hp, hin⟩
      simp [hasV, hr, hk', this]
    unfold absd at *
    split at k1 <;> split at k2 <;> split <;> omega
/-- and as far as one of them -/
theorem distV_at {x : S} (hx : x.num) {v : V} (hv : in64 v.n) (hk : (v.k == 1) = true) (hr : rightV v = true) : distV x v = far ∨ ∃ w, inR x.i w ∧ distV x v = absd v.n w := by
  have hk' : v.k = 1 := by simpa using hk
  unfold distV
  split
  · rename_i hh
    have : hasI x.i v.n = true := by simpa [hasV, hr, hk'] using hh
    exact .inr ⟨v.n, hasI_iff.1 this, by simp [absd]⟩
  · rw [if_neg (by rw [hr]; simp [hk'])]
    obtain ⟨-, -, h3⟩ := nearTo_all hv x.i far hx.r hx.le
    have hc : ∀ a b, absd a b = absd b a := by intro a b; unfold absd; split <;> split <;> omega
    rcases h3 with h3 | ⟨p, hp, h3 | h3⟩
    · exact .inl h3
    · exact .inr ⟨p.1, ⟨p, hp, Int.le_refl _, hx.le p hp⟩, by rw [h3, hc]⟩
    · exact .inr ⟨p.2, ⟨p, hp, hx.le p hp, Int.le_refl _⟩, by rw [h3, hc]⟩
theorem distV_flat {x : S} {v : V} (h : ((v.k == 1) && rightV v) = false) : distV x v = if hasV x v then 0 else far := by
  unfold distV
  split
  · rfl
  · rw [if_pos]
    cases h1 : v.k == 1 with
    | false => simp [bne, h1]
    | true => rw [h1, Bool.true_and] at h; simp [h]

/-! ### two sets, and one for both -/
def Near (x y z : S) (d : Int) : Prop := ∀ v : V, in64 v.n → mnU (distV x v) (distV y v) ≤ distV z v + d
theorem or_hasV (x y : S) (v : V) (h : ∀ n, inR (orS x y).i n ↔ inR x.i n ∨ inR y.i n) : hasV (orS x y) v = (hasV x v || hasV y v) := by
  unfold hasV
  split
  · rfl
  · split
    · rfl
    · split
      · rw [Bool.eq_iff_iff, Bool.or_eq_true, hasI_iff, hasI_iff, hasI_iff]
        exact h _
      · exact or_str x y v.s
theorem or_near {x y : S} (hx : x.num) (hy : y.num) (hz : (orS x y).num) (h : ∀ n, inR (orS x y).i n ↔ inR x.i n ∨ inR y.i n) : Near x y (orS x y) 0 := by
  intro v hv
  have rx := distV_range hx hv
  have ry := distV_range hy hv
  cases hk : (v.k == 1) && rightV v with
  | false =>
    rw [distV_flat hk, distV_flat hk, distV_flat hk, or_hasV x y v h]
    cases hasV x v <;> cases hasV y v <;> decide
  | true =>
    simp only [Bool.and_eq_true] at hk
    rcases distV_at hz hv hk.1 hk.2 with e | ⟨w, hw, e⟩
    · rw [e]; unfold mnU; split <;> omega
    · rw [e]
      rcases (h w).1 hw with hw | hw
      · have := distV_le hx hv hk.1 hk.2 hw
        unfold mnU; split <;> omega
      · have := distV_le hy hv hk.1 hk.2 hw
        unfold mnU; split <;> omega
theorem hull_near {x y : S} {p q : Int × Int} (hx : x.num) (hy : y.num) (hat : x.i = [p] ∧ y.i = [q] ∨ x.i = [q] ∧ y.i = [p]) (ea : x.a = y.a) (ec : x.c = y.c) (es : x.s = y.s) (hp : p.1 ≤ p.2) (hq : q.1 ≤ q.2) (hpq : p.2 < q.1)
    (hz : S.num ⟨x.a, [(p.1, q.2)], x.c, x.s⟩) : Near x y ⟨x.a, [(p.1, q.2)], x.c, x.s⟩ ((q.1 - p.2) / 2) := by
  intro v hv
  have rx := distV_range hx hv
  have ry := distV_range hy hv
  cases hk : (v.k == 1) && rightV v with
  | false =>
    rw [distV_flat hk, distV_flat hk, distV_flat hk]
    have e1 : hasV y v = hasV x v := by
      unfold hasV
      rw [← ea, ← ec, ← es]
      cases hr : rightV v with
      | false => rfl
      | true => rw [hr, Bool.and_true] at hk; rw [hk]; rfl
    have e2 : hasV ⟨x.a, [(p.1, q.2)], x.c, x.s⟩ v = hasV x v := by
      unfold hasV
      cases hr : rightV v with
      | false => rfl
      | true => rw [hr, Bool.and_true] at hk; rw [hk]; rfl
    rw [e1, e2]
    cases hasV x v <;> simp [mnU, far] <;> omega
  | true =>
    simp only [Bool.and_eq_true] at hk
    rcases distV_at hz hv hk.1 hk.2 with e | ⟨w, hw, e⟩
    · rw [e]; unfold mnU; split <;> omega
    · rw [e]
      have hw' : p.1 ≤ w ∧ w ≤ q.2 := by
        obtain ⟨r, hr, h1, h2⟩ := hw
        simp at hr; subst hr; exact ⟨h1, h2⟩
      have key : ∀ u, (inR x.i u ∨ inR y.i u) → mnU (distV x v) (distV y v) ≤ absd v.n u := by
        intro u hu
        rcases hu with hu | hu
        · have := distV_le hx hv hk.1 hk.2 hu
          unfold mnU; split <;> omega
        · have := distV_le hy hv hk.1 hk.2 hu
          unfold mnU; split <;> omega
      have hin : ∀ u, ((p.1 ≤ u ∧ u ≤ p.2) ∨ (q.1 ≤ u ∧ u ≤ q.2)) → inR x.i u ∨ inR y.i u := by
        intro u hu
        rcases hat with ⟨h1, h2⟩ | ⟨h1, h2⟩
        · rw [h1, h2]; rcases hu with hu | hu
          · exact .inl ⟨p, by simp, hu⟩
          · exact .inr ⟨q, by simp, hu⟩
        · rw [h1, h2]; rcases hu with hu | hu
          · exact .inr ⟨p, by simp, hu⟩
          · exact .inl ⟨q, by simp, hu⟩
      by_cases h1 : w ≤ p.2
      · have := key w (hin w (.inl ⟨hw'.1, h1⟩)); omega
      · by_cases h2 : q.1 ≤ w
        · have := key w (hin w (.inr ⟨h2, hw'.2⟩)); omega
        · have k1 := key p.2 (hin p.2 (.inl ⟨hp, Int.le_refl _⟩))
          have k2 := key q.1 (hin q.1 (.inr ⟨Int.le_refl _, hq⟩))
          generalize mnU (distV x v) (distV y v) = m at k1 k2
          unfold absd at *
          split at k1 <;> split at k2 <;> split <;> omega

/-! ### boxes -/
def E.ok (e : E) : Prop := ∀ i, i < 4 → in64 (e.get i).n
def B.num (b : B) : Prop := ∀ i, i < 4 → (b.get i).num
theorem distB_eq {b : B} (hb : b.num) {e : E} (he : e.ok) : distB b e = min (distV b.s0 e.v0 + distV b.s1 e.v1 + distV b.s2 e.v2 + distV b.s3 e.v3) far := by
  have r0 := distV_range (hb 0 (by omega)) (he 0 (by omega))
  have r1 := distV_range (hb 1 (by omega)) (he 1 (by omega))
  have r2 := distV_range (hb 2 (by omega)) (he 2 (by omega))
  have r3 := distV_range (hb 3 (by omega)) (he 3 (by omega))
  simp only [B.get, E.get] at r0 r1 r2 r3
  have hfar : (0 : Int) ≤ far := by unfold far; omega
  have e1 : addF 0 (distV b.s0 e.v0) = min (0 + distV b.s0 e.v0) far := addF_eq ⟨Int.le_refl _, hfar⟩ r0
  unfold distB
  simp only [distTo, B.get, E.get]
  rw [e1, addF_eq (by omega) r1, addF_eq (by omega) r2, addF_eq (by omega) r3]
  omega
theorem distB_range {b : B} (hb : b.num) {e : E} (he : e.ok) : 0 ≤ distB b e ∧ distB b e ≤ far := by
  have r0 := distV_range (hb 0 (by omega)) (he 0 (by omega))
  have r1 := distV_range (hb 1 (by omega)) (he 1 (by omega))
  have r2 := distV_range (hb 2 (by omega)) (he 2 (by omega))
  have r3 := distV_range (hb 3 (by omega)) (he 3 (by omega))
  simp only [B.get, E.get] at r0 r1 r2 r3
  have hfar : (0 : Int) ≤ far := by unfold far; omega
  rw [distB_eq hb he]; omega
theorem near_box {x y : B} {i : Nat} (hi : i < 4) {s : S} {d : Int} (hd : 0 ≤ d) (hx : x.num) (hy : y.num) (hz : (x.put i s).num) (hs : ∀ j, j < 4 → j ≠ i → y.get j = x.get j) (hn : Near (x.get i) (y.get i) s d) {e : E} (he : e.ok) :
    mnU (distB x e) (distB y e) ≤ distB (x.put i s) e + d := by
  have q0 := distV_range (hx 0 (by omega)) (he 0 (by omega))
  have q1 := distV_range (hx 1 (by omega)) (he 1 (by omega))
  have q2 := distV_range (hx 2 (by omega)) (he 2 (by omega))
  have q3 := distV_range (hx 3 (by omega)) (he 3 (by omega))
  rw [distB_eq hx he, distB_eq hy he, distB_eq hz he]
  have h := hn (e.get i) (he i hi)
  have s0 := hs 0 (by omega)
  have s1 := hs 1 (by omega)
  have s2 := hs 2 (by omega)
  have s3 := hs 3 (by omega)
  match i, hi with
  | 0, _ =>
    have s1 := s1 (by omega); have s2 := s2 (by omega); have s3 := s3 (by omega)
    simp only [B.get, E.get, B.put] at *
    rw [s1, s2, s3]
    unfold mnU at *
    split at h <;> split <;> omega
  | 1, _ =>
    have s0 := s0 (by omega); have s2 := s2 (by omega); have s3 := s3 (by omega)
    simp only [B.get, E.get, B.put] at *
    rw [s0, s2, s3]
    unfold mnU at *
    split at h <;> split <;> omega
  | 2, _ =>
    have s0 := s0 (by omega); have s1 := s1 (by omega); have s3 := s3 (by omega)
    simp only [B.get, E.get, B.put] at *
    rw [s0, s1, s3]
    unfold mnU at *
    split at h <;> split <;> omega
  | 3, _ =>
    have s0 := s0 (by omega); have s1 := s1 (by omega); have s2 := s2 (by omega)
    simp only [B.get, E.get, B.put] at *
    rw [s0, s1, s2]
    unfold mnU at *
    split at h <;> split <;> omega
theorem hasTo_all {b : B} {e : E} : ∀ n, hasTo b e n = true → ∀ i, i < n → hasV (b.get i) (e.get i) = true
  | 0, _, i, hi => absurd hi (Nat.not_lt_zero _)
  | n + 1, h, i, hi => by
    rw [hasTo, Bool.and_eq_true] at h
    by_cases hin : i = n
    · subst hin; exact h.2
    · exact hasTo_all n h.1 i (by omega)
theorem has_dist {b : B} {e : E} (h : hasB b e = true) : distB b e = 0 := by
  unfold hasB at h
  split at h
  · cases h
  · have h0 := hasTo_all 4 h 0 (by omega)
    have h1 := hasTo_all 4 h 1 (by omega)
    have h2 := hasTo_all 4 h 2 (by omega)
    have h3 := hasTo_all 4 h 3 (by omega)
    unfold distB
    simp only [distTo, distV, h0, h1, h2, h3, if_true]
    decide
theorem distF_one {b : B} (hb : b.num) {e : E} (he : e.ok) : distF [b] e = distB b e := by
  have := distB_range hb he
  unfold distF
  simp only [distFrom, mnU]
  split <;> omega
theorem distF_le (f : List B) (e : E) : ∀ m, m ≤ far → (∀ b ∈ f, 0 ≤ distB b e) → 0 ≤ m → 0 ≤ distFrom e f m ∧ distFrom e f m ≤ far := by
  induction f with
  | nil => exact fun m hm _ h0 => ⟨h0, hm⟩
  | cons b r ih =>
    intro m hm hb h0
    have h1 := hb b (List.mem_cons_self ..)
    exact ih _ (by unfold mnU; split <;> omega) (fun c hc => hb c (List.mem_cons_of_mem _ hc)) (by unfold mnU; split <;> omega)
end Arb

/-
  A MERGER OF TWO, AND HOW FAR IT REACHES.
-/
set_option linter.unusedSimpArgs false
namespace Arb
open Go

theorem put_get (x : B) (s : S) {i j : Nat} (hi : i < 4) (hj : j < 4) : (x.put i s).get j = if j = i then s else x.get j := by
  match i, hi, j, hj with
  | 0, _, 0, _ => rfl
  | 0, _, 1, _ => rfl
  | 0, _, 2, _ => rfl
  | 0, _, 3, _ => rfl
  | 1, _, 0, _ => rfl
  | 1, _, 1, _ => rfl
  | 1, _, 2, _ => rfl
  | 1, _, 3, _ => rfl
  | 2, _, 0, _ => rfl
  | 2, _, 1, _ => rfl
  | 2, _, 2, _ => rfl
  | 2, _, 3, _ => rfl
  | 3, _, 0, _ => rfl
  | 3, _, 1, _ => rfl
  | 3, _, 2, _ => rfl
  | 3, _, 3, _ => rfl
theorem B.ok_of {b : B} (h : ∀ i, i < 4 → (b.get i).ok) : b.ok := ⟨h 0 (by omega), h 1 (by omega), h 2 (by omega), h 3 (by omega)⟩
theorem put_ok {x : B} {s : S} {i : Nat} (hi : i < 4) (hx : x.ok) (hs : s.ok) : (x.put i s).ok := B.ok_of fun j hj => by
  rw [put_get x s hi hj]; split
  · exact hs
  · exact hx.at hj
theorem put_num {x : B} {s : S} {i : Nat} (hi : i < 4) (hx : x.num) (hs : s.num) : (x.put i s).num := fun j hj => by
  rw [put_get x s hi hj]; split
  · exact hs
  · exact hx j hj
theorem right1_num {b : B} (hb : b.ok) (h : right1 b = true) : b.num := fun _ hi => ⟨(hb.at hi).ri, (right1_fine hb h hi).i.1⟩

structure Merged (a b : List B) (x y z : B) (d : Int) : Prop where
  ha : a = [x]
  hb : b = [y]
  xn : x.num
  yn : y.num
  zn : z.num
  zo : z.ok
  d0 : 0 ≤ d
  d1 : d < 9223372036854775808
  near : ∀ e : E, e.ok → mnU (distB x e) (distB y e) ≤ distB z e + d

theorem fine_ok {s : S} (h : s.fine) (h64 : in64s s.i) (hsm : smallS s = true) : s.ok := by
  simp only [smallS, Bool.and_eq_true, decide_eq_true_eq] at hsm
  exact ⟨by unfold maxLen; omega, by unfold maxLen; omega, h64, fun t ht => by have := h.len t ht; unfold maxLen; omega⟩
theorem merged_perf {a b : List B} (ha : ∀ x ∈ a, x.ok) (hb : ∀ x ∈ b, x.ok) (h : (perfF a b).2 = true) : ∃ x y z, Merged a b x y z 0 ∧ perfH a b = ([z], 0, true) := by
  obtain ⟨x, y, i, hs, hsm, -, he⟩ := perfF_some h
  obtain ⟨rfl, rfl, h1, h2, hi, -, -, hsame⟩ := sole_some hs
  have kx := ha x (by simp)
  have ky := hb y (by simp)
  have fx := right1_fine kx h1 hi
  have fy := right1_fine ky h2 hi
  obtain ⟨fz, z64, zin⟩ := or_fine fx fy (kx.at hi).ri (ky.at hi).ri
  have nz : (orS (x.get i) (y.get i)).num := ⟨z64, fz.i.1⟩
  have nx := right1_num kx h1
  have ny := right1_num ky h2
  refine ⟨x, y, x.put i (orS (x.get i) (y.get i)), ⟨rfl, rfl, nx, ny, put_num hi nx nz, put_ok hi kx (fine_ok fz z64 hsm), Int.le_refl _, by omega, fun e he => ?_⟩, by unfold perfH; rw [he]⟩
  exact near_box hi (Int.le_refl _) nx ny (put_num hi nx nz) (fun j hj hne => (sameS_iff.1 (hsame j hj hne)).symm) (or_near (nx i hi) (ny i hi) nz zin) he
theorem between_val {p q : Int × Int} (hp : in64 p.2) (hq : in64 q.1) (hb : (between p q).2 = true) : (between p q).1 = (q.1 - p.2) / 2 := by
  have hlt := (between_true hb).2.2
  unfold between at hb ⊢
  split at hb
  · cases hb
  · rename_i hc
    rw [if_neg hc]
    unfold in64 at hp hq
    simp only [IntKind.wrap_u64]
    rw [show (q.1 % 18446744073709551616 - p.2 % 18446744073709551616) % 18446744073709551616 = q.1 - p.2 by omega]
    rw [show (q.1 - p.2).tdiv 2 = (q.1 - p.2) / 2 by exact Int.tdiv_eq_ediv_of_nonneg (by omega)]
    omega
theorem merged_hull {a b : List B} (ha : ∀ x ∈ a, x.ok) (hb : ∀ x ∈ b, x.ok) (h : (hullF a b).2.2 = true) : ∃ x y z, Merged a b x y z (hullF a b).2.1 ∧ hullF a b = ([z], (hullF a b).2.1, true) := by
  obtain ⟨x, y, i, p, q, H⟩ := hullF_some h
  have hge := hullF_ge ha hb h
  obtain ⟨rfl, rfl, h1, h2, hi, -, -, hsame⟩ := sole_some H.sole
  have kx := ha x (by simp)
  have ky := hb y (by simp)
  have fx := right1_fine kx h1 hi
  have nx := right1_num kx h1
  have ny := right1_num ky h2
  obtain ⟨b1, b2, b3⟩ := between_true H.ok
  have hp64 : in64 p.1 ∧ in64 p.2 := by
    rcases H.at' with ⟨e1, e2⟩ | ⟨e1, e2⟩
    · exact (nx i hi).r p (by rw [e1]; simp)
    · exact (ny i hi).r p (by rw [e2]; simp)
  have hq64 : in64 q.1 ∧ in64 q.2 := by
    rcases H.at' with ⟨e1, e2⟩ | ⟨e1, e2⟩
    · exact (ny i hi).r q (by rw [e2]; simp)
    · exact (nx i hi).r q (by rw [e1]; simp)
  have nz : S.num ⟨(x.get i).a, [(p.1, q.2)], (x.get i).c, (x.get i).s⟩ := ⟨fun r hr => by simp at hr; subst hr; exact ⟨hp64.1, hq64.2⟩, fun r hr => by simp at hr; subst hr; simp only; omega⟩
  have oz : S.ok ⟨(x.get i).a, [(p.1, q.2)], (x.get i).c, (x.get i).s⟩ := ⟨by simp [maxLen], (kx.at hi).ls, nz.r, (kx.at hi).rs⟩
  have hd : (hullF [x] [y]).2.1 = (q.1 - p.2) / 2 := by rw [H.eq]; exact between_val hp64.2 hq64.1 H.ok
  refine ⟨x, y, x.put i ⟨(x.get i).a, [(p.1, q.2)], (x.get i).c, (x.get i).s⟩, ⟨rfl, rfl, nx, ny, put_num hi nx nz, put_ok hi kx oz, by omega, hge.2, fun e he => ?_⟩, by rw [H.eq]⟩
  refine near_box hi (by omega) nx ny (put_num hi nx nz) (fun j hj hne => (sameS_iff.1 (hsame j hj hne)).symm) ?_ he
  rw [hd]
  exact hull_near (nx i hi) (ny i hi) H.at' H.ea H.ec H.es b1 b2 b3 nz

theorem addG_eq {a b : Int} (ha : 0 ≤ a ∧ a ≤ far) (hb : 0 ≤ b ∧ b ≤ far) : addG a b = min (a + b) far := by
  unfold addG far at *
  rw [IntKind.wrap_u64, IntKind.wrap_u64]
  split <;> omega
theorem tryF_some {r : List B × Int × Bool} {sa sb slack : Int} (h : (tryF r sa sb slack).2.2 = true) : r.2.2 = true ∧ addG (mxU sa sb) r.2.1 ≤ slack ∧ addG (mxU sa sb) r.2.1 ≠ far ∧ tryF r sa sb slack = (r.1, addG (mxU sa sb) r.2.1, true) := by
  unfold tryF at h ⊢
  split at h
  · cases h
  · rename_i hc
    rw [if_neg hc]
    simp only [Bool.or_eq_true, Bool.not_eq_true', beq_iff_eq, not_or, Bool.not_eq_false, decide_eq_true_eq] at hc
    exact ⟨hc.1.1, by omega, hc.2, rfl⟩
theorem entries_some {a b : List B} (ha : ∀ x ∈ a, x.ok) (hb : ∀ x ∈ b, x.ok) {sa sb slack : Int} (h : (entriesF a b sa sb slack).2.2 = true) :
    ∃ x y z d, Merged a b x y z d ∧ entriesF a b sa sb slack = ([z], addG (mxU sa sb) d, true) ∧ addG (mxU sa sb) d ≤ slack ∧ addG (mxU sa sb) d ≠ far := by
  unfold entriesF at h ⊢
  split at h
  · rename_i hp
    rw [if_pos hp]
    obtain ⟨x, y, z, M, e⟩ := merged_perf ha hb hp
    rw [e] at h ⊢
    obtain ⟨-, h2, h3, h4⟩ := tryF_some h
    exact ⟨x, y, z, 0, M, h4, h2, h3⟩
  · rename_i hp
    rw [if_neg hp]
    split at h
    · rename_i hh
      rw [if_pos hh]
      obtain ⟨x, y, z, M, e⟩ := merged_hull ha hb hh
      rw [e] at h ⊢
      obtain ⟨-, h2, h3, h4⟩ := tryF_some h
      exact ⟨x, y, z, _, M, h4, h2, h3⟩
    · cases h
theorem tryF_no {r : List B × Int × Bool} {sa sb slack : Int} (h : (tryF r sa sb slack).2.2 = false) : tryF r sa sb slack = ([], 0, false) := by
  unfold tryF at h ⊢
  split at h
  · rename_i hc; rw [if_pos hc]
  · cases h
theorem entries_no {a b : List B} {sa sb slack : Int} (h : (entriesF a b sa sb slack).2.2 = false) : entriesF a b sa sb slack = ([], 0, false) := by
  unfold entriesF at h ⊢
  split at h
  · rename_i hp; rw [if_pos hp]; exact tryF_no h
  · rename_i hp
    rw [if_neg hp]
    split at h
    · rename_i hh; rw [if_pos hh]; exact tryF_no h
    · rename_i hh; rw [if_neg hh]

theorem Merged.has {a b : List B} {x y z : B} {d : Int} (M : Merged a b x y z d) {e : E} (he : e.ok) (h : hasF [z] e = true) : mnU (distF a e) (distF b e) ≤ d := by
  have hz : hasB z e = true := by simpa [hasF] using h
  have := M.near e he
  rw [has_dist hz] at this
  rw [M.ha, M.hb, distF_one M.xn he, distF_one M.yn he]
  omega
/-- the law's two sentences -/
theorem slack_law {a b : List B} (ha : ∀ x ∈ a, x.ok) (hb : ∀ x ∈ b, x.ok) {e : E} (he : e.ok) (slack : Int) :
    ((hullF a b).2.2 && hasF (hullF a b).1 e && decide ((hullF a b).2.1 < mnU (distF a e) (distF b e))) = false ∧
    (!(entriesF a b 0 0 slack).2.2 || (decide ((entriesF a b 0 0 slack).2.1 ≤ slack) && (!hasF (entriesF a b 0 0 slack).1 e || decide (mnU (distF a e) (distF b e) ≤ (entriesF a b 0 0 slack).2.1)))) = true := by
  refine ⟨?_, ?_⟩
  · cases h : (hullF a b).2.2 with
    | false => rfl
    | true =>
      obtain ⟨x, y, z, M, e1⟩ := merged_hull ha hb h
      rw [e1]
      simp only [Bool.true_and, Bool.and_eq_false_iff, decide_eq_false_iff_not]
      cases hh : hasF [z] e with
      | false => exact .inl rfl
      | true => right; have := M.has he hh; omega
  · cases h : (entriesF a b 0 0 slack).2.2 with
    | false => rfl
    | true =>
      obtain ⟨x, y, z, d, M, e1, e2, e3⟩ := entries_some ha hb h
      rw [e1]
      have hm : mxU 0 0 = 0 := by decide
      rw [hm] at e2 e3 ⊢
      have hd : addG 0 d = d := by
        have := M.d0
        have := M.d1
        exact addG_zero (by omega) (by omega)
      rw [hd] at e2 ⊢
      simp only [Bool.not_true, Bool.false_or, Bool.and_eq_true, decide_eq_true_eq, Bool.or_eq_true, Bool.not_eq_true']
      refine ⟨e2, ?_⟩
      cases hh : hasF [z] e with
      | false => exact .inl rfl
      | true => exact .inr (M.has he hh)
theorem mn3 (a b c : Int) : mnU (mnU a b) c ≤ a ∧ mnU (mnU a b) c ≤ b ∧ mnU (mnU a b) c ≤ c := by
  unfold mnU; split <;> split <;> omega
theorem three_law {a b c : List B} (ha : ∀ x ∈ a, x.ok) (hb : ∀ x ∈ b, x.ok) (hc : ∀ x ∈ c, x.ok) {e : E} (he : e.ok) {slack : Int} (h1 : (entriesF a b 0 0 slack).2.2 = true) :
    (entriesF (entriesF a b 0 0 slack).1 c (entriesF a b 0 0 slack).2.1 0 slack).2.2 = true →
    (!hasF (entriesF (entriesF a b 0 0 slack).1 c (entriesF a b 0 0 slack).2.1 0 slack).1 e || (decide (mnU (mnU (distF a e) (distF b e)) (distF c e) ≤ (entriesF (entriesF a b 0 0 slack).1 c (entriesF a b 0 0 slack).2.1 0 slack).2.1) &&
      decide ((entriesF (entriesF a b 0 0 slack).1 c (entriesF a b 0 0 slack).2.1 0 slack).2.1 ≤ slack))) = true := by
  obtain ⟨x, y, z, d, M, e1, e2, e3⟩ := entries_some ha hb h1
  rw [e1]
  have hm : mxU 0 0 = 0 := by decide
  rw [hm] at e2 e3 ⊢
  have m0 := M.d0
  have m1 := M.d1
  rw [addG_zero (by omega) (by omega)] at e2 e3 ⊢
  intro h2
  obtain ⟨z', y', w, d', M', k1, k2, k3⟩ := entries_some (fun q hq => by rw [List.mem_singleton] at hq; subst hq; exact M.zo) hc h2
  simp only at k1 k2 k3 ⊢
  rw [k1]
  obtain rfl : z = z' := by have := M'.ha; simpa using this
  have hm2 : mxU d 0 = d := by unfold mxU; split <;> omega
  rw [hm2] at k2 k3 ⊢
  have n0 := M'.d0
  have n1 := M'.d1
  have hadd : addG d d' = min (d + d') far := addG_eq ⟨by omega, by unfold far; omega⟩ ⟨by omega, by unfold far; omega⟩
  have hadd2 : addG d d' = d + d' := by rw [hadd] at k3 ⊢; omega
  rw [hadd2] at k2 ⊢
  simp only [Bool.and_eq_true, decide_eq_true_eq, Bool.or_eq_true, Bool.not_eq_true']
  cases hh : hasF [w] e with
  | false => exact .inl rfl
  | true =>
    right
    refine ⟨?_, k2⟩
    have hm := M'.has he hh
    rw [distF_one M.zn he] at hm
    have near := M.near e he
    rw [← distF_one M.xn he, ← distF_one M.yn he, ← M.ha, ← M.hb] at near
    have h3 := mn3 (distF a e) (distF b e) (distF c e)
    have hmc : mnU (distB z e) (distF c e) = distB z e ∨ mnU (distB z e) (distF c e) = distF c e := by unfold mnU; split <;> simp
    have hmab : mnU (distF a e) (distF b e) = distF a e ∨ mnU (distF a e) (distF b e) = distF b e := by unfold mnU; split <;> simp
    rcases hmc with hmc | hmc <;> rcases hmab with hmab | hmab <;> omega
end Arb

/-
  MergeSlack, MergeThree: THE WALKS.
-/
set_option linter.unusedSimpArgs false
namespace Arb
open Go

theorem fit_val {xs : List IV} (h : FitsL shValue xs) : ∃ v : V, xs = v.enc ∧ in64 v.n := by
  obtain ⟨a, _, rfl, ha, h⟩ := h.one
  obtain ⟨b, _, rfl, hb, h⟩ := h.one
  obtain ⟨c, _, rfl, hc, h⟩ := h.one
  obtain rfl := h.none
  obtain ⟨k, rfl, _⟩ := fit_int ha
  obtain ⟨n, rfl, hn⟩ := fit_int hb
  obtain ⟨s, rfl, _⟩ := fit_str hc
  exact ⟨⟨k, n, s⟩, rfl, wf64 hn⟩
theorem arg_event {x : AV} (h : ArgIs true shEvent x) : ∃ e : E, x = e.av ∧ e.ok := by
  obtain ⟨xs, h, rfl⟩ := h
  obtain ⟨_, r1, rfl, h0, h⟩ := FitsL.split h
  obtain ⟨_, r2, rfl, h1, h⟩ := FitsL.split h
  obtain ⟨_, _, rfl, h2, h3⟩ := FitsL.split h
  obtain ⟨v0, rfl, k0⟩ := fit_val h0
  obtain ⟨v1, rfl, k1⟩ := fit_val h1
  obtain ⟨v2, rfl, k2⟩ := fit_val h2
  obtain ⟨v3, rfl, k3⟩ := fit_val h3
  refine ⟨⟨v0, v1, v2, v3⟩, rfl, fun i hi => ?_⟩
  match i, hi with
  | 0, _ => exact k0
  | 1, _ => exact k1
  | 2, _ => exact k2
  | 3, _ => exact k3
theorem wfu {n : Int} (h : (Lit.int .u64 n).wf = true) : 0 ≤ n ∧ n ≤ far := by
  simp only [Lit.wf, Bool.and_eq_true, decide_eq_true_eq] at h
  rw [show IntKind.u64.min = 0 by decide, show IntKind.u64.max = 18446744073709551615 by decide] at h
  exact h
theorem arg_u64 {x : AV} (h : ArgIs false [.int .u64] x) : ∃ n, x = .iv (.int .u64 n) ∧ 0 ≤ n ∧ n ≤ far := by
  obtain ⟨xs, h, y, rfl, rfl⟩ := h
  obtain ⟨n, rfl, hn⟩ := fit_int h.1
  exact ⟨n, rfl, wfu hn⟩
theorem entriesF_fits {a b : List B} (ha : ∀ x ∈ a, x.ok) (hb : ∀ x ∈ b, x.ok) (sa sb slack : Int) : (entriesF a b sa sb slack).1.length ≤ maxLen ∧ ∀ z ∈ (entriesF a b sa sb slack).1, z.ok := by
  cases h : (entriesF a b sa sb slack).2.2 with
  | false => rw [entries_no h]; exact ⟨Nat.zero_le _, fun z h => by cases h⟩
  | true =>
    obtain ⟨x, y, z, d, M, e1, -, -⟩ := entries_some ha hb h
    rw [e1]
    exact ⟨by simp [maxLen], fun q hq => by rw [List.mem_singleton] at hq; subst hq; exact M.zo⟩

structure Lib8 (prog : Nat → Option IFn) : Prop extends Lib7 prog, Dist prog where
  h6 : prog 6 = some F6
  h8 : prog 8 = some F8
  h15 : prog 15 = some F15
  h20 : prog 20 = some F20
  h34 : prog 34 = some F34

section
variable {prog : Nat → Option IFn}

set_option maxHeartbeats 8000000 in
theorem p_slack (H : Lib8 prog) (hA : Ans prog 4 [] (.iv (.bool true))) (h0 : prog 0 = some F0) (a b : List B) (e : E) (slack : Int) (la : a.length ≤ maxLen) (lb : b.length ≤ maxLen) (ha : ∀ x ∈ a, x.ok) (hb : ∀ x ∈ b, x.ok) (he : e.ok) :
    ∃ p : AV × Hp, p.1 = .iv (.bool true) ∧ Ev prog 0 [filt a, filt b, e.av, .iv (.int .u64 slack)] [] p := by
  obtain ⟨KA, hKA⟩ := hA
  obtain ⟨K1, hK1⟩ := p_few6 H.h27 H.h14 H.h5 a la
  obtain ⟨K2, hK2⟩ := p_few6 H.h27 H.h14 H.h5 b lb
  obtain ⟨K3, hK3⟩ := p_distF H.toDist H.h15 H.h6 a e la (fun x h => (ha x h).fits)
  obtain ⟨K4, hK4⟩ := p_distF H.toDist H.h15 H.h6 b e lb (fun x h => (hb x h).fits)
  obtain ⟨K5, hK5⟩ := p_hull H.toLib5 a b (fun x h => (ha x h).fits) (fun x h => (hb x h).fits)
  obtain ⟨K7, hK7⟩ := p_entries H.toLib6 a b (fun x h => (ha x h).fits) (fun x h => (hb x h).fits) 0 0 0 0 slack
  obtain ⟨lg, hg⟩ := hullF_fits (a := a) (b := b) (fun x h => (ha x h).fits)
  obtain ⟨lx, hx⟩ := entriesF_fits ha hb 0 0 slack
  obtain ⟨law1, law2⟩ := slack_law ha hb he slack
  generalize hullF a b = g at hK5 lg hg law1
  generalize entriesF a b 0 0 slack = x at hK7 lx hx law2
  generalize distF a e = da at hK3 law1 law2
  generalize distF b e = db at hK4 law1 law2
  obtain ⟨K6, hK6⟩ := p_hasF H.toHas3 H.h34 H.h20 H.h8 g.1 e lg hg
  obtain ⟨K8, hK8⟩ := p_hasF H.toHas3 H.h34 H.h20 H.h8 x.1 e lx (fun z h => (hx z h).fits)
  refine Ev.ofx h0 rfl rfl _ (Wp.seq ?_)
  refine Wp.rgn (K := 0) (s' := ⟨[(0, filt a), (1, filt b), (3, .iv (.int .u64 slack)), (6, .ref 1000 0 0 0)], [(1000, .cells e.cs)], 1128⟩) (fun n _ => by simp [evalRgn, Option.map_some, evalOps, step, wants, osem, M.run_bind, M.mapL, M.run, M.ok, M.fresh, M.write, M.look, M.lift, putD, Arb.set, ev, Arb.get, keepFr, bin, intBin, strBin, mk, params, cellsM, load, obRead, fadr, fld, isl, iarr, xarr, idx, len, valid, slc, bound, store, splice, nilc, un, eqs, eq0, evalFeet, footOf, M.foot, orderOk, apartAll, apart1, clash, meets, callM, fcallM, callee, fz1, flat, flat1, flat0, flatI, Option.bind_some, putAll, M.bind, E.av, E.cs_nilc]) ?_
  refine Wp.seq (Wp.seq ?_)
  refine Wp.rgn (K := max KA (max K1 K2)) (s' := ⟨[(0, filt a), (1, filt b), (3, .iv (.int .u64 slack)), (6, .ref 1000 0 0 0), (26, .iv (.bool (!few a || !few b)))], [(1000, .cells e.cs)], 1896⟩) (fun n hn => by
    have e0 := hKA n (by omega)
    have e1 := hK1 n (by omega)
    have e2 := hK2 n (by omega)
    simp only [filt] at e1 e2
    generalize evalF prog n = g at e0 e1 e2
    cases h1 : few a <;> rw [h1] at e1 <;> simp [evalRgn, Option.map_some, evalOps, step, wants, osem, M.run_bind, M.mapL, M.run, M.ok, M.fresh, M.write, M.look, M.lift, putD, Arb.set, ev, Arb.get, keepFr, bin, intBin, strBin, mk, params, cellsM, load, obRead, fadr, fld, isl, iarr, xarr, idx, len, valid, slc, bound, store, splice, nilc, un, eqs, eq0, evalFeet, footOf, M.foot, orderOk, apartAll, apart1, clash, meets, callM, fcallM, callee, fz1, fzC, fz, flat, flat1, flat0, flatI, Option.bind_some, putAll, M.bind, filt, e0, e1, e2]) ?_
  refine Wp.cond rfl ?_
  cases hc : !few a || !few b with
  | true =>
    refine Wp.seq ?_
    refine Wp.rgn (K := KA) (s' := ⟨[(8, .iv (.bool true))], [(1000, .cells e.cs)], 2024⟩) (fun n hn => by
      have e0 := hKA n hn
      generalize evalF prog n = g at e0
      simp [evalRgn, Option.map_some, evalOps, step, wants, osem, M.run_bind, M.mapL, M.run, M.ok, M.fresh, M.write, M.look, M.lift, putD, Arb.set, ev, Arb.get, keepFr, bin, intBin, strBin, mk, params, cellsM, load, obRead, fadr, fld, isl, iarr, xarr, idx, len, valid, slc, bound, store, splice, nilc, un, eqs, eq0, evalFeet, footOf, M.foot, orderOk, apartAll, apart1, clash, meets, callM, fcallM, callee, fz1, fzC, fz, flat, flat1, flat0, flatI, Option.bind_some, putAll, M.bind, e0]) ?_
    exact Wp.ret ⟨(.iv (.bool true), [(1000, .cells e.cs)]), rfl, rfl⟩
  | false =>
    refine Wp.skip (Wp.seq ?_)
    refine Wp.rgn (K := max K3 K4) (s' := ⟨[(0, filt a), (1, filt b), (3, .iv (.int .u64 slack)), (6, .ref 1000 0 0 0), (9, .iv (.int .u64 (mnU da db)))], [(1000, .cells e.cs)], 2408⟩) (fun n hn => rgn_quiet' rfl (by
      have e0 := hK3 n (by omega)
      have e1 := hK4 n (by omega)
      simp only [filt, E.av] at e0 e1
      generalize evalF prog n = g at e0 e1
      simp [evalRgn, Option.map_some, evalOps, step, wants, osem, M.run_bind, M.mapL, M.run, M.ok, M.fresh, M.write, M.look, M.lift, putD, Arb.set, ev, Arb.get, keepFr, bin, intBin, strBin, mk, params, cellsM, load, obRead, fadr, fld, isl, iarr, xarr, idx, len, valid, slc, bound, store, splice, nilc, un, eqs, eq0, evalFeet, footOf, M.foot, orderOk, apartAll, apart1, clash, meets, callM, fcallM, callee, fz1, flat, flat1, flat0, flatI, Option.bind_some, putAll, M.bind, fzC_sl, filt, e0, e1, E.cs_12, E.cs_len, E.cs_fzC, mnI, mnU])) ?_
    refine Wp.seq ?_
    refine Wp.rgn (K := K5) (s' := ⟨[(0, filt a), (1, filt b), (3, .iv (.int .u64 slack)), (6, .ref 1000 0 0 0), (9, .iv (.int .u64 (mnU da db))), (10, filt g.1), (11, .iv (.int .u64 g.2.1)), (12, .iv (.bool g.2.2))], [(1000, .cells e.cs)], 3048⟩) (fun n hn => by
      have e0 := hK5 n hn
      simp only [filt] at e0
      generalize evalF prog n = g at e0
      simp [evalRgn, Option.map_some, evalOps, step, wants, osem, M.run_bind, M.mapL, M.run, M.ok, M.fresh, M.write, M.look, M.lift, putD, Arb.set, ev, Arb.get, keepFr, bin, intBin, strBin, mk, params, cellsM, load, obRead, fadr, fld, isl, iarr, xarr, idx, len, valid, slc, bound, store, splice, nilc, un, eqs, eq0, evalFeet, footOf, M.foot, orderOk, apartAll, apart1, clash, meets, callM, fcallM, callee, fz1, fzC, fz, flat, flat1, flat0, flatI, Option.bind_some, putAll, M.bind, filt, e0]) ?_
    refine Wp.seq (Wp.seq ?_)
    refine Wp.rgn (K := K6) (s' := ⟨[(0, filt a), (1, filt b), (3, .iv (.int .u64 slack)), (6, .ref 1000 0 0 0), (9, .iv (.int .u64 (mnU da db))), (52, .iv (.bool (g.2.2 && hasF g.1 e && decide (g.2.1 < mnU da db))))], [(1000, .cells e.cs)], 3752⟩) (fun n hn => by
      have e0 := hK6 n hn
      simp only [filt, E.av] at e0
      generalize evalF prog n = gg at e0
      cases h1 : g.2.2 with
      | false => simp [evalRgn, Option.map_some, evalOps, step, wants, osem, M.run_bind, M.mapL, M.run, M.ok, M.fresh, M.write, M.look, M.lift, putD, Arb.set, ev, Arb.get, keepFr, bin, intBin, strBin, mk, params, cellsM, load, obRead, fadr, fld, isl, iarr, xarr, idx, len, valid, slc, bound, store, splice, nilc, un, eqs, eq0, evalFeet, footOf, M.foot, orderOk, apartAll, apart1, clash, meets, callM, fcallM, callee, fz1, flat, flat1, flat0, flatI, Option.bind_some, putAll, M.bind, filt, E.cs_12, E.cs_len, E.cs_fzC, h1]
      | true => cases h2 : hasF g.1 e <;> rw [h2] at e0 <;> simp [evalRgn, Option.map_some, evalOps, step, wants, osem, M.run_bind, M.mapL, M.run, M.ok, M.fresh, M.write, M.look, M.lift, putD, Arb.set, ev, Arb.get, keepFr, bin, intBin, strBin, mk, params, cellsM, load, obRead, fadr, fld, isl, iarr, xarr, idx, len, valid, slc, bound, store, splice, nilc, un, eqs, eq0, evalFeet, footOf, M.foot, orderOk, apartAll, apart1, clash, meets, callM, fcallM, callee, fz1, flat, flat1, flat0, flatI, Option.bind_some, putAll, M.bind, fzC_sl, filt, e0, E.cs_12, E.cs_len, E.cs_fzC, h1]) ?_
    rw [law1]
    refine Wp.cond rfl (Wp.skip (Wp.seq ?_))
    refine Wp.rgn (K := K7) (s' := ⟨[(3, .iv (.int .u64 slack)), (6, .ref 1000 0 0 0), (9, .iv (.int .u64 (mnU da db))), (13, .ref 4328 0 0 0), (14, .iv (.bool x.2.2))], [(1000, .cells e.cs), (4330, .buf 0 16 []), (4328, .cells [.iv (.int .i64 0), filt x.1, .iv (.int .u64 x.2.1)])], 4520⟩) (fun n hn => by
      have e0 := hK7 n hn
      simp only [entry, List.map_cons, List.map_nil] at e0
      generalize evalF prog n = g at e0
      simp [evalRgn, Option.map_some, evalOps, step, wants, osem, M.run_bind, M.mapL, M.run, M.ok, M.fresh, M.write, M.look, M.lift, putD, Arb.set, ev, Arb.get, keepFr, bin, intBin, strBin, mk, params, cellsM, load, obRead, fadr, fld, isl, iarr, xarr, idx, len, valid, slc, bound, store, splice, nilc, un, eqs, eq0, evalFeet, footOf, M.foot, orderOk, apartAll, apart1, clash, meets, callM, fcallM, callee, fz1, fzC, fz, flat, flat1, flat0, flatI, Option.bind_some, putAll, M.bind, filt, e0]) ?_
    refine Wp.seq ?_
    refine Wp.rgn (K := K8) (s' := ⟨[(8, .iv (.bool (!x.2.2 || (decide (x.2.1 ≤ slack) && (!hasF x.1 e || decide (mnU da db ≤ x.2.1))))))], [(1000, .cells e.cs), (4330, .buf 0 16 []), (4328, .cells [.iv (.int .i64 0), filt x.1, .iv (.int .u64 x.2.1)])], 5928⟩) (fun n hn => by
      have e0 := hK8 n hn
      simp only [filt, E.av] at e0
      generalize evalF prog n = gg at e0
      cases h1 : x.2.2 with
      | false => simp [evalRgn, Option.map_some, evalOps, step, wants, osem, M.run_bind, M.mapL, M.run, M.ok, M.fresh, M.write, M.look, M.lift, putD, Arb.set, ev, Arb.get, keepFr, bin, intBin, strBin, mk, params, cellsM, load, obRead, fadr, fld, isl, iarr, xarr, idx, len, valid, slc, bound, store, splice, nilc, un, eqs, eq0, evalFeet, footOf, M.foot, orderOk, apartAll, apart1, clash, meets, callM, fcallM, callee, fz1, flat, flat1, flat0, flatI, Option.bind_some, putAll, M.bind, filt, E.cs_12, E.cs_len, E.cs_fzC, h1]
      | true =>
        cases h2 : decide (x.2.1 ≤ slack) with
        | false => simp [evalRgn, Option.map_some, evalOps, step, wants, osem, M.run_bind, M.mapL, M.run, M.ok, M.fresh, M.write, M.look, M.lift, putD, Arb.set, ev, Arb.get, keepFr, bin, intBin, strBin, mk, params, cellsM, load, obRead, fadr, fld, isl, iarr, xarr, idx, len, valid, slc, bound, store, splice, nilc, un, eqs, eq0, evalFeet, footOf, M.foot, orderOk, apartAll, apart1, clash, meets, callM, fcallM, callee, fz1, flat, flat1, flat0, flatI, Option.bind_some, putAll, M.bind, filt, E.cs_12, E.cs_len, E.cs_fzC, h1, h2]
        | true => cases h3 : hasF x.1 e <;> rw [h3] at e0 <;> simp [evalRgn, Option.map_some, evalOps, step, wants, osem, M.run_bind, M.mapL, M.run, M.ok, M.fresh, M.write, M.look, M.lift, putD, Arb.set, ev, Arb.get, keepFr, bin, intBin, strBin, mk, params, cellsM, load, obRead, fadr, fld, isl, iarr, xarr, idx, len, valid, slc, bound, store, splice, nilc, un, eqs, eq0, evalFeet, footOf, M.foot, orderOk, apartAll, apart1, clash, meets, callM, fcallM, callee, fz1, flat, flat1, flat0, flatI, Option.bind_some, putAll, M.bind, fzC_sl, filt, e0, E.cs_12, E.cs_len, E.cs_fzC, h1, h2]) ?_
    rw [law2]
    exact Wp.ret ⟨(.iv (.bool true), [(1000, .cells e.cs), (4330, .buf 0 16 []), (4328, .cells [.iv (.int .i64 0), filt x.1, .iv (.int .u64 x.2.1)])]), rfl, rfl⟩
end
end Arb

/-
  MergeThree: THE WALK.
-/
set_option linter.unusedSimpArgs false
namespace Arb
open Go

section
variable {prog : Nat → Option IFn}

set_option maxHeartbeats 8000000 in
theorem p_three (H : Lib8 prog) (hA : Ans prog 4 [] (.iv (.bool true))) (h1 : prog 1 = some F1) (a b c : List B) (e : E) (slack : Int) (la : a.length ≤ maxLen) (lb : b.length ≤ maxLen) (lc : c.length ≤ maxLen)
    (ha : ∀ x ∈ a, x.ok) (hb : ∀ x ∈ b, x.ok) (hc : ∀ x ∈ c, x.ok) (he : e.ok) :
    ∃ p : AV × Hp, p.1 = .iv (.bool true) ∧ Ev prog 1 [filt a, filt b, filt c, e.av, .iv (.int .u64 slack)] [] p := by
  obtain ⟨KA, hKA⟩ := hA
  obtain ⟨K1, hK1⟩ := p_few6 H.h27 H.h14 H.h5 a la
  obtain ⟨K2, hK2⟩ := p_few6 H.h27 H.h14 H.h5 b lb
  obtain ⟨K9, hK9⟩ := p_few6 H.h27 H.h14 H.h5 c lc
  obtain ⟨K3, hK3⟩ := p_distF H.toDist H.h15 H.h6 a e la (fun x h => (ha x h).fits)
  obtain ⟨K4, hK4⟩ := p_distF H.toDist H.h15 H.h6 b e lb (fun x h => (hb x h).fits)
  obtain ⟨K5, hK5⟩ := p_distF H.toDist H.h15 H.h6 c e lc (fun x h => (hc x h).fits)
  obtain ⟨K6, hK6⟩ := p_entries H.toLib6 a b (fun x h => (ha x h).fits) (fun x h => (hb x h).fits) 0 0 0 0 slack
  obtain ⟨lx, hx⟩ := entriesF_fits ha hb 0 0 slack
  have law := three_law ha hb hc he (slack := slack)
  generalize entriesF a b 0 0 slack = x at hK6 lx hx law
  obtain ⟨K7, hK7⟩ := p_entries H.toLib6 x.1 c (fun z h => (hx z h).fits) (fun z h => (hc z h).fits) 0 0 x.2.1 0 slack
  obtain ⟨ly, hy⟩ := entriesF_fits (fun z h => hx z h) hc x.2.1 0 slack
  generalize entriesF x.1 c x.2.1 0 slack = y at hK7 ly hy law
  generalize distF a e = da at hK3 law
  generalize distF b e = db at hK4 law
  generalize distF c e = dc at hK5 law
  obtain ⟨K8, hK8⟩ := p_hasF H.toHas3 H.h34 H.h20 H.h8 y.1 e ly (fun z h => (hy z h).fits)
  refine Ev.ofx h1 rfl rfl _ (Wp.seq ?_)
  refine Wp.rgn (K := 0) (s' := ⟨[(0, filt a), (1, filt b), (2, filt c), (4, .iv (.int .u64 slack)), (8, .ref 1000 0 0 0)], [(1000, .cells e.cs)], 1128⟩) (fun n _ => by simp [evalRgn, Option.map_some, evalOps, step, wants, osem, M.run_bind, M.mapL, M.run, M.ok, M.fresh, M.write, M.look, M.lift, putD, Arb.set, ev, Arb.get, keepFr, bin, intBin, strBin, mk, params, cellsM, load, obRead, fadr, fld, isl, iarr, xarr, idx, len, valid, slc, bound, store, splice, nilc, un, eqs, eq0, evalFeet, footOf, M.foot, orderOk, apartAll, apart1, clash, meets, callM, fcallM, callee, fz1, flat, flat1, flat0, flatI, Option.bind_some, putAll, M.bind, E.av, E.cs_nilc]) ?_
  refine Wp.seq (Wp.seq ?_)
  refine Wp.rgn (K := max KA (max K1 (max K2 K9))) (s' := ⟨[(0, filt a), (1, filt b), (2, filt c), (4, .iv (.int .u64 slack)), (8, .ref 1000 0 0 0), (32, .iv (.bool (!few a || !few b || !few c)))], [(1000, .cells e.cs)], 2216⟩) (fun n hn => by
    have e0 := hKA n (by omega)
    have e1 := hK1 n (by omega)
    have e2 := hK2 n (by omega)
    have e3 := hK9 n (by omega)
    simp only [filt] at e1 e2 e3
    generalize evalF prog n = g at e0 e1 e2 e3
    cases h1 : few a <;> rw [h1] at e1 <;> cases h2 : few b <;> rw [h2] at e2 <;> simp [evalRgn, Option.map_some, evalOps, step, wants, osem, M.run_bind, M.mapL, M.run, M.ok, M.fresh, M.write, M.look, M.lift, putD, Arb.set, ev, Arb.get, keepFr, bin, intBin, strBin, mk, params, cellsM, load, obRead, fadr, fld, isl, iarr, xarr, idx, len, valid, slc, bound, store, splice, nilc, un, eqs, eq0, evalFeet, footOf, M.foot, orderOk, apartAll, apart1, clash, meets, callM, fcallM, callee, fz1, fzC, fz, flat, flat1, flat0, flatI, Option.bind_some, putAll, M.bind, filt, e0, e1, e2, e3]) ?_
  refine Wp.cond rfl ?_
  cases hcf : !few a || !few b || !few c with
  | true =>
    refine Wp.seq ?_
    refine Wp.rgn (K := KA) (s' := ⟨[(10, .iv (.bool true))], [(1000, .cells e.cs)], 2344⟩) (fun n hn => by
      have e0 := hKA n hn
      generalize evalF prog n = g at e0
      simp [evalRgn, Option.map_some, evalOps, step, wants, osem, M.run_bind, M.mapL, M.run, M.ok, M.fresh, M.write, M.look, M.lift, putD, Arb.set, ev, Arb.get, keepFr, bin, intBin, strBin, mk, params, cellsM, load, obRead, fadr, fld, isl, iarr, xarr, idx, len, valid, slc, bound, store, splice, nilc, un, eqs, eq0, evalFeet, footOf, M.foot, orderOk, apartAll, apart1, clash, meets, callM, fcallM, callee, fz1, fzC, fz, flat, flat1, flat0, flatI, Option.bind_some, putAll, M.bind, e0]) ?_
    exact Wp.ret ⟨(.iv (.bool true), [(1000, .cells e.cs)]), rfl, rfl⟩
  | false =>
    refine Wp.skip (Wp.seq ?_)
    refine Wp.rgn (K := K6) (s' := ⟨[(0, filt a), (1, filt b), (2, filt c), (4, .iv (.int .u64 slack)), (8, .ref 1000 0 0 0), (11, .ref 2792 0 0 0), (12, .iv (.bool x.2.2))], [(1000, .cells e.cs), (2794, .buf 0 16 []), (2792, .cells [.iv (.int .i64 0), filt x.1, .iv (.int .u64 x.2.1)])], 2984⟩) (fun n hn => by
      have e0 := hK6 n hn
      simp only [entry, List.map_cons, List.map_nil] at e0
      generalize evalF prog n = g at e0
      simp [evalRgn, Option.map_some, evalOps, step, wants, osem, M.run_bind, M.mapL, M.run, M.ok, M.fresh, M.write, M.look, M.lift, putD, Arb.set, ev, Arb.get, keepFr, bin, intBin, strBin, mk, params, cellsM, load, obRead, fadr, fld, isl, iarr, xarr, idx, len, valid, slc, bound, store, splice, nilc, un, eqs, eq0, evalFeet, footOf, M.foot, orderOk, apartAll, apart1, clash, meets, callM, fcallM, callee, fz1, fzC, fz, flat, flat1, flat0, flatI, Option.bind_some, putAll, M.bind, filt, e0]) ?_
    refine Wp.seq ?_
    refine Wp.rgn (K := K7) (s' := ⟨[(0, filt a), (1, filt b), (2, filt c), (4, .iv (.int .u64 slack)), (8, .ref 1000 0 0 0), (12, .iv (.bool x.2.2)), (13, .ref 3496 0 0 0), (14, .iv (.bool y.2.2))], [(1000, .cells e.cs), (2794, .buf 0 16 []), (2792, .cells [.iv (.int .i64 0), filt x.1, .iv (.int .u64 x.2.1)]), (3498, .buf 0 16 []), (3496, .cells [.iv (.int .i64 0), filt y.1, .iv (.int .u64 y.2.1)])], 3688⟩) (fun n hn => by
      have e0 := hK7 n hn
      simp only [entry, List.map_cons, List.map_nil] at e0
      generalize evalF prog n = g at e0
      simp [evalRgn, Option.map_some, evalOps, step, wants, osem, M.run_bind, M.mapL, M.run, M.ok, M.fresh, M.write, M.look, M.lift, putD, Arb.set, ev, Arb.get, keepFr, bin, intBin, strBin, mk, params, cellsM, load, obRead, fadr, fld, isl, iarr, xarr, idx, len, valid, slc, bound, store, splice, nilc, un, eqs, eq0, evalFeet, footOf, M.foot, orderOk, apartAll, apart1, clash, meets, callM, fcallM, callee, fz1, fzC, fz, flat, flat1, flat0, flatI, Option.bind_some, putAll, M.bind, filt, e0]) ?_
    refine Wp.seq (Wp.seq ?_)
    refine Wp.rgn (K := 0) (s' := ⟨[(0, filt a), (1, filt b), (2, filt c), (4, .iv (.int .u64 slack)), (8, .ref 1000 0 0 0), (13, .ref 3496 0 0 0), (56, .iv (.bool (!x.2.2 || !y.2.2)))], [(1000, .cells e.cs), (2794, .buf 0 16 []), (2792, .cells [.iv (.int .i64 0), filt x.1, .iv (.int .u64 x.2.1)]), (3498, .buf 0 16 []), (3496, .cells [.iv (.int .i64 0), filt y.1, .iv (.int .u64 y.2.1)])], 4072⟩) (fun n hn => by
      cases h1 : x.2.2 <;> simp [evalRgn, Option.map_some, evalOps, step, wants, osem, M.run_bind, M.mapL, M.run, M.ok, M.fresh, M.write, M.look, M.lift, putD, Arb.set, ev, Arb.get, keepFr, bin, intBin, strBin, mk, params, cellsM, load, obRead, fadr, fld, isl, iarr, xarr, idx, len, valid, slc, bound, store, splice, nilc, un, eqs, eq0, evalFeet, footOf, M.foot, orderOk, apartAll, apart1, clash, meets, callM, fcallM, callee, fz1, fzC, fz, flat, flat1, flat0, flatI, Option.bind_some, putAll, M.bind, filt, h1]) ?_
    refine Wp.cond rfl ?_
    cases hxy : !x.2.2 || !y.2.2 with
    | true =>
      refine Wp.seq ?_
      refine Wp.rgn (K := 0) (fun n _ => by simp [evalRgn, Option.map_some, evalOps, step, wants, osem, M.run_bind, M.mapL, M.run, M.ok, M.fresh, M.write, M.look, M.lift, putD, Arb.set, ev, Arb.get, keepFr, bin, intBin, strBin, mk, params, cellsM, load, obRead, fadr, fld, isl, iarr, xarr, idx, len, valid, slc, bound, store, splice, nilc, un, eqs, eq0, evalFeet, footOf, M.foot, orderOk, apartAll, apart1, clash, meets, callM, fcallM, callee, fz1, fzC, fz, flat, flat1, flat0, flatI, Option.bind_some, putAll, M.bind]; rfl) ?_
      exact Wp.ret ⟨(.iv (.bool true), _), rfl, rfl⟩
    | false =>
      simp only [Bool.or_eq_false_iff, Bool.not_eq_false'] at hxy
      have law := law hxy.1 hxy.2
      refine Wp.skip (Wp.seq ?_)
      refine Wp.rgn (K := max K3 (max K4 K5)) (s' := ⟨[(4, .iv (.int .u64 slack)), (8, .ref 1000 0 0 0), (13, .ref 3496 0 0 0), (15, .iv (.int .u64 (mnU (mnU da db) dc)))], [(1000, .cells e.cs), (2794, .buf 0 16 []), (2792, .cells [.iv (.int .i64 0), filt x.1, .iv (.int .u64 x.2.1)]), (3498, .buf 0 16 []), (3496, .cells [.iv (.int .i64 0), filt y.1, .iv (.int .u64 y.2.1)])], 4776⟩) (fun n hn => rgn_quiet' rfl (by
        have e0 := hK3 n (by omega)
        have e1 := hK4 n (by omega)
        have e2 := hK5 n (by omega)
        simp only [filt, E.av] at e0 e1 e2
        generalize evalF prog n = g at e0 e1 e2
        simp [evalRgn, Option.map_some, evalOps, step, wants, osem, M.run_bind, M.mapL, M.run, M.ok, M.fresh, M.write, M.look, M.lift, putD, Arb.set, ev, Arb.get, keepFr, bin, intBin, strBin, mk, params, cellsM, load, obRead, fadr, fld, isl, iarr, xarr, idx, len, valid, slc, bound, store, splice, nilc, un, eqs, eq0, evalFeet, footOf, M.foot, orderOk, apartAll, apart1, clash, meets, callM, fcallM, callee, fz1, flat, flat1, flat0, flatI, Option.bind_some, putAll, M.bind, fzC_sl, filt, e0, e1, e2, E.cs_12, E.cs_len, E.cs_fzC, mnI, mnU]
        rfl)) ?_
      refine Wp.seq ?_
      generalize mnU (mnU da db) dc = d at law
      refine Wp.rgn (K := K8) (s' := ⟨[(10, .iv (.bool (!hasF y.1 e || (decide (d ≤ y.2.1) && decide (y.2.1 ≤ slack)))))], [(1000, .cells e.cs), (2794, .buf 0 16 []), (2792, .cells [.iv (.int .i64 0), filt x.1, .iv (.int .u64 x.2.1)]), (3498, .buf 0 16 []), (3496, .cells [.iv (.int .i64 0), filt y.1, .iv (.int .u64 y.2.1)])], 5928⟩) (fun n hn => by
        have e0 := hK8 n hn
        simp only [filt, E.av] at e0
        generalize evalF prog n = gg at e0
        cases h3 : hasF y.1 e with
        | false => rw [h3] at e0; simp [evalRgn, Option.map_some, evalOps, step, wants, osem, M.run_bind, M.mapL, M.run, M.ok, M.fresh, M.write, M.look, M.lift, putD, Arb.set, ev, Arb.get, keepFr, bin, intBin, strBin, mk, params, cellsM, load, obRead, fadr, fld, isl, iarr, xarr, idx, len, valid, slc, bound, store, splice, nilc, un, eqs, eq0, evalFeet, footOf, M.foot, orderOk, apartAll, apart1, clash, meets, callM, fcallM, callee, fz1, flat, flat1, flat0, flatI, Option.bind_some, putAll, M.bind, fzC_sl, filt, e0, E.cs_12, E.cs_len, E.cs_fzC]
        | true => rw [h3] at e0; cases h2 : decide (d ≤ y.2.1) <;> simp [evalRgn, Option.map_some, evalOps, step, wants, osem, M.run_bind, M.mapL, M.run, M.ok, M.fresh, M.write, M.look, M.lift, putD, Arb.set, ev, Arb.get, keepFr, bin, intBin, strBin, mk, params, cellsM, load, obRead, fadr, fld, isl, iarr, xarr, idx, len, valid, slc, bound, store, splice, nilc, un, eqs, eq0, evalFeet, footOf, M.foot, orderOk, apartAll, apart1, clash, meets, callM, fcallM, callee, fz1, flat, flat1, flat0, flatI, Option.bind_some, putAll, M.bind, fzC_sl, filt, e0, E.cs_12, E.cs_len, E.cs_fzC, h2]) ?_
      rw [law]
      exact Wp.ret ⟨(.iv (.bool true), _), rfl, rfl⟩
end
end Arb
