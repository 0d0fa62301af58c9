/-
  THE DOCUMENT'S RIGHT SETS AND BOXES.
-/
import Derived.Below
import Derived.Test.YtiggikalagohaaaGreatArbA
import Derived.Test.YtiggikalagohaaaGreatArbB
import Derived.Test.YtiggikalagohaaaGreatArbC
import Derived.Test.YtiggikalagohaaaGreatArbD
import Derived.Test.YtiggikalagohaaaGreatArbE
import Derived.Test.YtiggikalagohaaaGreatArbF
set_option linter.unusedSimpArgs false
namespace Arb
open Go

/-- what the document asks of a range and the one ahead of it -/
def badQ (l : List (Int × Int)) : Nat → Bool
  | 0 => match l[0]? with
    | some r => decide (r.2 < r.1)
    | none => false
  | j + 1 => match l[j + 1]?, l[j]? with
    | some r, some p => decide (r.2 < r.1) || (decide (r.1 ≤ p.2) || decide (r.1 ≤ IntKind.wrap .i64 (p.2 + 1)))
    | _, _ => false
theorem badQ_eq {l : List (Int × Int)} (h : in64s l) : ∀ i, badQ l i = badR l i
  | 0 => rfl
  | j + 1 => by
    cases hr : l[j + 1]? with
    | none => simp only [badQ, badR, hr]
    | some r =>
      cases hp : l[j]? with
      | none => simp only [badQ, badR, hr, hp]
      | some p =>
        have h1 := h p (List.mem_of_getElem? hp)
        have h2 := h r (List.mem_of_getElem? hr)
        unfold in64 at h1 h2
        simp only [badQ, badR, hr, hp]
        cases hd : decide (r.1 ≤ p.2) with
        | true => simp
        | false =>
          have hd := of_decide_eq_false hd
          rw [IntWalk.i64_in (p.2 + 1) (by omega), IntWalk.i64_in (r.1 - 1) (by omega)]
          rw [show (decide (r.1 ≤ p.2 + 1)) = (r.1 - 1 == p.2) by rw [Bool.eq_iff_iff]; simp; omega]

section
variable {prog : Nat → Option IFn}

theorem p_smallS3 (h : prog 106 = some F106) (x : S) : Ans prog 106 [x.av] (.iv (.bool (smallS x))) := by
  refine Ans.of h rfl rfl (Wp.seq ?_)
  refine Wp.rgn (K := 0) (fun n _ => by simp [evalRgn, Option.map_some, evalOps, step, wants, osem, M.run_bind, M.mapL, M.run, M.ok, M.fresh, M.write, M.look, M.lift, putD, Arb.set, ev, Arb.get, keepFr, bin, intBin, strBin, mk, params, cellsM, load, obRead, fadr, fld, isl, iarr, xarr, idx, len, valid, slc, bound, store, splice, nilc, un, eqs, eq0, evalFeet, footOf, M.foot, orderOk, apartAll, apart1, clash, meets, callM, fcallM, callee, fz1, fzC, fz, flat, flat1, flat0, flatI, Option.bind_some, putAll, M.bind, S.av]; rfl) ?_
  refine Wp.seq ?_
  refine Wp.rgn (K := 0) (s' := ⟨[(2, .iv (.bool (smallS x)))], [(1000, .cells [.iv (.bool x.a), .iv (.sl 2 (x.i.map rng)), .iv (.bool x.c), .iv (.sl 1 (x.s.map st1))])], 1832⟩) (fun n hn => by
    have e1 : decide ((x.i.length : Int) ≤ 6) = decide (x.i.length ≤ 6) := decide_eq_decide.2 (by omega)
    have e2 : decide ((x.s.length : Int) ≤ 6) = decide (x.s.length ≤ 6) := decide_eq_decide.2 (by omega)
    unfold smallS
    cases h1 : decide (x.i.length ≤ 6) <;> simp [evalRgn, Option.map_some, evalOps, step, wants, osem, M.run_bind, M.mapL, M.run, M.ok, M.fresh, M.write, M.look, M.lift, putD, Arb.set, ev, Arb.get, keepFr, bin, intBin, strBin, mk, params, cellsM, load, obRead, fadr, fld, isl, iarr, xarr, idx, len, valid, slc, bound, store, splice, nilc, un, eqs, eq0, evalFeet, footOf, M.foot, orderOk, apartAll, apart1, clash, meets, callM, fcallM, callee, fz1, fzC, fz, flat, flat1, flat0, flatI, Option.bind_some, putAll, M.bind, e1, e2, h1]) ?_
  exact Wp.ret rfl
theorem p_emptyS3 (h : prog 108 = some F108) (x : S) : Ans prog 108 [x.av] (.iv (.bool (emptyS x))) := by
  refine Ans.of h rfl rfl (Wp.seq ?_)
  refine Wp.rgn (K := 0) (fun n _ => by simp [evalRgn, Option.map_some, evalOps, step, wants, osem, M.run_bind, M.mapL, M.run, M.ok, M.fresh, M.write, M.look, M.lift, putD, Arb.set, ev, Arb.get, keepFr, bin, intBin, strBin, mk, params, cellsM, load, obRead, fadr, fld, isl, iarr, xarr, idx, len, valid, slc, bound, store, splice, nilc, un, eqs, eq0, evalFeet, footOf, M.foot, orderOk, apartAll, apart1, clash, meets, callM, fcallM, callee, fz1, fzC, fz, flat, flat1, flat0, flatI, Option.bind_some, putAll, M.bind, S.av]; rfl) ?_
  refine Wp.seq ?_
  refine Wp.rgn (K := 0) (s' := ⟨[(2, .iv (.bool (emptyS x)))], [(1000, .cells [.iv (.bool x.a), .iv (.sl 2 (x.i.map rng)), .iv (.bool x.c), .iv (.sl 1 (x.s.map st1))])], 2472⟩) (fun n hn => by
    have e1 : ((x.i.length : Int) == 0) = (x.i.length == 0) := by rw [Bool.eq_iff_iff]; simp
    have e2 : ((x.s.length : Int) == 0) = (x.s.length == 0) := by rw [Bool.eq_iff_iff]; simp
    cases b0 : x.a <;> cases b1 : x.i.length == 0 <;> cases b2 : x.c <;> simp [evalRgn, Option.map_some, evalOps, step, wants, osem, M.run_bind, M.mapL, M.run, M.ok, M.fresh, M.write, M.look, M.lift, putD, Arb.set, ev, Arb.get, keepFr, bin, intBin, strBin, mk, params, cellsM, load, obRead, fadr, fld, isl, iarr, xarr, idx, len, valid, slc, bound, store, splice, nilc, un, eqs, eq0, evalFeet, footOf, M.foot, orderOk, apartAll, apart1, clash, meets, callM, fcallM, callee, fz1, fzC, fz, flat, flat1, flat0, flatI, Option.bind_some, putAll, M.bind, emptyS, e1, e2, b0, b1, b2]) ?_
  exact Wp.ret rfl

theorem rightS_badR {x : S} {i : Nat} (hi : i < x.i.length) (h : badR x.i i = true) : rightS x = false := by
  unfold rightS
  rw [Bool.and_eq_false_iff]
  left
  rw [List.all_eq_false]
  exact ⟨i, List.mem_range.2 hi, by simp [h]⟩
theorem rightS_badT {x : S} {i : Nat} (hi : i < x.s.length) (h : badT x.s i = true) : rightS x = false := by
  unfold rightS
  rw [Bool.and_eq_false_iff]
  right
  rw [List.all_eq_false]
  exact ⟨i, List.mem_range.2 hi, by simp [h]⟩
theorem rightS_none {x : S} (h1 : ∀ i, i < x.i.length → badR x.i i = false) (h2 : ∀ i, i < x.s.length → badT x.s i = false) : rightS x = true := by
  unfold rightS
  simp only [Bool.and_eq_true, List.all_eq_true, List.mem_range, Bool.not_eq_true']
  exact ⟨h1, h2⟩

set_option maxHeartbeats 4000000 in
theorem p_rightS3 (h : prog 105 = some F105) (x : S) (hx : x.ok) : Ans prog 105 [x.av] (.iv (.bool (rightS x))) := by
  have hb : ∀ i, badQ x.i i = badR x.i i := badQ_eq hx.ri
  have li := hx.li
  have ls := hx.ls
  unfold maxLen at li ls
  refine Ans.of h rfl rfl (Wp.seq ?_)
  refine Wp.rgn (K := 0) (fun n _ => by simp [evalRgn, Option.map_some, evalOps, step, wants, osem, M.run_bind, M.mapL, M.run, M.ok, M.fresh, M.write, M.look, M.lift, putD, Arb.set, ev, Arb.get, keepFr, bin, intBin, strBin, mk, params, cellsM, load, obRead, fadr, fld, isl, iarr, xarr, idx, len, valid, slc, bound, store, splice, nilc, un, eqs, eq0, evalFeet, footOf, M.foot, orderOk, apartAll, apart1, clash, meets, callM, fcallM, callee, fz1, fzC, fz, flat, flat1, flat0, flatI, Option.bind_some, putAll, M.bind, S.av]; rfl) ?_
  refine Wp.seq (Wp.seq ?_)
  refine Wp.rgn (K := 0) (fun n _ => by simp [evalRgn, Option.map_some, evalOps, step, wants, osem, M.run_bind, M.mapL, M.run, M.ok, M.fresh, M.write, M.look, M.lift, putD, Arb.set, ev, Arb.get, keepFr, bin, intBin, strBin, mk, params, cellsM, load, obRead, fadr, fld, isl, iarr, xarr, idx, len, valid, slc, bound, store, splice, nilc, un, eqs, eq0, evalFeet, footOf, M.foot, orderOk, apartAll, apart1, clash, meets, callM, fcallM, callee, fz1, fzC, fz, flat, flat1, flat0, flatI, Option.bind_some, putAll, M.bind]; rfl) ?_
  refine Wp.block ?_
  refine Wp.range x.i.length (fun i => ⟨[(1, .ref 1000 0 0 0), (3, .iv (.int .i64 i))], [(1000, .cells [.iv (.bool x.a), .iv (.sl 2 (x.i.map rng)), .iv (.bool x.c), .iv (.sl 1 (x.s.map st1))])], 1192⟩) (fun i => ∀ j, j < i → badR x.i j = false) rfl (fun j hj => absurd hj (Nat.not_lt_zero _)) ?_ ?_
  · intro i hi hg
    have hi' : (i : Int) < x.i.length := by omega
    obtain ⟨r, hr⟩ : ∃ r, x.i[i]? = some r := ⟨_, List.getElem?_eq_getElem hi⟩
    refine Wp.seq (Wp.seq ?_)
    refine Wp.rgn (K := 0) (fun n _ => by simp [evalRgn, Option.map_some, evalOps, step, wants, osem, M.run_bind, M.mapL, M.run, M.ok, M.fresh, M.write, M.look, M.lift, putD, Arb.set, ev, Arb.get, keepFr, bin, intBin, strBin, mk, params, cellsM, load, obRead, fadr, fld, isl, iarr, xarr, idx, len, valid, slc, bound, store, splice, nilc, un, eqs, eq0, evalFeet, footOf, M.foot, orderOk, apartAll, apart1, clash, meets, callM, fcallM, callee, fz1, fzC, fz, flat, flat1, flat0, flatI, Option.bind_some, putAll, M.bind, hi]; rfl) ?_
    refine Wp.cond rfl (Wp.skip (Wp.seq (Wp.block (Wp.seq ?_))))
    refine Wp.rgn (K := 0) (s' := ⟨[(1, .ref 1000 0 0 0), (3, .iv (.int .i64 i)), (4, .ref 1832 0 0 0)], [(1000, .cells [.iv (.bool x.a), .iv (.sl 2 (x.i.map rng)), .iv (.bool x.c), .iv (.sl 1 (x.s.map st1))]), (1832, .cells [.iv (.int .i64 r.1), .iv (.int .i64 r.2)])], 1960⟩) (fun n _ => by simp [evalRgn, Option.map_some, evalOps, step, wants, osem, M.run_bind, M.mapL, M.run, M.ok, M.fresh, M.write, M.look, M.lift, putD, Arb.set, ev, Arb.get, keepFr, bin, intBin, strBin, mk, params, cellsM, load, obRead, fadr, fld, isl, iarr, xarr, idx, len, valid, slc, bound, store, splice, nilc, un, eqs, eq0, evalFeet, footOf, M.foot, orderOk, apartAll, apart1, clash, meets, callM, fcallM, callee, fz1, fzC, fz, flat, flat1, flat0, flatI, Option.bind_some, putAll, M.bind, hr, rng]) ?_
    refine Wp.seq (Wp.seq ?_)
    refine Wp.rgn (K := 0) (fun n _ => by simp [evalRgn, Option.map_some, evalOps, step, wants, osem, M.run_bind, M.mapL, M.run, M.ok, M.fresh, M.write, M.look, M.lift, putD, Arb.set, ev, Arb.get, keepFr, bin, intBin, strBin, mk, params, cellsM, load, obRead, fadr, fld, isl, iarr, xarr, idx, len, valid, slc, bound, store, splice, nilc, un, eqs, eq0, evalFeet, footOf, M.foot, orderOk, apartAll, apart1, clash, meets, callM, fcallM, callee, fz1, fzC, fz, flat, flat1, flat0, flatI, Option.bind_some, putAll, M.bind]; rfl) ?_
    refine Wp.cond rfl ?_
    cases hd : decide (r.2 < r.1) with
    | true =>
      refine Wp.seq ?_
      refine Wp.rgn (K := 0) (fun n _ => by simp [evalRgn, Option.map_some, evalOps, step, wants, osem, M.run_bind, M.mapL, M.run, M.ok, M.fresh, M.write, M.look, M.lift, putD, Arb.set, ev, Arb.get, keepFr, bin, intBin, strBin, mk, params, cellsM, load, obRead, fadr, fld, isl, iarr, xarr, idx, len, valid, slc, bound, store, splice, nilc, un, eqs, eq0, evalFeet, footOf, M.foot, orderOk, apartAll, apart1, clash, meets, callM, fcallM, callee, fz1, fzC, fz, flat, flat1, flat0, flatI, Option.bind_some, putAll, M.bind]; rfl) ?_
      refine Wp.ret ?_
      have hbad : badR x.i i = true := by
        rw [← hb]
        cases i with
        | zero => simp [badQ, hr, of_decide_eq_true hd]
        | succ j =>
          obtain ⟨p, hp⟩ : ∃ p, x.i[j]? = some p := ⟨_, List.getElem?_eq_getElem (by omega)⟩
          simp [badQ, hr, hp, of_decide_eq_true hd]
      rw [rightS_badR hi hbad]; rfl
    | false =>
      refine Wp.skip (Wp.seq ?_)
      refine Wp.rgn (K := 0) (s' := ⟨[(1, .ref 1000 0 0 0), (3, .iv (.int .i64 i)), (49, .iv (.bool (badQ x.i i)))], [(1000, .cells [.iv (.bool x.a), .iv (.sl 2 (x.i.map rng)), .iv (.bool x.c), .iv (.sl 1 (x.s.map st1))]), (1832, .cells [.iv (.int .i64 r.1), .iv (.int .i64 r.2)])], 4008⟩) (fun n _ => rgn_quiet' rfl (by
        cases i with
        | zero => simp [evalRgn, Option.map_some, evalOps, step, wants, osem, M.run_bind, M.mapL, M.run, M.ok, M.fresh, M.write, M.look, M.lift, putD, Arb.set, ev, Arb.get, keepFr, bin, intBin, strBin, mk, params, cellsM, load, obRead, fadr, fld, isl, iarr, xarr, idx, len, valid, slc, bound, store, splice, nilc, un, eqs, eq0, evalFeet, footOf, M.foot, orderOk, apartAll, apart1, clash, meets, callM, fcallM, callee, fz1, fzC, fz, flat, flat1, flat0, flatI, Option.bind_some, putAll, M.bind, badQ, hr, hd]
        | succ j =>
          obtain ⟨p, hp⟩ : ∃ p, x.i[j]? = some p := ⟨_, List.getElem?_eq_getElem (by omega)⟩
          have hp' : x.i[j]'(by omega) = p := (List.getElem?_eq_some_iff.1 hp).2
          have hm1 : (0 : Int) < (j : Int) + 1 := by omega
          have hm0 : (0 : Int) ≤ (j : Int) + 1 := by omega
          have hm2 : IntKind.wrap .i64 ((j : Int)) = (j : Int) := IntWalk.i64_in _ (by omega)
          have hm3 : j < x.i.length := by omega
          cases h1 : decide (r.1 ≤ p.2) <;> simp [evalRgn, Option.map_some, evalOps, step, wants, osem, M.run_bind, M.mapL, M.run, M.ok, M.fresh, M.write, M.look, M.lift, putD, Arb.set, ev, Arb.get, keepFr, bin, intBin, strBin, mk, params, cellsM, load, obRead, fadr, fld, isl, iarr, xarr, idx, len, valid, slc, bound, store, splice, nilc, un, eqs, eq0, evalFeet, footOf, M.foot, orderOk, apartAll, apart1, clash, meets, callM, fcallM, callee, fz1, fzC, fz, flat, flat1, flat0, flatI, Option.bind_some, putAll, M.bind, badQ, hr, hd, hp, hp', hm0, hm1, hm2, hm3, rng, h1])) ?_
      refine Wp.cond rfl ?_
      rw [hb]
      cases hbd : badR x.i i with
      | true =>
        refine Wp.seq ?_
        refine Wp.rgn (K := 0) (fun n _ => by simp [evalRgn, Option.map_some, evalOps, step, wants, osem, M.run_bind, M.mapL, M.run, M.ok, M.fresh, M.write, M.look, M.lift, putD, Arb.set, ev, Arb.get, keepFr, bin, intBin, strBin, mk, params, cellsM, load, obRead, fadr, fld, isl, iarr, xarr, idx, len, valid, slc, bound, store, splice, nilc, un, eqs, eq0, evalFeet, footOf, M.foot, orderOk, apartAll, apart1, clash, meets, callM, fcallM, callee, fz1, fzC, fz, flat, flat1, flat0, flatI, Option.bind_some, putAll, M.bind]; rfl) ?_
        refine Wp.ret ?_
        rw [rightS_badR hi hbd]; rfl
      | false =>
        refine Wp.skip ?_
        refine Wp.rgn (K := 0) (fun n _ => by simp [evalRgn, Option.map_some, evalOps, step, wants, osem, M.run_bind, M.mapL, M.run, M.ok, M.fresh, M.write, M.look, M.lift, putD, Arb.set, ev, Arb.get, keepFr, bin, intBin, strBin, mk, params, cellsM, load, obRead, fadr, fld, isl, iarr, xarr, idx, len, valid, slc, bound, store, splice, nilc, un, eqs, eq0, evalFeet, footOf, M.foot, orderOk, apartAll, apart1, clash, meets, callM, fcallM, callee, fz1, fzC, fz, flat, flat1, flat0, flatI, Option.bind_some, putAll, M.bind]; rfl) ?_
        refine ⟨by simp [again, keepFr, get, nrm_iv, nrm_ref_cells, nrmO, nrm, wrap_succ hi hx.li], fun j hj => ?_⟩
        by_cases hji : j = i
        · rw [hji]; exact hbd
        · exact hg j (by omega)
  · intro hg
    refine Wp.seq (Wp.seq ?_)
    refine Wp.rgn (K := 0) (fun n _ => by simp [evalRgn, Option.map_some, evalOps, step, wants, osem, M.run_bind, M.mapL, M.run, M.ok, M.fresh, M.write, M.look, M.lift, putD, Arb.set, ev, Arb.get, keepFr, bin, intBin, strBin, mk, params, cellsM, load, obRead, fadr, fld, isl, iarr, xarr, idx, len, valid, slc, bound, store, splice, nilc, un, eqs, eq0, evalFeet, footOf, M.foot, orderOk, apartAll, apart1, clash, meets, callM, fcallM, callee, fz1, fzC, fz, flat, flat1, flat0, flatI, Option.bind_some, putAll, M.bind]; rfl) ?_
    refine Wp.cond rfl (Wp.exit ?_)
    simp only [Ex.then, Ex.inBlock, if_true]
    refine Wp.seq (Wp.seq ?_)
    refine Wp.rgn (K := 0) (fun n _ => by simp [evalRgn, Option.map_some, evalOps, step, wants, osem, M.run_bind, M.mapL, M.run, M.ok, M.fresh, M.write, M.look, M.lift, putD, Arb.set, ev, Arb.get, keepFr, bin, intBin, strBin, mk, params, cellsM, load, obRead, fadr, fld, isl, iarr, xarr, idx, len, valid, slc, bound, store, splice, nilc, un, eqs, eq0, evalFeet, footOf, M.foot, orderOk, apartAll, apart1, clash, meets, callM, fcallM, callee, fz1, fzC, fz, flat, flat1, flat0, flatI, Option.bind_some, putAll, M.bind]; rfl) ?_
    refine Wp.block ?_
    refine Wp.range x.s.length (fun i => ⟨[(1, .ref 1000 0 0 0), (5, .iv (.int .i64 i))], [(1000, .cells [.iv (.bool x.a), .iv (.sl 2 (x.i.map rng)), .iv (.bool x.c), .iv (.sl 1 (x.s.map st1))])], 1576⟩) (fun i => ∀ j, j < i → badT x.s j = false) rfl (fun j hj => absurd hj (Nat.not_lt_zero _)) ?_ ?_
    · intro i hi hgt
      have hi' : (i : Int) < x.s.length := by omega
      obtain ⟨r, hr⟩ : ∃ r, x.s[i]? = some r := ⟨_, List.getElem?_eq_getElem hi⟩
      have hr' : x.s[i]'(by omega) = r := (List.getElem?_eq_some_iff.1 hr).2
      have he : decide ((8 : Int) < r.size) = decide (8 < r.size) := decide_eq_decide.2 (by omega)
      refine Wp.seq (Wp.seq ?_)
      refine Wp.rgn (K := 0) (fun n _ => by simp [evalRgn, Option.map_some, evalOps, step, wants, osem, M.run_bind, M.mapL, M.run, M.ok, M.fresh, M.write, M.look, M.lift, putD, Arb.set, ev, Arb.get, keepFr, bin, intBin, strBin, mk, params, cellsM, load, obRead, fadr, fld, isl, iarr, xarr, idx, len, valid, slc, bound, store, splice, nilc, un, eqs, eq0, evalFeet, footOf, M.foot, orderOk, apartAll, apart1, clash, meets, callM, fcallM, callee, fz1, fzC, fz, flat, flat1, flat0, flatI, Option.bind_some, putAll, M.bind, hi]; rfl) ?_
      refine Wp.cond rfl (Wp.skip (Wp.seq (Wp.block (Wp.seq ?_))))
      refine Wp.rgn (K := 0) (s' := ⟨[(1, .ref 1000 0 0 0), (5, .iv (.int .i64 i)), (81, .iv (.bool (badT x.s i)))], [(1000, .cells [.iv (.bool x.a), .iv (.sl 2 (x.i.map rng)), .iv (.bool x.c), .iv (.sl 1 (x.s.map st1))])], 3496⟩) (fun n _ => rgn_quiet' rfl (by
        cases i with
        | zero => cases h1 : decide (8 < r.size) <;> simp [evalRgn, Option.map_some, evalOps, step, wants, osem, M.run_bind, M.mapL, M.run, M.ok, M.fresh, M.write, M.look, M.lift, putD, Arb.set, ev, Arb.get, keepFr, bin, intBin, strBin, mk, params, cellsM, load, obRead, fadr, fld, isl, iarr, xarr, idx, len, valid, slc, bound, store, splice, nilc, un, eqs, eq0, evalFeet, footOf, M.foot, orderOk, apartAll, apart1, clash, meets, callM, fcallM, callee, fz1, fzC, fz, flat, flat1, flat0, flatI, Option.bind_some, putAll, M.bind, badT, hr, he, h1, st1]
        | succ j =>
          obtain ⟨p, hp⟩ : ∃ p, x.s[j]? = some p := ⟨_, List.getElem?_eq_getElem (by omega)⟩
          have hp' : x.s[j]'(by omega) = p := (List.getElem?_eq_some_iff.1 hp).2
          have hm1 : (0 : Int) < (j : Int) + 1 := by omega
          have hm0 : (0 : Int) ≤ (j : Int) + 1 := by omega
          have hm2 : IntKind.wrap .i64 ((j : Int)) = (j : Int) := IntWalk.i64_in _ (by omega)
          have hm3 : j < x.s.length := by omega
          cases h1 : decide (8 < r.size) <;> simp [evalRgn, Option.map_some, evalOps, step, wants, osem, M.run_bind, M.mapL, M.run, M.ok, M.fresh, M.write, M.look, M.lift, putD, Arb.set, ev, Arb.get, keepFr, bin, intBin, strBin, mk, params, cellsM, load, obRead, fadr, fld, isl, iarr, xarr, idx, len, valid, slc, bound, store, splice, nilc, un, eqs, eq0, evalFeet, footOf, M.foot, orderOk, apartAll, apart1, clash, meets, callM, fcallM, callee, fz1, fzC, fz, flat, flat1, flat0, flatI, Option.bind_some, putAll, M.bind, badT, hr, hr', he, h1, hp, hp', hm0, hm1, hm2, hm3, hi, st1])) ?_
      refine Wp.cond rfl ?_
      cases hbd : badT x.s i with
      | true =>
        refine Wp.seq ?_
        refine Wp.rgn (K := 0) (fun n _ => by simp [evalRgn, Option.map_some, evalOps, step, wants, osem, M.run_bind, M.mapL, M.run, M.ok, M.fresh, M.write, M.look, M.lift, putD, Arb.set, ev, Arb.get, keepFr, bin, intBin, strBin, mk, params, cellsM, load, obRead, fadr, fld, isl, iarr, xarr, idx, len, valid, slc, bound, store, splice, nilc, un, eqs, eq0, evalFeet, footOf, M.foot, orderOk, apartAll, apart1, clash, meets, callM, fcallM, callee, fz1, fzC, fz, flat, flat1, flat0, flatI, Option.bind_some, putAll, M.bind]; rfl) ?_
        refine Wp.ret ?_
        rw [rightS_badT hi hbd]; rfl
      | false =>
        refine Wp.skip ?_
        refine Wp.rgn (K := 0) (fun n _ => by simp [evalRgn, Option.map_some, evalOps, step, wants, osem, M.run_bind, M.mapL, M.run, M.ok, M.fresh, M.write, M.look, M.lift, putD, Arb.set, ev, Arb.get, keepFr, bin, intBin, strBin, mk, params, cellsM, load, obRead, fadr, fld, isl, iarr, xarr, idx, len, valid, slc, bound, store, splice, nilc, un, eqs, eq0, evalFeet, footOf, M.foot, orderOk, apartAll, apart1, clash, meets, callM, fcallM, callee, fz1, fzC, fz, flat, flat1, flat0, flatI, Option.bind_some, putAll, M.bind]; rfl) ?_
        refine ⟨by simp [again, keepFr, get, nrm_iv, nrm_ref_cells, nrmO, nrm, wrap_succ hi hx.ls], fun j hj => ?_⟩
        by_cases hji : j = i
        · rw [hji]; exact hbd
        · exact hgt j (by omega)
    · intro hgt
      refine Wp.seq (Wp.seq ?_)
      refine Wp.rgn (K := 0) (fun n _ => by simp [evalRgn, Option.map_some, evalOps, step, wants, osem, M.run_bind, M.mapL, M.run, M.ok, M.fresh, M.write, M.look, M.lift, putD, Arb.set, ev, Arb.get, keepFr, bin, intBin, strBin, mk, params, cellsM, load, obRead, fadr, fld, isl, iarr, xarr, idx, len, valid, slc, bound, store, splice, nilc, un, eqs, eq0, evalFeet, footOf, M.foot, orderOk, apartAll, apart1, clash, meets, callM, fcallM, callee, fz1, fzC, fz, flat, flat1, flat0, flatI, Option.bind_some, putAll, M.bind]; rfl) ?_
      refine Wp.cond rfl (Wp.exit ?_)
      simp only [Ex.then, Ex.inBlock, if_true]
      refine Wp.seq ?_
      refine Wp.rgn (K := 0) (fun n _ => by simp [evalRgn, Option.map_some, evalOps, step, wants, osem, M.run_bind, M.mapL, M.run, M.ok, M.fresh, M.write, M.look, M.lift, putD, Arb.set, ev, Arb.get, keepFr, bin, intBin, strBin, mk, params, cellsM, load, obRead, fadr, fld, isl, iarr, xarr, idx, len, valid, slc, bound, store, splice, nilc, un, eqs, eq0, evalFeet, footOf, M.foot, orderOk, apartAll, apart1, clash, meets, callM, fcallM, callee, fz1, fzC, fz, flat, flat1, flat0, flatI, Option.bind_some, putAll, M.bind]; rfl) ?_
      refine Wp.ret ?_
      rw [rightS_none hg hgt]; rfl

set_option maxHeartbeats 1000000 in
theorem p_rightB4 (h105 : prog 105 = some F105) (h : prog 100 = some F100) (b : B) (hb : b.ok) : Ans prog 100 [b.av] (.iv (.bool (allB rightS b))) := by
  refine Ans.of h rfl rfl (Wp.seq ?_)
  refine Wp.rgn (K := 0) (s' := ⟨[(1, .ref 1000 0 0 0)], [(1000, .cells b.cs)], 1128⟩) (fun n _ => by simp [evalRgn, Option.map_some, evalOps, step, wants, osem, M.run_bind, M.mapL, M.run, M.ok, M.fresh, M.write, M.look, M.lift, putD, Arb.set, ev, Arb.get, keepFr, bin, intBin, strBin, mk, params, cellsM, load, obRead, fadr, fld, isl, iarr, xarr, idx, len, valid, slc, bound, store, splice, nilc, un, eqs, eq0, evalFeet, footOf, M.foot, orderOk, apartAll, apart1, clash, meets, callM, fcallM, callee, fz1, flat, flat1, flat0, flatI, Option.bind_some, putAll, M.bind, B.av, B.cs_nilc]) ?_
  refine Wp.seq (Wp.seq ?_)
  refine Wp.rgn (K := 0) (fun n _ => by simp [evalRgn, Option.map_some, evalOps, step, wants, osem, M.run_bind, M.mapL, M.run, M.ok, M.fresh, M.write, M.look, M.lift, putD, Arb.set, ev, Arb.get, keepFr, bin, intBin, strBin, mk, params, cellsM, load, obRead, fadr, fld, isl, iarr, xarr, idx, len, valid, slc, bound, store, splice, nilc, un, eqs, eq0, evalFeet, footOf, M.foot, orderOk, apartAll, apart1, clash, meets, callM, fcallM, callee, fz1, fzC, fz, flat, flat1, flat0, flatI, Option.bind_some, putAll, M.bind]; rfl) ?_
  refine Wp.block ?_
  refine Wp.range 4 (fun i => ⟨[(1, .ref 1000 0 0 0), (3, .iv (.int .i64 i))], [(1000, .cells b.cs)], 1192⟩) (fun i => ∀ j, j < i → rightS (b.get j) = true) rfl (fun j hj => absurd hj (Nat.not_lt_zero _)) ?_ ?_
  · intro i hi hg
    have hi' : (i : Int) < 4 := by omega
    have hm : min 4 (16 - i * 4) = 4 := by omega
    refine Wp.seq (Wp.seq ?_)
    refine Wp.rgn (K := 0) (fun n _ => by simp [evalRgn, Option.map_some, evalOps, step, wants, osem, M.run_bind, M.mapL, M.run, M.ok, M.fresh, M.write, M.look, M.lift, putD, Arb.set, ev, Arb.get, keepFr, bin, intBin, strBin, mk, params, cellsM, load, obRead, fadr, fld, isl, iarr, xarr, idx, len, valid, slc, bound, store, splice, nilc, un, eqs, eq0, evalFeet, footOf, M.foot, orderOk, apartAll, apart1, clash, meets, callM, fcallM, callee, fz1, fzC, fz, flat, flat1, flat0, flatI, Option.bind_some, putAll, M.bind, hi']; rfl) ?_
    refine Wp.cond rfl (Wp.skip (Wp.seq (Wp.block (Wp.seq ?_))))
    obtain ⟨K, hK⟩ := p_rightS3 h105 (b.get i) (hb.at hi)
    refine Wp.rgn (K := K) (s' := ⟨[(1, .ref 1000 0 0 0), (3, .iv (.int .i64 i)), (12, .iv (.bool (!rightS (b.get i))))], [(1000, .cells b.cs)], 1640⟩) (fun n hn => by
      have e1 := hK n hn
      simp only [S.av] at e1
      generalize evalF prog n = g at e1
      simp [evalRgn, Option.map_some, evalOps, step, wants, osem, M.run_bind, M.mapL, M.run, M.ok, M.fresh, M.write, M.look, M.lift, putD, Arb.set, ev, Arb.get, keepFr, bin, intBin, strBin, mk, params, cellsM, load, obRead, fadr, fld, isl, iarr, xarr, idx, len, valid, slc, bound, store, splice, nilc, un, eqs, eq0, evalFeet, footOf, M.foot, orderOk, apartAll, apart1, clash, meets, callM, fcallM, callee, fz1, fzC, fz, flat, flat1, flat0, flatI, Option.bind_some, putAll, M.bind, hi', B.cs_at b hi, B.cs_len, hm, e1]) ?_
    refine Wp.cond rfl ?_
    cases hr : rightS (b.get i) with
    | false =>
      refine Wp.seq ?_
      refine Wp.rgn (K := 0) (fun n _ => by simp [evalRgn, Option.map_some, evalOps, step, wants, osem, M.run_bind, M.mapL, M.run, M.ok, M.fresh, M.write, M.look, M.lift, putD, Arb.set, ev, Arb.get, keepFr, bin, intBin, strBin, mk, params, cellsM, load, obRead, fadr, fld, isl, iarr, xarr, idx, len, valid, slc, bound, store, splice, nilc, un, eqs, eq0, evalFeet, footOf, M.foot, orderOk, apartAll, apart1, clash, meets, callM, fcallM, callee, fz1, fzC, fz, flat, flat1, flat0, flatI, Option.bind_some, putAll, M.bind]; rfl) ?_
      refine Wp.ret ?_
      rw [allB_false hi hr]; rfl
    | true =>
      refine Wp.skip ?_
      refine Wp.rgn (K := 0) (fun n _ => by simp [evalRgn, Option.map_some, evalOps, step, wants, osem, M.run_bind, M.mapL, M.run, M.ok, M.fresh, M.write, M.look, M.lift, putD, Arb.set, ev, Arb.get, keepFr, bin, intBin, strBin, mk, params, cellsM, load, obRead, fadr, fld, isl, iarr, xarr, idx, len, valid, slc, bound, store, splice, nilc, un, eqs, eq0, evalFeet, footOf, M.foot, orderOk, apartAll, apart1, clash, meets, callM, fcallM, callee, fz1, fzC, fz, flat, flat1, flat0, flatI, Option.bind_some, putAll, M.bind]; rfl) ?_
      refine ⟨by simp [again, keepFr, get, nrm_iv, nrm_ref_cells, nrmO, B.cs_nrm, wrap_lt4 hi], fun j hj => ?_⟩
      by_cases hji : j = i
      · rw [hji]; exact hr
      · exact hg j (by omega)
  · intro hg
    refine Wp.seq (Wp.seq ?_)
    refine Wp.rgn (K := 0) (fun n _ => by simp [evalRgn, Option.map_some, evalOps, step, wants, osem, M.run_bind, M.mapL, M.run, M.ok, M.fresh, M.write, M.look, M.lift, putD, Arb.set, ev, Arb.get, keepFr, bin, intBin, strBin, mk, params, cellsM, load, obRead, fadr, fld, isl, iarr, xarr, idx, len, valid, slc, bound, store, splice, nilc, un, eqs, eq0, evalFeet, footOf, M.foot, orderOk, apartAll, apart1, clash, meets, callM, fcallM, callee, fz1, fzC, fz, flat, flat1, flat0, flatI, Option.bind_some, putAll, M.bind]; rfl) ?_
    refine Wp.cond rfl (Wp.exit ?_)
    simp only [Ex.then, Ex.inBlock, if_true]
    refine Wp.seq ?_
    refine Wp.rgn (K := 0) (fun n _ => by simp [evalRgn, Option.map_some, evalOps, step, wants, osem, M.run_bind, M.mapL, M.run, M.ok, M.fresh, M.write, M.look, M.lift, putD, Arb.set, ev, Arb.get, keepFr, bin, intBin, strBin, mk, params, cellsM, load, obRead, fadr, fld, isl, iarr, xarr, idx, len, valid, slc, bound, store, splice, nilc, un, eqs, eq0, evalFeet, footOf, M.foot, orderOk, apartAll, apart1, clash, meets, callM, fcallM, callee, fz1, fzC, fz, flat, flat1, flat0, flatI, Option.bind_some, putAll, M.bind]; rfl) ?_
    refine Wp.ret ?_
    rw [allB_true hg]; rfl

set_option maxHeartbeats 1000000 in
theorem p_smallB4 (h106 : prog 106 = some F106) (h : prog 101 = some F101) (b : B) (_hb : b.ok) : Ans prog 101 [b.av] (.iv (.bool (allB smallS b))) := by
  refine Ans.of h rfl rfl (Wp.seq ?_)
  refine Wp.rgn (K := 0) (s' := ⟨[(1, .ref 1000 0 0 0)], [(1000, .cells b.cs)], 1128⟩) (fun n _ => by simp [evalRgn, Option.map_some, evalOps, step, wants, osem, M.run_bind, M.mapL, M.run, M.ok, M.fresh, M.write, M.look, M.lift, putD, Arb.set, ev, Arb.get, keepFr, bin, intBin, strBin, mk, params, cellsM, load, obRead, fadr, fld, isl, iarr, xarr, idx, len, valid, slc, bound, store, splice, nilc, un, eqs, eq0, evalFeet, footOf, M.foot, orderOk, apartAll, apart1, clash, meets, callM, fcallM, callee, fz1, flat, flat1, flat0, flatI, Option.bind_some, putAll, M.bind, B.av, B.cs_nilc]) ?_
  refine Wp.seq (Wp.seq ?_)
  refine Wp.rgn (K := 0) (fun n _ => by simp [evalRgn, Option.map_some, evalOps, step, wants, osem, M.run_bind, M.mapL, M.run, M.ok, M.fresh, M.write, M.look, M.lift, putD, Arb.set, ev, Arb.get, keepFr, bin, intBin, strBin, mk, params, cellsM, load, obRead, fadr, fld, isl, iarr, xarr, idx, len, valid, slc, bound, store, splice, nilc, un, eqs, eq0, evalFeet, footOf, M.foot, orderOk, apartAll, apart1, clash, meets, callM, fcallM, callee, fz1, fzC, fz, flat, flat1, flat0, flatI, Option.bind_some, putAll, M.bind]; rfl) ?_
  refine Wp.block ?_
  refine Wp.range 4 (fun i => ⟨[(1, .ref 1000 0 0 0), (3, .iv (.int .i64 i))], [(1000, .cells b.cs)], 1192⟩) (fun i => ∀ j, j < i → smallS (b.get j) = true) rfl (fun j hj => absurd hj (Nat.not_lt_zero _)) ?_ ?_
  · intro i hi hg
    have hi' : (i : Int) < 4 := by omega
    have hm : min 4 (16 - i * 4) = 4 := by omega
    refine Wp.seq (Wp.seq ?_)
    refine Wp.rgn (K := 0) (fun n _ => by simp [evalRgn, Option.map_some, evalOps, step, wants, osem, M.run_bind, M.mapL, M.run, M.ok, M.fresh, M.write, M.look, M.lift, putD, Arb.set, ev, Arb.get, keepFr, bin, intBin, strBin, mk, params, cellsM, load, obRead, fadr, fld, isl, iarr, xarr, idx, len, valid, slc, bound, store, splice, nilc, un, eqs, eq0, evalFeet, footOf, M.foot, orderOk, apartAll, apart1, clash, meets, callM, fcallM, callee, fz1, fzC, fz, flat, flat1, flat0, flatI, Option.bind_some, putAll, M.bind, hi']; rfl) ?_
    refine Wp.cond rfl (Wp.skip (Wp.seq (Wp.block (Wp.seq ?_))))
    obtain ⟨K, hK⟩ := p_smallS3 h106 (b.get i)
    refine Wp.rgn (K := K) (s' := ⟨[(1, .ref 1000 0 0 0), (3, .iv (.int .i64 i)), (12, .iv (.bool (!smallS (b.get i))))], [(1000, .cells b.cs)], 1640⟩) (fun n hn => by
      have e1 := hK n hn
      simp only [S.av] at e1
      generalize evalF prog n = g at e1
      simp [evalRgn, Option.map_some, evalOps, step, wants, osem, M.run_bind, M.mapL, M.run, M.ok, M.fresh, M.write, M.look, M.lift, putD, Arb.set, ev, Arb.get, keepFr, bin, intBin, strBin, mk, params, cellsM, load, obRead, fadr, fld, isl, iarr, xarr, idx, len, valid, slc, bound, store, splice, nilc, un, eqs, eq0, evalFeet, footOf, M.foot, orderOk, apartAll, apart1, clash, meets, callM, fcallM, callee, fz1, fzC, fz, flat, flat1, flat0, flatI, Option.bind_some, putAll, M.bind, hi', B.cs_at b hi, B.cs_len, hm, e1]) ?_
    refine Wp.cond rfl ?_
    cases hr : smallS (b.get i) with
    | false =>
      refine Wp.seq ?_
      refine Wp.rgn (K := 0) (fun n _ => by simp [evalRgn, Option.map_some, evalOps, step, wants, osem, M.run_bind, M.mapL, M.run, M.ok, M.fresh, M.write, M.look, M.lift, putD, Arb.set, ev, Arb.get, keepFr, bin, intBin, strBin, mk, params, cellsM, load, obRead, fadr, fld, isl, iarr, xarr, idx, len, valid, slc, bound, store, splice, nilc, un, eqs, eq0, evalFeet, footOf, M.foot, orderOk, apartAll, apart1, clash, meets, callM, fcallM, callee, fz1, fzC, fz, flat, flat1, flat0, flatI, Option.bind_some, putAll, M.bind]; rfl) ?_
      refine Wp.ret ?_
      rw [allB_false hi hr]; rfl
    | true =>
      refine Wp.skip ?_
      refine Wp.rgn (K := 0) (fun n _ => by simp [evalRgn, Option.map_some, evalOps, step, wants, osem, M.run_bind, M.mapL, M.run, M.ok, M.fresh, M.write, M.look, M.lift, putD, Arb.set, ev, Arb.get, keepFr, bin, intBin, strBin, mk, params, cellsM, load, obRead, fadr, fld, isl, iarr, xarr, idx, len, valid, slc, bound, store, splice, nilc, un, eqs, eq0, evalFeet, footOf, M.foot, orderOk, apartAll, apart1, clash, meets, callM, fcallM, callee, fz1, fzC, fz, flat, flat1, flat0, flatI, Option.bind_some, putAll, M.bind]; rfl) ?_
      refine ⟨by simp [again, keepFr, get, nrm_iv, nrm_ref_cells, nrmO, B.cs_nrm, wrap_lt4 hi], fun j hj => ?_⟩
      by_cases hji : j = i
      · rw [hji]; exact hr
      · exact hg j (by omega)
  · intro hg
    refine Wp.seq (Wp.seq ?_)
    refine Wp.rgn (K := 0) (fun n _ => by simp [evalRgn, Option.map_some, evalOps, step, wants, osem, M.run_bind, M.mapL, M.run, M.ok, M.fresh, M.write, M.look, M.lift, putD, Arb.set, ev, Arb.get, keepFr, bin, intBin, strBin, mk, params, cellsM, load, obRead, fadr, fld, isl, iarr, xarr, idx, len, valid, slc, bound, store, splice, nilc, un, eqs, eq0, evalFeet, footOf, M.foot, orderOk, apartAll, apart1, clash, meets, callM, fcallM, callee, fz1, fzC, fz, flat, flat1, flat0, flatI, Option.bind_some, putAll, M.bind]; rfl) ?_
    refine Wp.cond rfl (Wp.exit ?_)
    simp only [Ex.then, Ex.inBlock, if_true]
    refine Wp.seq ?_
    refine Wp.rgn (K := 0) (fun n _ => by simp [evalRgn, Option.map_some, evalOps, step, wants, osem, M.run_bind, M.mapL, M.run, M.ok, M.fresh, M.write, M.look, M.lift, putD, Arb.set, ev, Arb.get, keepFr, bin, intBin, strBin, mk, params, cellsM, load, obRead, fadr, fld, isl, iarr, xarr, idx, len, valid, slc, bound, store, splice, nilc, un, eqs, eq0, evalFeet, footOf, M.foot, orderOk, apartAll, apart1, clash, meets, callM, fcallM, callee, fz1, fzC, fz, flat, flat1, flat0, flatI, Option.bind_some, putAll, M.bind]; rfl) ?_
    refine Wp.ret ?_
    rw [allB_true hg]; rfl

set_option maxHeartbeats 1000000 in
theorem p_emptyB4 (h108 : prog 108 = some F108) (h : prog 103 = some F103) (b : B) (_hb : b.ok) : Ans prog 103 [b.av] (.iv (.bool (anyB emptyS b))) := by
  refine Ans.of h rfl rfl (Wp.seq ?_)
  refine Wp.rgn (K := 0) (s' := ⟨[(1, .ref 1000 0 0 0)], [(1000, .cells b.cs)], 1128⟩) (fun n _ => by simp [evalRgn, Option.map_some, evalOps, step, wants, osem, M.run_bind, M.mapL, M.run, M.ok, M.fresh, M.write, M.look, M.lift, putD, Arb.set, ev, Arb.get, keepFr, bin, intBin, strBin, mk, params, cellsM, load, obRead, fadr, fld, isl, iarr, xarr, idx, len, valid, slc, bound, store, splice, nilc, un, eqs, eq0, evalFeet, footOf, M.foot, orderOk, apartAll, apart1, clash, meets, callM, fcallM, callee, fz1, flat, flat1, flat0, flatI, Option.bind_some, putAll, M.bind, B.av, B.cs_nilc]) ?_
  refine Wp.seq (Wp.seq ?_)
  refine Wp.rgn (K := 0) (fun n _ => by simp [evalRgn, Option.map_some, evalOps, step, wants, osem, M.run_bind, M.mapL, M.run, M.ok, M.fresh, M.write, M.look, M.lift, putD, Arb.set, ev, Arb.get, keepFr, bin, intBin, strBin, mk, params, cellsM, load, obRead, fadr, fld, isl, iarr, xarr, idx, len, valid, slc, bound, store, splice, nilc, un, eqs, eq0, evalFeet, footOf, M.foot, orderOk, apartAll, apart1, clash, meets, callM, fcallM, callee, fz1, fzC, fz, flat, flat1, flat0, flatI, Option.bind_some, putAll, M.bind]; rfl) ?_
  refine Wp.block ?_
  refine Wp.range 4 (fun i => ⟨[(1, .ref 1000 0 0 0), (3, .iv (.int .i64 i))], [(1000, .cells b.cs)], 1192⟩) (fun i => ∀ j, j < i → emptyS (b.get j) = false) rfl (fun j hj => absurd hj (Nat.not_lt_zero _)) ?_ ?_
  · intro i hi hg
    have hi' : (i : Int) < 4 := by omega
    have hm : min 4 (16 - i * 4) = 4 := by omega
    refine Wp.seq (Wp.seq ?_)
    refine Wp.rgn (K := 0) (fun n _ => by simp [evalRgn, Option.map_some, evalOps, step, wants, osem, M.run_bind, M.mapL, M.run, M.ok, M.fresh, M.write, M.look, M.lift, putD, Arb.set, ev, Arb.get, keepFr, bin, intBin, strBin, mk, params, cellsM, load, obRead, fadr, fld, isl, iarr, xarr, idx, len, valid, slc, bound, store, splice, nilc, un, eqs, eq0, evalFeet, footOf, M.foot, orderOk, apartAll, apart1, clash, meets, callM, fcallM, callee, fz1, fzC, fz, flat, flat1, flat0, flatI, Option.bind_some, putAll, M.bind, hi']; rfl) ?_
    refine Wp.cond rfl (Wp.skip (Wp.seq (Wp.block (Wp.seq ?_))))
    obtain ⟨K, hK⟩ := p_emptyS3 h108 (b.get i)
    refine Wp.rgn (K := K) (s' := ⟨[(1, .ref 1000 0 0 0), (3, .iv (.int .i64 i)), (11, .iv (.bool (emptyS (b.get i))))], [(1000, .cells b.cs)], 1576⟩) (fun n hn => by
      have e1 := hK n hn
      simp only [S.av] at e1
      generalize evalF prog n = g at e1
      simp [evalRgn, Option.map_some, evalOps, step, wants, osem, M.run_bind, M.mapL, M.run, M.ok, M.fresh, M.write, M.look, M.lift, putD, Arb.set, ev, Arb.get, keepFr, bin, intBin, strBin, mk, params, cellsM, load, obRead, fadr, fld, isl, iarr, xarr, idx, len, valid, slc, bound, store, splice, nilc, un, eqs, eq0, evalFeet, footOf, M.foot, orderOk, apartAll, apart1, clash, meets, callM, fcallM, callee, fz1, fzC, fz, flat, flat1, flat0, flatI, Option.bind_some, putAll, M.bind, hi', B.cs_at b hi, B.cs_len, hm, e1]) ?_
    refine Wp.cond rfl ?_
    cases hr : emptyS (b.get i) with
    | true =>
      refine Wp.seq ?_
      refine Wp.rgn (K := 0) (fun n _ => by simp [evalRgn, Option.map_some, evalOps, step, wants, osem, M.run_bind, M.mapL, M.run, M.ok, M.fresh, M.write, M.look, M.lift, putD, Arb.set, ev, Arb.get, keepFr, bin, intBin, strBin, mk, params, cellsM, load, obRead, fadr, fld, isl, iarr, xarr, idx, len, valid, slc, bound, store, splice, nilc, un, eqs, eq0, evalFeet, footOf, M.foot, orderOk, apartAll, apart1, clash, meets, callM, fcallM, callee, fz1, fzC, fz, flat, flat1, flat0, flatI, Option.bind_some, putAll, M.bind]; rfl) ?_
      refine Wp.ret ?_
      rw [anyB_true hi hr]; rfl
    | false =>
      refine Wp.skip ?_
      refine Wp.rgn (K := 0) (fun n _ => by simp [evalRgn, Option.map_some, evalOps, step, wants, osem, M.run_bind, M.mapL, M.run, M.ok, M.fresh, M.write, M.look, M.lift, putD, Arb.set, ev, Arb.get, keepFr, bin, intBin, strBin, mk, params, cellsM, load, obRead, fadr, fld, isl, iarr, xarr, idx, len, valid, slc, bound, store, splice, nilc, un, eqs, eq0, evalFeet, footOf, M.foot, orderOk, apartAll, apart1, clash, meets, callM, fcallM, callee, fz1, fzC, fz, flat, flat1, flat0, flatI, Option.bind_some, putAll, M.bind]; rfl) ?_
      refine ⟨by simp [again, keepFr, get, nrm_iv, nrm_ref_cells, nrmO, B.cs_nrm, wrap_lt4 hi], fun j hj => ?_⟩
      by_cases hji : j = i
      · rw [hji]; exact hr
      · exact hg j (by omega)
  · intro hg
    refine Wp.seq (Wp.seq ?_)
    refine Wp.rgn (K := 0) (fun n _ => by simp [evalRgn, Option.map_some, evalOps, step, wants, osem, M.run_bind, M.mapL, M.run, M.ok, M.fresh, M.write, M.look, M.lift, putD, Arb.set, ev, Arb.get, keepFr, bin, intBin, strBin, mk, params, cellsM, load, obRead, fadr, fld, isl, iarr, xarr, idx, len, valid, slc, bound, store, splice, nilc, un, eqs, eq0, evalFeet, footOf, M.foot, orderOk, apartAll, apart1, clash, meets, callM, fcallM, callee, fz1, fzC, fz, flat, flat1, flat0, flatI, Option.bind_some, putAll, M.bind]; rfl) ?_
    refine Wp.cond rfl (Wp.exit ?_)
    simp only [Ex.then, Ex.inBlock, if_true]
    refine Wp.seq ?_
    refine Wp.rgn (K := 0) (fun n _ => by simp [evalRgn, Option.map_some, evalOps, step, wants, osem, M.run_bind, M.mapL, M.run, M.ok, M.fresh, M.write, M.look, M.lift, putD, Arb.set, ev, Arb.get, keepFr, bin, intBin, strBin, mk, params, cellsM, load, obRead, fadr, fld, isl, iarr, xarr, idx, len, valid, slc, bound, store, splice, nilc, un, eqs, eq0, evalFeet, footOf, M.foot, orderOk, apartAll, apart1, clash, meets, callM, fcallM, callee, fz1, fzC, fz, flat, flat1, flat0, flatI, Option.bind_some, putAll, M.bind]; rfl) ?_
    refine Wp.ret ?_
    rw [anyB_false hg]; rfl

end
end Arb

/-
  THE DOCUMENT'S RIGHT FILTERS: of one box, or of none.
-/
set_option linter.unusedSimpArgs false
namespace Arb
open Go

structure Right6 (prog : Nat → Option IFn) : Prop where
  h98 : prog 98 = some F98
  h99 : prog 99 = some F99
  h100 : prog 100 = some F100
  h101 : prog 101 = some F101
  h103 : prog 103 = some F103
  h105 : prog 105 = some F105
  h106 : prog 106 = some F106
  h108 : prog 108 = some F108

def tidyN (z : B) : List B := if anyB emptyS z then [] else [z]

section
variable {prog : Nat → Option IFn}

set_option maxHeartbeats 4000000 in
theorem p_tidyN (R : Right6 prog) (z : B) (hz : z.ok) : Ans prog 99 [filt [z]] (filt (tidyN z)) := by
  obtain ⟨K1, hK1⟩ := p_emptyB4 R.h108 R.h103 z hz
  refine Ans.of R.h99 rfl rfl (Wp.seq ?_)
  refine Wp.rgn (K := 0) (fun n _ => by simp [evalRgn, Option.map_some, evalOps, step, wants, osem, M.run_bind, M.mapL, M.run, M.ok, M.fresh, M.write, M.look, M.lift, putD, Arb.set, ev, Arb.get, keepFr, bin, intBin, strBin, mk, params, cellsM, load, obRead, fadr, fld, isl, iarr, xarr, idx, len, valid, slc, bound, store, splice, nilc, un, eqs, eq0, evalFeet, footOf, M.foot, orderOk, apartAll, apart1, clash, meets, callM, fcallM, callee, fz1, fzC, fz, flat, flat1, flat0, flatI, Option.bind_some, putAll, M.bind]; rfl) ?_
  refine Wp.seq ?_
  refine Wp.rgn (K := 0) (fun n _ => by simp [evalRgn, Option.map_some, evalOps, step, wants, osem, M.run_bind, M.mapL, M.run, M.ok, M.fresh, M.write, M.look, M.lift, putD, Arb.set, ev, Arb.get, keepFr, bin, intBin, strBin, mk, params, cellsM, load, obRead, fadr, fld, isl, iarr, xarr, idx, len, valid, slc, bound, store, splice, nilc, un, eqs, eq0, evalFeet, footOf, M.foot, orderOk, apartAll, apart1, clash, meets, callM, fcallM, callee, fz1, fzC, fz, flat, flat1, flat0, flatI, Option.bind_some, putAll, M.bind]; rfl) ?_
  refine Wp.seq (Wp.seq ?_)
  refine Wp.rgn (K := 0) (fun n _ => by simp [evalRgn, Option.map_some, evalOps, step, wants, osem, M.run_bind, M.mapL, M.run, M.ok, M.fresh, M.write, M.look, M.lift, putD, Arb.set, ev, Arb.get, keepFr, bin, intBin, strBin, mk, params, cellsM, load, obRead, fadr, fld, isl, iarr, xarr, idx, len, valid, slc, bound, store, splice, nilc, un, eqs, eq0, evalFeet, footOf, M.foot, orderOk, apartAll, apart1, clash, meets, callM, fcallM, callee, fz1, fzC, fz, flat, flat1, flat0, flatI, Option.bind_some, putAll, M.bind]; rfl) ?_
  refine Wp.block ?_
  refine Wp.range 1 (fun i => ⟨[(0, filt [z]), (3, .own 1064 0 (if i = 0 then 0 else (tidyN z).length) 0), (4, .iv (.int .i64 i))], [(1000, .buf 0 16 []), (1064, .buf 0 16 (if i = 0 then [] else (tidyN z).map B.enc))], 1192⟩) (fun _ => True) rfl trivial ?_ ?_
  · intro i hi _
    obtain rfl : i = 0 := by omega
    refine Wp.seq (Wp.seq ?_)
    refine Wp.rgn (K := 0) (fun n _ => by simp [evalRgn, Option.map_some, evalOps, step, wants, osem, M.run_bind, M.mapL, M.run, M.ok, M.fresh, M.write, M.look, M.lift, putD, Arb.set, ev, Arb.get, keepFr, bin, intBin, strBin, mk, params, cellsM, load, obRead, fadr, fld, isl, iarr, xarr, idx, len, valid, slc, bound, store, splice, nilc, un, eqs, eq0, evalFeet, footOf, M.foot, orderOk, apartAll, apart1, clash, meets, callM, fcallM, callee, fz1, fzC, fz, flat, flat1, flat0, flatI, Option.bind_some, putAll, M.bind, filt]; rfl) ?_
    refine Wp.cond rfl (Wp.skip (Wp.seq (Wp.block (Wp.seq ?_))))
    refine Wp.rgn (K := K1) (s' := ⟨[(0, filt [z]), (3, .own 1064 0 0 0), (4, .iv (.int .i64 0)), (5, .iv (.bool (!anyB emptyS z)))], [(1000, .buf 0 16 []), (1064, .buf 0 16 [])], 1896⟩) (fun n hn => by
      have e1 := hK1 n hn
      simp only [B.av] at e1
      generalize evalF prog n = g at e1
      simp [evalRgn, Option.map_some, evalOps, step, wants, osem, M.run_bind, M.mapL, M.run, M.ok, M.fresh, M.write, M.look, M.lift, putD, Arb.set, ev, Arb.get, keepFr, bin, intBin, strBin, mk, params, cellsM, load, obRead, fadr, fld, isl, iarr, xarr, idx, len, valid, slc, bound, store, splice, nilc, un, eqs, eq0, evalFeet, footOf, M.foot, orderOk, apartAll, apart1, clash, meets, callM, fcallM, callee, fz1, flat, flat1, flat0, flatI, Option.bind_some, putAll, M.bind, filt, B.enc_len, B.enc_take, B.enc_cs, B.cs_fzC, e1]) ?_
    refine Wp.seq (Wp.seq ?_)
    refine Wp.rgn (K := 0) (fun n _ => by simp [evalRgn, Option.map_some, evalOps, step, wants, osem, M.run_bind, M.mapL, M.run, M.ok, M.fresh, M.write, M.look, M.lift, putD, Arb.set, ev, Arb.get, keepFr, bin, intBin, strBin, mk, params, cellsM, load, obRead, fadr, fld, isl, iarr, xarr, idx, len, valid, slc, bound, store, splice, nilc, un, eqs, eq0, evalFeet, footOf, M.foot, orderOk, apartAll, apart1, clash, meets, callM, fcallM, callee, fz1, fzC, fz, flat, flat1, flat0, flatI, Option.bind_some, putAll, M.bind]; rfl) ?_
    refine Wp.block ?_
    refine Wp.range 1 (fun k => ⟨[(0, filt [z]), (3, .own 1064 0 0 0), (4, .iv (.int .i64 0)), (5, .iv (.bool (!anyB emptyS z))), (6, .iv (.int .i64 k))], [(1000, .buf 0 16 []), (1064, .buf 0 16 [])], 1960⟩) (fun _ => True) rfl trivial ?_ ?_
    · intro k hk _
      obtain rfl : k = 0 := by omega
      refine Wp.seq (Wp.seq ?_)
      refine Wp.rgn (K := 0) (fun n _ => by simp [evalRgn, Option.map_some, evalOps, step, wants, osem, M.run_bind, M.mapL, M.run, M.ok, M.fresh, M.write, M.look, M.lift, putD, Arb.set, ev, Arb.get, keepFr, bin, intBin, strBin, mk, params, cellsM, load, obRead, fadr, fld, isl, iarr, xarr, idx, len, valid, slc, bound, store, splice, nilc, un, eqs, eq0, evalFeet, footOf, M.foot, orderOk, apartAll, apart1, clash, meets, callM, fcallM, callee, fz1, fzC, fz, flat, flat1, flat0, flatI, Option.bind_some, putAll, M.bind, filt]; rfl) ?_
      refine Wp.cond rfl (Wp.skip (Wp.seq (Wp.block (Wp.seq ?_))))
      refine Wp.rgn (K := 0) (s' := ⟨[(0, filt [z]), (3, .own 1064 0 0 0), (4, .iv (.int .i64 0)), (5, .iv (.bool (!anyB emptyS z))), (6, .iv (.int .i64 0)), (58, .iv (.bool false))], [(1000, .buf 0 16 []), (1064, .buf 0 16 [])], 4392⟩) (fun n _ => rgn_quiet' rfl (by simp [evalRgn, Option.map_some, evalOps, step, wants, osem, M.run_bind, M.mapL, M.run, M.ok, M.fresh, M.write, M.look, M.lift, putD, Arb.set, ev, Arb.get, keepFr, bin, intBin, strBin, mk, params, cellsM, load, obRead, fadr, fld, isl, iarr, xarr, idx, len, valid, slc, bound, store, splice, nilc, un, eqs, eq0, evalFeet, footOf, M.foot, orderOk, apartAll, apart1, clash, meets, callM, fcallM, callee, fz1, fzC, fz, flat, flat1, flat0, flatI, Option.bind_some, putAll, M.bind, filt])) ?_
      refine Wp.cond rfl (Wp.skip ?_)
      simp only [Ex.then, Ex.inBlock]
      refine Wp.rgn (K := 0) (fun n _ => by simp [evalRgn, Option.map_some, evalOps, step, wants, osem, M.run_bind, M.mapL, M.run, M.ok, M.fresh, M.write, M.look, M.lift, putD, Arb.set, ev, Arb.get, keepFr, bin, intBin, strBin, mk, params, cellsM, load, obRead, fadr, fld, isl, iarr, xarr, idx, len, valid, slc, bound, store, splice, nilc, un, eqs, eq0, evalFeet, footOf, M.foot, orderOk, apartAll, apart1, clash, meets, callM, fcallM, callee, fz1, fzC, fz, flat, flat1, flat0, flatI, Option.bind_some, putAll, M.bind]; rfl) ?_
      exact ⟨rfl, trivial⟩
    · intro _
      refine Wp.seq (Wp.seq ?_)
      refine Wp.rgn (K := 0) (fun n _ => by simp [evalRgn, Option.map_some, evalOps, step, wants, osem, M.run_bind, M.mapL, M.run, M.ok, M.fresh, M.write, M.look, M.lift, putD, Arb.set, ev, Arb.get, keepFr, bin, intBin, strBin, mk, params, cellsM, load, obRead, fadr, fld, isl, iarr, xarr, idx, len, valid, slc, bound, store, splice, nilc, un, eqs, eq0, evalFeet, footOf, M.foot, orderOk, apartAll, apart1, clash, meets, callM, fcallM, callee, fz1, fzC, fz, flat, flat1, flat0, flatI, Option.bind_some, putAll, M.bind, filt]; rfl) ?_
      refine Wp.cond rfl (Wp.exit ?_)
      simp only [Ex.then, Ex.inBlock, if_true]
      refine Wp.seq ?_
      refine Wp.rgn (K := 0) (fun n _ => by simp [evalRgn, Option.map_some, evalOps, step, wants, osem, M.run_bind, M.mapL, M.run, M.ok, M.fresh, M.write, M.look, M.lift, putD, Arb.set, ev, Arb.get, keepFr, bin, intBin, strBin, mk, params, cellsM, load, obRead, fadr, fld, isl, iarr, xarr, idx, len, valid, slc, bound, store, splice, nilc, un, eqs, eq0, evalFeet, footOf, M.foot, orderOk, apartAll, apart1, clash, meets, callM, fcallM, callee, fz1, fzC, fz, flat, flat1, flat0, flatI, Option.bind_some, putAll, M.bind]; rfl) ?_
      refine Wp.cond rfl ?_
      have hw : tidyN z = if !anyB emptyS z then [z] else [] := by unfold tidyN; cases anyB emptyS z <;> rfl
      cases he : anyB emptyS z with
      | true =>
        refine Wp.skip ?_
        simp only [Ex.then, Ex.inBlock]
        refine Wp.rgn (K := 0) (fun n _ => by simp [evalRgn, Option.map_some, evalOps, step, wants, osem, M.run_bind, M.mapL, M.run, M.ok, M.fresh, M.write, M.look, M.lift, putD, Arb.set, ev, Arb.get, keepFr, bin, intBin, strBin, mk, params, cellsM, load, obRead, fadr, fld, isl, iarr, xarr, idx, len, valid, slc, bound, store, splice, nilc, un, eqs, eq0, evalFeet, footOf, M.foot, orderOk, apartAll, apart1, clash, meets, callM, fcallM, callee, fz1, fzC, fz, flat, flat1, flat0, flatI, Option.bind_some, putAll, M.bind]; rfl) ?_
        rw [hw, he]
        exact ⟨rfl, trivial⟩
      | false =>
        refine Wp.rgn (K := 0) (fun n _ => by simp [evalRgn, Option.map_some, evalOps, step, wants, osem, M.run_bind, M.mapL, M.run, M.ok, M.fresh, M.write, M.look, M.lift, putD, Arb.set, ev, Arb.get, keepFr, bin, intBin, strBin, mk, params, cellsM, load, obRead, fadr, fld, isl, iarr, xarr, idx, len, valid, slc, bound, store, splice, nilc, un, eqs, eq0, evalFeet, footOf, M.foot, orderOk, apartAll, apart1, clash, meets, callM, fcallM, callee, fz1, flat, flat1, flat0, flatI, Option.bind_some, putAll, M.bind, filt, B.enc_len, B.enc_take, B.enc_cs, B.cs_fzC, B.cs_fz, B.cs_len, setAll, app, elems, roomy]; rfl) ?_
        simp only [Ex.then, Ex.inBlock]
        refine Wp.rgn (K := 0) (fun n _ => by simp [evalRgn, Option.map_some, evalOps, step, wants, osem, M.run_bind, M.mapL, M.run, M.ok, M.fresh, M.write, M.look, M.lift, putD, Arb.set, ev, Arb.get, keepFr, bin, intBin, strBin, mk, params, cellsM, load, obRead, fadr, fld, isl, iarr, xarr, idx, len, valid, slc, bound, store, splice, nilc, un, eqs, eq0, evalFeet, footOf, M.foot, orderOk, apartAll, apart1, clash, meets, callM, fcallM, callee, fz1, fzC, fz, flat, flat1, flat0, flatI, Option.bind_some, putAll, M.bind]; rfl) ?_
        rw [hw, he]
        exact ⟨rfl, trivial⟩
  · intro _
    refine Wp.seq (Wp.seq ?_)
    refine Wp.rgn (K := 0) (fun n _ => by simp [evalRgn, Option.map_some, evalOps, step, wants, osem, M.run_bind, M.mapL, M.run, M.ok, M.fresh, M.write, M.look, M.lift, putD, Arb.set, ev, Arb.get, keepFr, bin, intBin, strBin, mk, params, cellsM, load, obRead, fadr, fld, isl, iarr, xarr, idx, len, valid, slc, bound, store, splice, nilc, un, eqs, eq0, evalFeet, footOf, M.foot, orderOk, apartAll, apart1, clash, meets, callM, fcallM, callee, fz1, fzC, fz, flat, flat1, flat0, flatI, Option.bind_some, putAll, M.bind, filt]; rfl) ?_
    refine Wp.cond rfl (Wp.exit ?_)
    simp only [Ex.then, Ex.inBlock, if_true]
    refine Wp.seq ?_
    refine Wp.rgn (K := 0) (fun n _ => by simp [evalRgn, Option.map_some, evalOps, step, wants, osem, M.run_bind, M.mapL, M.run, M.ok, M.fresh, M.write, M.look, M.lift, putD, Arb.set, ev, Arb.get, keepFr, bin, intBin, strBin, mk, params, cellsM, load, obRead, fadr, fld, isl, iarr, xarr, idx, len, valid, slc, bound, store, splice, nilc, un, eqs, eq0, evalFeet, footOf, M.foot, orderOk, apartAll, apart1, clash, meets, callM, fcallM, callee, fz1, fzC, fz, flat, flat1, flat0, flatI, Option.bind_some, putAll, M.bind]; rfl) ?_
    refine Wp.ret ?_
    simp [FinS, F99, resAll, resM, outA, ev, get, M.look, M.bind, M.run, M.run_bind, M.ok, shut, fzA, fz1, fzC, fz, M.write, M.lift, filt, take_map_len]

/-- of one box -/
theorem p_rightN (R : Right6 prog) (z : B) (hz : z.ok) : Ans prog 98 [filt [z]] (.iv (.bool (right1 z))) := by
  obtain ⟨K1, hK1⟩ := p_rightB4 R.h105 R.h100 z hz
  obtain ⟨K2, hK2⟩ := p_smallB4 R.h106 R.h101 z hz
  obtain ⟨K3, hK3⟩ := p_tidyN R z hz
  refine Ans.of R.h98 rfl rfl (Wp.seq ?_)
  refine Wp.rgn (K := 0) (fun n _ => by simp [evalRgn, Option.map_some, evalOps, step, wants, osem, M.run_bind, M.mapL, M.run, M.ok, M.fresh, M.write, M.look, M.lift, putD, Arb.set, ev, Arb.get, keepFr, bin, intBin, strBin, mk, params, cellsM, load, obRead, fadr, fld, isl, iarr, xarr, idx, len, valid, slc, bound, store, splice, nilc, un, eqs, eq0, evalFeet, footOf, M.foot, orderOk, apartAll, apart1, clash, meets, callM, fcallM, callee, fz1, fzC, fz, flat, flat1, flat0, flatI, Option.bind_some, putAll, M.bind]; rfl) ?_
  refine Wp.seq (Wp.seq ?_)
  refine Wp.rgn (K := 0) (fun n _ => by simp [evalRgn, Option.map_some, evalOps, step, wants, osem, M.run_bind, M.mapL, M.run, M.ok, M.fresh, M.write, M.look, M.lift, putD, Arb.set, ev, Arb.get, keepFr, bin, intBin, strBin, mk, params, cellsM, load, obRead, fadr, fld, isl, iarr, xarr, idx, len, valid, slc, bound, store, splice, nilc, un, eqs, eq0, evalFeet, footOf, M.foot, orderOk, apartAll, apart1, clash, meets, callM, fcallM, callee, fz1, fzC, fz, flat, flat1, flat0, flatI, Option.bind_some, putAll, M.bind]; rfl) ?_
  refine Wp.block ?_
  refine Wp.range 1 (fun i => ⟨[(0, filt [z]), (3, .iv (.int .i64 i))], [], 1128⟩) (fun i => 0 < i → (allB rightS z && allB smallS z) = true) rfl (fun h => absurd h (Nat.lt_irrefl _)) ?_ ?_
  · intro i hi _
    obtain rfl : i = 0 := by omega
    refine Wp.seq (Wp.seq ?_)
    refine Wp.rgn (K := 0) (fun n _ => by simp [evalRgn, Option.map_some, evalOps, step, wants, osem, M.run_bind, M.mapL, M.run, M.ok, M.fresh, M.write, M.look, M.lift, putD, Arb.set, ev, Arb.get, keepFr, bin, intBin, strBin, mk, params, cellsM, load, obRead, fadr, fld, isl, iarr, xarr, idx, len, valid, slc, bound, store, splice, nilc, un, eqs, eq0, evalFeet, footOf, M.foot, orderOk, apartAll, apart1, clash, meets, callM, fcallM, callee, fz1, fzC, fz, flat, flat1, flat0, flatI, Option.bind_some, putAll, M.bind, filt]; rfl) ?_
    refine Wp.cond rfl (Wp.skip (Wp.seq (Wp.block (Wp.seq ?_))))
    refine Wp.rgn (K := max K1 K2) (s' := ⟨[(0, filt [z]), (3, .iv (.int .i64 0)), (23, .iv (.bool (!(allB rightS z && allB smallS z))))], [], 2280⟩) (fun n hn => by
      have e1 := hK1 n (by omega)
      have e2 := hK2 n (by omega)
      simp only [B.av] at e1 e2
      generalize evalF prog n = g at e1 e2
      cases h1 : allB rightS z <;> rw [h1] at e1 <;> simp [evalRgn, Option.map_some, evalOps, step, wants, osem, M.run_bind, M.mapL, M.run, M.ok, M.fresh, M.write, M.look, M.lift, putD, Arb.set, ev, Arb.get, keepFr, bin, intBin, strBin, mk, params, cellsM, load, obRead, fadr, fld, isl, iarr, xarr, idx, len, valid, slc, bound, store, splice, nilc, un, eqs, eq0, evalFeet, footOf, M.foot, orderOk, apartAll, apart1, clash, meets, callM, fcallM, callee, fz1, flat, flat1, flat0, flatI, Option.bind_some, putAll, M.bind, filt, B.enc_len, B.enc_take, B.enc_cs, B.cs_fzC, e1, e2]) ?_
    refine Wp.cond rfl ?_
    cases hr : allB rightS z && allB smallS z with
    | false =>
      refine Wp.seq ?_
      refine Wp.rgn (K := 0) (fun n _ => by simp [evalRgn, Option.map_some, evalOps, step, wants, osem, M.run_bind, M.mapL, M.run, M.ok, M.fresh, M.write, M.look, M.lift, putD, Arb.set, ev, Arb.get, keepFr, bin, intBin, strBin, mk, params, cellsM, load, obRead, fadr, fld, isl, iarr, xarr, idx, len, valid, slc, bound, store, splice, nilc, un, eqs, eq0, evalFeet, footOf, M.foot, orderOk, apartAll, apart1, clash, meets, callM, fcallM, callee, fz1, fzC, fz, flat, flat1, flat0, flatI, Option.bind_some, putAll, M.bind]; rfl) ?_
      refine Wp.ret ?_
      have : right1 z = false := by
        unfold right1
        cases h1 : allB rightS z with
        | false => rfl
        | true => rw [h1, Bool.true_and] at hr; rw [hr]; rfl
      rw [this]; rfl
    | true =>
      refine Wp.skip ?_
      refine Wp.rgn (K := 0) (fun n _ => by simp [evalRgn, Option.map_some, evalOps, step, wants, osem, M.run_bind, M.mapL, M.run, M.ok, M.fresh, M.write, M.look, M.lift, putD, Arb.set, ev, Arb.get, keepFr, bin, intBin, strBin, mk, params, cellsM, load, obRead, fadr, fld, isl, iarr, xarr, idx, len, valid, slc, bound, store, splice, nilc, un, eqs, eq0, evalFeet, footOf, M.foot, orderOk, apartAll, apart1, clash, meets, callM, fcallM, callee, fz1, fzC, fz, flat, flat1, flat0, flatI, Option.bind_some, putAll, M.bind]; rfl) ?_
      exact ⟨rfl, fun _ => rfl⟩
  · intro hg
    have hg := hg (by omega)
    refine Wp.seq (Wp.seq ?_)
    refine Wp.rgn (K := 0) (fun n _ => by simp [evalRgn, Option.map_some, evalOps, step, wants, osem, M.run_bind, M.mapL, M.run, M.ok, M.fresh, M.write, M.look, M.lift, putD, Arb.set, ev, Arb.get, keepFr, bin, intBin, strBin, mk, params, cellsM, load, obRead, fadr, fld, isl, iarr, xarr, idx, len, valid, slc, bound, store, splice, nilc, un, eqs, eq0, evalFeet, footOf, M.foot, orderOk, apartAll, apart1, clash, meets, callM, fcallM, callee, fz1, fzC, fz, flat, flat1, flat0, flatI, Option.bind_some, putAll, M.bind, filt]; rfl) ?_
    refine Wp.cond rfl (Wp.exit ?_)
    simp only [Ex.then, Ex.inBlock, if_true]
    refine Wp.seq ?_
    have hr : right1 z = !anyB emptyS z := by
      simp only [Bool.and_eq_true] at hg
      unfold right1; rw [hg.1, hg.2]; rfl
    rw [hr]
    refine Wp.rgn (K := K3) (s' := ⟨[(2, .iv (.bool (!anyB emptyS z)))], [], 2152⟩) (fun n hn => by
      have e1 := hK3 n hn
      simp only [filt] at e1
      generalize evalF prog n = g at e1
      unfold tidyN at e1
      cases he : anyB emptyS z <;> rw [he] at e1 <;> simp at e1 <;> simp [evalRgn, Option.map_some, evalOps, step, wants, osem, M.run_bind, M.mapL, M.run, M.ok, M.fresh, M.write, M.look, M.lift, putD, Arb.set, ev, Arb.get, keepFr, bin, intBin, strBin, mk, params, cellsM, load, obRead, fadr, fld, isl, iarr, xarr, idx, len, valid, slc, bound, store, splice, nilc, un, eqs, eq0, evalFeet, footOf, M.foot, orderOk, apartAll, apart1, clash, meets, callM, fcallM, callee, fz1, fzC, fz, flat, flat1, flat0, flatI, Option.bind_some, putAll, M.bind, filt, e1]) ?_
    exact Wp.ret rfl
end
end Arb

/-
  A PERFECT MERGER HAS JUST THE EVENTS OF BOTH, A HULL THOSE OF BOTH; BOTH ARE RIGHT.
-/
set_option linter.unusedSimpArgs false
namespace Arb
open Go

theorem allB_iff {f : S → Bool} {b : B} : allB f b = true ↔ ∀ i, i < 4 → f (b.get i) = true := by
  constructor
  · intro h i hi
    simp only [allB, Bool.and_eq_true] at h
    match i, hi with
    | 0, _ => exact h.1
    | 1, _ => exact h.2.1
    | 2, _ => exact h.2.2.1
    | 3, _ => exact h.2.2.2
  · exact allB_true
end Arb

/-
  MergePerfect: THE WALK.
-/
set_option linter.unusedSimpArgs false
namespace Arb
open Go

section
variable {prog : Nat → Option IFn}

end
end Arb

/-
  A LAW: what the abstract machine answers, the program does; and it writes nothing that was there.
-/
namespace Arb
open Go Go.RowKit

section
variable {ν : Nat → Nat} {P : Program}

def start (W : World) : Gh := ⟨Old W, fun _ => none, W, []⟩

theorem law_calls (hmix : P.follows .mixedOrders = true) {prog : Nat → Option IFn} (tie : Tie P ν prog) {f : Nat} {W : World} {cargs : Array Value} {xs : List AV} (hR : RL ν (start W) cargs.toList xs) {n : Nat} {r : IV} {hp' : Hp}
    (he : evalF prog n f xs [] = some (.iv r, hp')) (hf : flatI r = true) : Calls P (ν f) cargs W fun e w' => ∃ v, e = .returned v ∧ RI ν (fun _ => False) W v r ∧ Below W.heap.size W w' := by
  obtain ⟨_, hok⟩ := sound hmix tie n f xs [] _ hp' he
  refine (hok ⟨W, Old W, fun _ => False⟩ (start W) cargs rfl rfl rfl (rel_none (g := start W) (J := Old W) fun b h => h) hR).mono ?_
  rintro e w' ⟨v, g', rfl, rfl, -, r', -, hv⟩
  refine ⟨v, rfl, ?_, ⟨r'.os, r'.tape, r'.output, r'.size, fun b hb => r'.old b hb fun h => h⟩⟩
  cases hv with
  | iv h => exact flatI_any hf h

theorem law_true (hmix : P.follows .mixedOrders = true) {prog : Nat → Option IFn} (tie : Tie P ν prog) {f : Nat} {W : World} {cargs : Array Value} {xs : List AV} (hR : RL ν (start W) cargs.toList xs)
    (he : ∃ n hp', evalF prog n f xs [] = some (.iv (.bool true), hp')) : Calls P (ν f) cargs W fun e w' => e = .returned (.bool true) ∧ Below W.heap.size W w' := by
  obtain ⟨n, hp', he⟩ := he
  refine (law_calls hmix tie hR he rfl).mono ?_
  rintro e w' ⟨v, rfl, hv, hb⟩
  cases hv with
  | bool => exact ⟨rfl, hb⟩

def TieAt (P : Program) (ν : Nat → Nat) (f : Nat) (ir : IFn) : Prop := ∃ fn c, P.funcs[ν f]? = some fn ∧ fn.body = some c ∧ (fn.name == "runtime.NumGoroutine") = false ∧ cFn P ν fn c ir = true
theorem tie_nil : Tie P ν (get []) := fun f ir h => by simp [get] at h
theorem tie_cons {f : Nat} {ir : IFn} {L : List (Nat × IFn)} (h : TieAt P ν f ir) (hL : Tie P ν (get L)) : Tie P ν (get ((f, ir) :: L)) := by
  intro f' ir' hg
  simp only [get] at hg
  split at hg
  · rename_i h0
    subst h0
    simp only [Option.some.injEq] at hg
    subst hg
    exact h
  · exact hL f' ir' hg
def oneB (P : Program) (ν : Nat → Nat) (fn : Func) (ir : IFn) : Bool := (match fn.body with | some c => cFn P ν fn c ir | none => false) && !(fn.name == "runtime.NumGoroutine")
theorem tie_at {f k : Nat} {ir : IFn} {fn : Func} (hk : P.funcs[k]? = some fn) (hν : ν f = k) (h : oneB P ν fn ir = true) : TieAt P ν f ir := by
  simp only [oneB, Bool.and_eq_true, Bool.not_eq_true'] at h
  obtain ⟨h1, h2⟩ := h
  split at h1
  · rename_i c hc
    exact ⟨fn, c, by rw [hν]; exact hk, hc, h2, h1⟩
  · cases h1
end
end Arb
