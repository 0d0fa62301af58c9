/-
  THE DOCUMENT'S RIGHT SETS AND BOXES.
-/
import Derived.Below
import Derived.Test.YtiggikalagohaaaGreatArbA
import Derived.Test.YtiggikalagohaaaGreatArbB
import Derived.Test.YtiggikalagohaaaGreatArbC
import Derived.Test.YtiggikalagohaaaGreatArbD
import Derived.Test.YtiggikalagohaaaGreatArbE
import Derived.Test.YtiggikalagohaaaGreatArbF
import Derived.Test.YtiggikalagohaaaGreatArbG
set_option linter.unusedSimpArgs false
namespace Arb
open Go

/-- what the document asks of a range and the one ahead of it -/
def badQ (l : List (Int × Int)) : Nat → Bool
  | 0 => match l[0]? with
    | some r => decide (r.2 < r.1)
    | none => false
  | j + 1 => match l[j + 1]?, l[j]? with
    | some r, some p => decide (r.2 < r.1) || (decide (r.1 ≤ p.2) || decide (r.1 ≤ IntKind.wrap .i64 (p.2 + 1)))
    | _, _ => false
theorem badQ_eq {l : List (Int × Int)} (h : in64s l) : ∀ i, badQ l i = badR l i
  | 0 => rfl
  | j + 1 => by
    cases hr : l[j + 1]? with
    | none => simp only [badQ, badR, hr]
    | some r =>
      cases hp : l[j]? with
      | none => simp only [badQ, badR, hr, hp]
      | some p =>
        have h1 := h p (List.mem_of_getElem? hp)
        have h2 := h r (List.mem_of_getElem? hr)
        unfold in64 at h1 h2
        simp only [badQ, badR, hr, hp]
        cases hd : decide (r.1 ≤ p.2) with
        | true => simp
        | false =>
          have hd := of_decide_eq_false hd
          rw [IntWalk.i64_in (p.2 + 1) (by omega), IntWalk.i64_in (r.1 - 1) (by omega)]
          rw [show (decide (r.1 ≤ p.2 + 1)) = (r.1 - 1 == p.2) by rw [Bool.eq_iff_iff]; simp; omega]

section
variable {prog : Nat → Option IFn}

theorem p_smallS3 (h : prog 106 = some F106) (x : S) : Ans prog 106 [x.av] (.iv (.bool (smallS x))) := by
  refine Ans.of h rfl rfl (Wp.seq ?_)
  refine Wp.rgn (K := 0) (fun n _ => by simp [evalRgn, Option.map_some, evalOps, step, wants, osem, M.run_bind, M.mapL, M.run, M.ok, M.fresh, M.write, M.look, M.lift, putD, Arb.set, ev, Arb.get, keepFr, bin, intBin, strBin, mk, params, cellsM, load, obRead, fadr, fld, isl, iarr, xarr, idx, len, valid, slc, bound, store, splice, nilc, un, eqs, eq0, evalFeet, footOf, M.foot, orderOk, apartAll, apart1, clash, meets, callM, fcallM, callee, fz1, fzC, fz, flat, flat1, flat0, flatI, Option.bind_some, putAll, M.bind, S.av]; rfl) ?_
  refine Wp.seq ?_
  refine Wp.rgn (K := 0) (s' := ⟨[(2, .iv (.bool (smallS x)))], [(1000, .cells [.iv (.bool x.a), .iv (.sl 2 (x.i.map rng)), .iv (.bool x.c), .iv (.sl 1 (x.s.map st1))])], 1832⟩) (fun n hn => by
    have e1 : decide ((x.i.length : Int) ≤ 6) = decide (x.i.length ≤ 6) := decide_eq_decide.2 (by omega)
    have e2 : decide ((x.s.length : Int) ≤ 6) = decide (x.s.length ≤ 6) := decide_eq_decide.2 (by omega)
    unfold smallS
    cases h1 : decide (x.i.length ≤ 6) <;> simp [evalRgn, Option.map_some, evalOps, step, wants, osem, M.run_bind, M.mapL, M.run, M.ok, M.fresh, M.write, M.look, M.lift, putD, Arb.set, ev, Arb.get, keepFr, bin, intBin, strBin, mk, params, cellsM, load, obRead, fadr, fld, isl, iarr, xarr, idx, len, valid, slc, bound, store, splice, nilc, un, eqs, eq0, evalFeet, footOf, M.foot, orderOk, apartAll, apart1, clash, meets, callM, fcallM, callee, fz1, fzC, fz, flat, flat1, flat0, flatI, Option.bind_some, putAll, M.bind, e1, e2, h1]) ?_
  exact Wp.ret rfl
theorem p_emptyS3 (h : prog 108 = some F108) (x : S) : Ans prog 108 [x.av] (.iv (.bool (emptyS x))) := by
  refine Ans.of h rfl rfl (Wp.seq ?_)
  refine Wp.rgn (K := 0) (fun n _ => by simp [evalRgn, Option.map_some, evalOps, step, wants, osem, M.run_bind, M.mapL, M.run, M.ok, M.fresh, M.write, M.look, M.lift, putD, Arb.set, ev, Arb.get, keepFr, bin, intBin, strBin, mk, params, cellsM, load, obRead, fadr, fld, isl, iarr, xarr, idx, len, valid, slc, bound, store, splice, nilc, un, eqs, eq0, evalFeet, footOf, M.foot, orderOk, apartAll, apart1, clash, meets, callM, fcallM, callee, fz1, fzC, fz, flat, flat1, flat0, flatI, Option.bind_some, putAll, M.bind, S.av]; rfl) ?_
  refine Wp.seq ?_
  refine Wp.rgn (K := 0) (s' := ⟨[(2, .iv (.bool (emptyS x)))], [(1000, .cells [.iv (.bool x.a), .iv (.sl 2 (x.i.map rng)), .iv (.bool x.c), .iv (.sl 1 (x.s.map st1))])], 2472⟩) (fun n hn => by
    have e1 : ((x.i.length : Int) == 0) = (x.i.length == 0) := by rw [Bool.eq_iff_iff]; simp
    have e2 : ((x.s.length : Int) == 0) = (x.s.length == 0) := by rw [Bool.eq_iff_iff]; simp
    cases b0 : x.a <;> cases b1 : x.i.length == 0 <;> cases b2 : x.c <;> simp [evalRgn, Option.map_some, evalOps, step, wants, osem, M.run_bind, M.mapL, M.run, M.ok, M.fresh, M.write, M.look, M.lift, putD, Arb.set, ev, Arb.get, keepFr, bin, intBin, strBin, mk, params, cellsM, load, obRead, fadr, fld, isl, iarr, xarr, idx, len, valid, slc, bound, store, splice, nilc, un, eqs, eq0, evalFeet, footOf, M.foot, orderOk, apartAll, apart1, clash, meets, callM, fcallM, callee, fz1, fzC, fz, flat, flat1, flat0, flatI, Option.bind_some, putAll, M.bind, emptyS, e1, e2, b0, b1, b2]) ?_
  exact Wp.ret rfl

theorem rightS_badR {x : S} {i : Nat} (hi : i < x.i.length) (h : badR x.i i = true) : rightS x = false := by
  unfold rightS
  rw [Bool.and_eq_false_iff]
  left
  rw [List.all_eq_false]
  exact ⟨i, List.mem_range.2 hi, by simp [h]⟩
theorem rightS_badT {x : S} {i : Nat} (hi : i < x.s.length) (h : badT x.s i = true) : rightS x = false := by
  unfold rightS
  rw [Bool.and_eq_false_iff]
  right
  rw [List.all_eq_false]
  exact ⟨i, List.mem_range.2 hi, by simp [h]⟩
theorem rightS_none {x : S} (h1 : ∀ i, i < x.i.length → badR x.i i = false) (h2 : ∀ i, i < x.s.length → badT x.s i = false) : rightS x = true := by
  unfold rightS
  simp only [Bool.and_eq_true, List.all_eq_true, List.mem_range, Bool.not_eq_true']
  exact ⟨h1, h2⟩

set_option maxHeartbeats 4000000 in
theorem p_rightS3 (h : prog 105 = some F105) (x : S) (hx : x.ok) : Ans prog 105 [x.av] (.iv (.bool (rightS x))) := by
  have hb : ∀ i, badQ x.i i = badR x.i i := badQ_eq hx.ri
  have li := hx.li
  have ls := hx.ls
  unfold maxLen at li ls
  refine Ans.of h rfl rfl (Wp.seq ?_)
  refine Wp.rgn (K := 0) (fun n _ => by simp [evalRgn, Option.map_some, evalOps, step, wants, osem, M.run_bind, M.mapL, M.run, M.ok, M.fresh, M.write, M.look, M.lift, putD, Arb.set, ev, Arb.get, keepFr, bin, intBin, strBin, mk, params, cellsM, load, obRead, fadr, fld, isl, iarr, xarr, idx, len, valid, slc, bound, store, splice, nilc, un, eqs, eq0, evalFeet, footOf, M.foot, orderOk, apartAll, apart1, clash, meets, callM, fcallM, callee, fz1, fzC, fz, flat, flat1, flat0, flatI, Option.bind_some, putAll, M.bind, S.av]; rfl) ?_
  refine Wp.seq (Wp.seq ?_)
  refine Wp.rgn (K := 0) (fun n _ => by simp [evalRgn, Option.map_some, evalOps, step, wants, osem, M.run_bind, M.mapL, M.run, M.ok, M.fresh, M.write, M.look, M.lift, putD, Arb.set, ev, Arb.get, keepFr, bin, intBin, strBin, mk, params, cellsM, load, obRead, fadr, fld, isl, iarr, xarr, idx, len, valid, slc, bound, store, splice, nilc, un, eqs, eq0, evalFeet, footOf, M.foot, orderOk, apartAll, apart1, clash, meets, callM, fcallM, callee, fz1, fzC, fz, flat, flat1, flat0, flatI, Option.bind_some, putAll, M.bind]; rfl) ?_
  refine Wp.block ?_
  refine Wp.range x.i.length (fun i => ⟨[(1, .ref 1000 0 0 0), (3, .iv (.int .i64 i))], [(1000, .cells [.iv (.bool x.a), .iv (.sl 2 (x.i.map rng)), .iv (.bool x.c), .iv (.sl 1 (x.s.map st1))])], 1192⟩) (fun i => ∀ j, j < i → badR x.i j = false) rfl (fun j hj => absurd hj (Nat.not_lt_zero _)) ?_ ?_
  · intro i hi hg
    have hi' : (i : Int) < x.i.length := by omega
    obtain ⟨r, hr⟩ : ∃ r, x.i[i]? = some r := ⟨_, List.getElem?_eq_getElem hi⟩
    refine Wp.seq (Wp.seq ?_)
    refine Wp.rgn (K := 0) (fun n _ => by simp [evalRgn, Option.map_some, evalOps, step, wants, osem, M.run_bind, M.mapL, M.run, M.ok, M.fresh, M.write, M.look, M.lift, putD, Arb.set, ev, Arb.get, keepFr, bin, intBin, strBin, mk, params, cellsM, load, obRead, fadr, fld, isl, iarr, xarr, idx, len, valid, slc, bound, store, splice, nilc, un, eqs, eq0, evalFeet, footOf, M.foot, orderOk, apartAll, apart1, clash, meets, callM, fcallM, callee, fz1, fzC, fz, flat, flat1, flat0, flatI, Option.bind_some, putAll, M.bind, hi]; rfl) ?_
    refine Wp.cond rfl (Wp.skip (Wp.seq (Wp.block (Wp.seq ?_))))
    refine Wp.rgn (K := 0) (s' := ⟨[(1, .ref 1000 0 0 0), (3, .iv (.int .i64 i)), (4, .ref 1832 0 0 0)], [(1000, .cells [.iv (.bool x.a), .iv (.sl 2 (x.i.map rng)), .iv (.bool x.c), .iv (.sl 1 (x.s.map st1))]), (1832, .cells [.iv (.int .i64 r.1), .iv (.int .i64 r.2)])], 1960⟩) (fun n _ => by simp [evalRgn, Option.map_some, evalOps, step, wants, osem, M.run_bind, M.mapL, M.run, M.ok, M.fresh, M.write, M.look, M.lift, putD, Arb.set, ev, Arb.get, keepFr, bin, intBin, strBin, mk, params, cellsM, load, obRead, fadr, fld, isl, iarr, xarr, idx, len, valid, slc, bound, store, splice, nilc, un, eqs, eq0, evalFeet, footOf, M.foot, orderOk, apartAll, apart1, clash, meets, callM, fcallM, callee, fz1, fzC, fz, flat, flat1, flat0, flatI, Option.bind_some, putAll, M.bind, hr, rng]) ?_
    refine Wp.seq (Wp.seq ?_)
    refine Wp.rgn (K := 0) (fun n _ => by simp [evalRgn, Option.map_some, evalOps, step, wants, osem, M.run_bind, M.mapL, M.run, M.ok, M.fresh, M.write, M.look, M.lift, putD, Arb.set, ev, Arb.get, keepFr, bin, intBin, strBin, mk, params, cellsM, load, obRead, fadr, fld, isl, iarr, xarr, idx, len, valid, slc, bound, store, splice, nilc, un, eqs, eq0, evalFeet, footOf, M.foot, orderOk, apartAll, apart1, clash, meets, callM, fcallM, callee, fz1, fzC, fz, flat, flat1, flat0, flatI, Option.bind_some, putAll, M.bind]; rfl) ?_
    refine Wp.cond rfl ?_
    cases hd : decide (r.2 < r.1) with
    | true =>
      refine Wp.seq ?_
      refine Wp.rgn (K := 0) (fun n _ => by simp [evalRgn, Option.map_some, evalOps, step, wants, osem, M.run_bind, M.mapL, M.run, M.ok, M.fresh, M.write, M.look, M.lift, putD, Arb.set, ev, Arb.get, keepFr, bin, intBin, strBin, mk, params, cellsM, load, obRead, fadr, fld, isl, iarr, xarr, idx, len, valid, slc, bound, store, splice, nilc, un, eqs, eq0, evalFeet, footOf, M.foot, orderOk, apartAll, apart1, clash, meets, callM, fcallM, callee, fz1, fzC, fz, flat, flat1, flat0, flatI, Option.bind_some, putAll, M.bind]; rfl) ?_
      refine Wp.ret ?_
      have hbad : badR x.i i = true := by
        rw [← hb]
        cases i with
        | zero => simp [badQ, hr, of_decide_eq_true hd]
        | succ j =>
          obtain ⟨p, hp⟩ : ∃ p, x.i[j]? = some p := ⟨_, List.getElem?_eq_getElem (by omega)⟩
          simp [badQ, hr, hp, of_decide_eq_true hd]
      rw [rightS_badR hi hbad]; rfl
    | false =>
      refine Wp.skip (Wp.seq ?_)
      refine Wp.rgn (K := 0) (s' := ⟨[(1, .ref 1000 0 0 0), (3, .iv (.int .i64 i)), (49, .iv (.bool (badQ x.i i)))], [(1000, .cells [.iv (.bool x.a), .iv (.sl 2 (x.i.map rng)), .iv (.bool x.c), .iv (.sl 1 (x.s.map st1))]), (1832, .cells [.iv (.int .i64 r.1), .iv (.int .i64 r.2)])], 4008⟩) (fun n _ => rgn_quiet' rfl (by
        cases i with
        | zero => simp [evalRgn, Option.map_some, evalOps, step, wants, osem, M.run_bind, M.mapL, M.run, M.ok, M.fresh, M.write, M.look, M.lift, putD, Arb.set, ev, Arb.get, keepFr, bin, intBin, strBin, mk, params, cellsM, load, obRead, fadr, fld, isl, iarr, xarr, idx, len, valid, slc, bound, store, splice, nilc, un, eqs, eq0, evalFeet, footOf, M.foot, orderOk, apartAll, apart1, clash, meets, callM, fcallM, callee, fz1, fzC, fz, flat, flat1, flat0, flatI, Option.bind_some, putAll, M.bind, badQ, hr, hd]
        | succ j =>
          obtain ⟨p, hp⟩ : ∃ p, x.i[j]? = some p := ⟨_, List.getElem?_eq_getElem (by omega)⟩
          have hp' : x.i[j]'(by omega) = p := (List.getElem?_eq_some_iff.1 hp).2
          have hm1 : (0 : Int) < (j : Int) + 1 := by omega
          have hm0 : (0 : Int) ≤ (j : Int) + 1 := by omega
          have hm2 : IntKind.wrap .i64 ((j : Int)) = (j : Int) := IntWalk.i64_in _ (by omega)
          have hm3 : j < x.i.length := by omega
          cases h1 : decide (r.1 ≤ p.2) <;> simp [evalRgn, Option.map_some, evalOps, step, wants, osem, M.run_bind, M.mapL, M.run, M.ok, M.fresh, M.write, M.look, M.lift, putD, Arb.set, ev, Arb.get, keepFr, bin, intBin, strBin, mk, params, cellsM, load, obRead, fadr, fld, isl, iarr, xarr, idx, len, valid, slc, bound, store, splice, nilc, un, eqs, eq0, evalFeet, footOf, M.foot, orderOk, apartAll, apart1, clash, meets, callM, fcallM, callee, fz1, fzC, fz, flat, flat1, flat0, flatI, Option.bind_some, putAll, M.bind, badQ, hr, hd, hp, hp', hm0, hm1, hm2, hm3, rng, h1])) ?_
      refine Wp.cond rfl ?_
      rw [hb]
      cases hbd : badR x.i i with
      | true =>
        refine Wp.seq ?_
        refine Wp.rgn (K := 0) (fun n _ => by simp [evalRgn, Option.map_some, evalOps, step, wants, osem, M.run_bind, M.mapL, M.run, M.ok, M.fresh, M.write, M.look, M.lift, putD, Arb.set, ev, Arb.get, keepFr, bin, intBin, strBin, mk, params, cellsM, load, obRead, fadr, fld, isl, iarr, xarr, idx, len, valid, slc, bound, store, splice, nilc, un, eqs, eq0, evalFeet, footOf, M.foot, orderOk, apartAll, apart1, clash, meets, callM, fcallM, callee, fz1, fzC, fz, flat, flat1, flat0, flatI, Option.bind_some, putAll, M.bind]; rfl) ?_
        refine Wp.ret ?_
        rw [rightS_badR hi hbd]; rfl
      | false =>
        refine Wp.skip ?_
        refine Wp.rgn (K := 0) (fun n _ => by simp [evalRgn, Option.map_some, evalOps, step, wants, osem, M.run_bind, M.mapL, M.run, M.ok, M.fresh, M.write, M.look, M.lift, putD, Arb.set, ev, Arb.get, keepFr, bin, intBin, strBin, mk, params, cellsM, load, obRead, fadr, fld, isl, iarr, xarr, idx, len, valid, slc, bound, store, splice, nilc, un, eqs, eq0, evalFeet, footOf, M.foot, orderOk, apartAll, apart1, clash, meets, callM, fcallM, callee, fz1, fzC, fz, flat, flat1, flat0, flatI, Option.bind_some, putAll, M.bind]; rfl) ?_
        refine ⟨by simp [again, keepFr, get, nrm_iv, nrm_ref_cells, nrmO, nrm, wrap_succ hi hx.li], fun j hj => ?_⟩
        by_cases hji : j = i
        · rw [hji]; exact hbd
        · exact hg j (by omega)
  · intro hg
    refine Wp.seq (Wp.seq ?_)
    refine Wp.rgn (K := 0) (fun n _ => by simp [evalRgn, Option.map_some, evalOps, step, wants, osem, M.run_bind, M.mapL, M.run, M.ok, M.fresh, M.write, M.look, M.lift, putD, Arb.set, ev, Arb.get, keepFr, bin, intBin, strBin, mk, params, cellsM, load, obRead, fadr, fld, isl, iarr, xarr, idx, len, valid, slc, bound, store, splice, nilc, un, eqs, eq0, evalFeet, footOf, M.foot, orderOk, apartAll, apart1, clash, meets, callM, fcallM, callee, fz1, fzC, fz, flat, flat1, flat0, flatI, Option.bind_some, putAll, M.bind]; rfl) ?_
    refine Wp.cond rfl (Wp.exit ?_)
    simp only [Ex.then, Ex.inBlock, if_true]
    refine Wp.seq (Wp.seq ?_)
    refine Wp.rgn (K := 0) (fun n _ => by simp [evalRgn, Option.map_some, evalOps, step, wants, osem, M.run_bind, M.mapL, M.run, M.ok, M.fresh, M.write, M.look, M.lift, putD, Arb.set, ev, Arb.get, keepFr, bin, intBin, strBin, mk, params, cellsM, load, obRead, fadr, fld, isl, iarr, xarr, idx, len, valid, slc, bound, store, splice, nilc, un, eqs, eq0, evalFeet, footOf, M.foot, orderOk, apartAll, apart1, clash, meets, callM, fcallM, callee, fz1, fzC, fz, flat, flat1, flat0, flatI, Option.bind_some, putAll, M.bind]; rfl) ?_
    refine Wp.block ?_
    refine Wp.range x.s.length (fun i => ⟨[(1, .ref 1000 0 0 0), (5, .iv (.int .i64 i))], [(1000, .cells [.iv (.bool x.a), .iv (.sl 2 (x.i.map rng)), .iv (.bool x.c), .iv (.sl 1 (x.s.map st1))])], 1576⟩) (fun i => ∀ j, j < i → badT x.s j = false) rfl (fun j hj => absurd hj (Nat.not_lt_zero _)) ?_ ?_
    · intro i hi hgt
      have hi' : (i : Int) < x.s.length := by omega
      obtain ⟨r, hr⟩ : ∃ r, x.s[i]? = some r := ⟨_, List.getElem?_eq_getElem hi⟩
      have hr' : x.s[i]'(by omega) = r := (List.getElem?_eq_some_iff.1 hr).2
      have he : decide ((8 : Int) < r.size) = decide (8 < r.size) := decide_eq_decide.2 (by omega)
      refine Wp.seq (Wp.seq ?_)
      refine Wp.rgn (K := 0) (fun n _ => by simp [evalRgn, Option.map_some, evalOps, step, wants, osem, M.run_bind, M.mapL, M.run, M.ok, M.fresh, M.write, M.look, M.lift, putD, Arb.set, ev, Arb.get, keepFr, bin, intBin, strBin, mk, params, cellsM, load, obRead, fadr, fld, isl, iarr, xarr, idx, len, valid, slc, bound, store, splice, nilc, un, eqs, eq0, evalFeet, footOf, M.foot, orderOk, apartAll, apart1, clash, meets, callM, fcallM, callee, fz1, fzC, fz, flat, flat1, flat0, flatI, Option.bind_some, putAll, M.bind, hi]; rfl) ?_
      refine Wp.cond rfl (Wp.skip (Wp.seq (Wp.block (Wp.seq ?_))))
      refine Wp.rgn (K := 0) (s' := ⟨[(1, .ref 1000 0 0 0), (5, .iv (.int .i64 i)), (81, .iv (.bool (badT x.s i)))], [(1000, .cells [.iv (.bool x.a), .iv (.sl 2 (x.i.map rng)), .iv (.bool x.c), .iv (.sl 1 (x.s.map st1))])], 3496⟩) (fun n _ => rgn_quiet' rfl (by
        cases i with
        | zero => cases h1 : decide (8 < r.size) <;> simp [evalRgn, Option.map_some, evalOps, step, wants, osem, M.run_bind, M.mapL, M.run, M.ok, M.fresh, M.write, M.look, M.lift, putD, Arb.set, ev, Arb.get, keepFr, bin, intBin, strBin, mk, params, cellsM, load, obRead, fadr, fld, isl, iarr, xarr, idx, len, valid, slc, bound, store, splice, nilc, un, eqs, eq0, evalFeet, footOf, M.foot, orderOk, apartAll, apart1, clash, meets, callM, fcallM, callee, fz1, fzC, fz, flat, flat1, flat0, flatI, Option.bind_some, putAll, M.bind, badT, hr, he, h1, st1]
        | succ j =>
          obtain ⟨p, hp⟩ : ∃ p, x.s[j]? = some p := ⟨_, List.getElem?_eq_getElem (by omega)⟩
          have hp' : x.s[j]'(by omega) = p := (List.getElem?_eq_some_iff.1 hp).2
          have hm1 : (0 : Int) < (j : Int) + 1 := by omega
          have hm0 : (0 : Int) ≤ (j : Int) + 1 := by omega
          have hm2 : IntKind.wrap .i64 ((j : Int)) = (j : Int) := IntWalk.i64_in _ (by omega)
          have hm3 : j < x.s.length := by omega
          cases h1 : decide (8 < r.size) <;> simp [evalRgn, Option.map_some, evalOps, step, wants, osem, M.run_bind, M.mapL, M.run, M.ok, M.fresh, M.write, M.look, M.lift, putD, Arb.set, ev, Arb.get, keepFr, bin, intBin, strBin, mk, params, cellsM, load, obRead, fadr, fld, isl, iarr, xarr, idx, len, valid, slc, bound, store, splice, nilc, un, eqs, eq0, evalFeet, footOf, M.foot, orderOk, apartAll, apart1, clash, meets, callM, fcallM, callee, fz1, fzC, fz, flat, flat1, flat0, flatI, Option.bind_some, putAll, M.bind, badT, hr, hr', he, h1, hp, hp', hm0, hm1, hm2, hm3, hi, st1])) ?_
      refine Wp.cond rfl ?_
      cases hbd : badT x.s i with
      | true =>
        refine Wp.seq ?_
        refine Wp.rgn (K := 0) (fun n _ => by simp [evalRgn, Option.map_some, evalOps, step, wants, osem, M.run_bind, M.mapL, M.run, M.ok, M.fresh, M.write, M.look, M.lift, putD, Arb.set, ev, Arb.get, keepFr, bin, intBin, strBin, mk, params, cellsM, load, obRead, fadr, fld, isl, iarr, xarr, idx, len, valid, slc, bound, store, splice, nilc, un, eqs, eq0, evalFeet, footOf, M.foot, orderOk, apartAll, apart1, clash, meets, callM, fcallM, callee, fz1, fzC, fz, flat, flat1, flat0, flatI, Option.bind_some, putAll, M.bind]; rfl) ?_
        refine Wp.ret ?_
        rw [rightS_badT hi hbd]; rfl
      | false =>
        refine Wp.skip ?_
        refine Wp.rgn (K := 0) (fun n _ => by simp [evalRgn, Option.map_some, evalOps, step, wants, osem, M.run_bind, M.mapL, M.run, M.ok, M.fresh, M.write, M.look, M.lift, putD, Arb.set, ev, Arb.get, keepFr, bin, intBin, strBin, mk, params, cellsM, load, obRead, fadr, fld, isl, iarr, xarr, idx, len, valid, slc, bound, store, splice, nilc, un, eqs, eq0, evalFeet, footOf, M.foot, orderOk, apartAll, apart1, clash, meets, callM, fcallM, callee, fz1, fzC, fz, flat, flat1, flat0, flatI, Option.bind_some, putAll, M.bind]; rfl) ?_
        refine ⟨by simp [again, keepFr, get, nrm_iv, nrm_ref_cells, nrmO, nrm, wrap_succ hi hx.ls], fun j hj => ?_⟩
        by_cases hji : j = i
        · rw [hji]; exact hbd
        · exact hgt j (by omega)
    · intro hgt
      refine Wp.seq (Wp.seq ?_)
      refine Wp.rgn (K := 0) (fun n _ => by simp [evalRgn, Option.map_some, evalOps, step, wants, osem, M.run_bind, M.mapL, M.run, M.ok, M.fresh, M.write, M.look, M.lift, putD, Arb.set, ev, Arb.get, keepFr, bin, intBin, strBin, mk, params, cellsM, load, obRead, fadr, fld, isl, iarr, xarr, idx, len, valid, slc, bound, store, splice, nilc, un, eqs, eq0, evalFeet, footOf, M.foot, orderOk, apartAll, apart1, clash, meets, callM, fcallM, callee, fz1, fzC, fz, flat, flat1, flat0, flatI, Option.bind_some, putAll, M.bind]; rfl) ?_
      refine Wp.cond rfl (Wp.exit ?_)
      simp only [Ex.then, Ex.inBlock, if_true]
      refine Wp.seq ?_
      refine Wp.rgn (K := 0) (fun n _ => by simp [evalRgn, Option.map_some, evalOps, step, wants, osem, M.run_bind, M.mapL, M.run, M.ok, M.fresh, M.write, M.look, M.lift, putD, Arb.set, ev, Arb.get, keepFr, bin, intBin, strBin, mk, params, cellsM, load, obRead, fadr, fld, isl, iarr, xarr, idx, len, valid, slc, bound, store, splice, nilc, un, eqs, eq0, evalFeet, footOf, M.foot, orderOk, apartAll, apart1, clash, meets, callM, fcallM, callee, fz1, fzC, fz, flat, flat1, flat0, flatI, Option.bind_some, putAll, M.bind]; rfl) ?_
      refine Wp.ret ?_
      rw [rightS_none hg hgt]; rfl

set_option maxHeartbeats 1000000 in
theorem p_rightB4 (h105 : prog 105 = some F105) (h : prog 100 = some F100) (b : B) (hb : b.ok) : Ans prog 100 [b.av] (.iv (.bool (allB rightS b))) := by
  refine Ans.of h rfl rfl (Wp.seq ?_)
  refine Wp.rgn (K := 0) (s' := ⟨[(1, .ref 1000 0 0 0)], [(1000, .cells b.cs)], 1128⟩) (fun n _ => by simp [evalRgn, Option.map_some, evalOps, step, wants, osem, M.run_bind, M.mapL, M.run, M.ok, M.fresh, M.write, M.look, M.lift, putD, Arb.set, ev, Arb.get, keepFr, bin, intBin, strBin, mk, params, cellsM, load, obRead, fadr, fld, isl, iarr, xarr, idx, len, valid, slc, bound, store, splice, nilc, un, eqs, eq0, evalFeet, footOf, M.foot, orderOk, apartAll, apart1, clash, meets, callM, fcallM, callee, fz1, flat, flat1, flat0, flatI, Option.bind_some, putAll, M.bind, B.av, B.cs_nilc]) ?_
  refine Wp.seq (Wp.seq ?_)
  refine Wp.rgn (K := 0) (fun n _ => by simp [evalRgn, Option.map_some, evalOps, step, wants, osem, M.run_bind, M.mapL, M.run, M.ok, M.fresh, M.write, M.look, M.lift, putD, Arb.set, ev, Arb.get, keepFr, bin, intBin, strBin, mk, params, cellsM, load, obRead, fadr, fld, isl, iarr, xarr, idx, len, valid, slc, bound, store, splice, nilc, un, eqs, eq0, evalFeet, footOf, M.foot, orderOk, apartAll, apart1, clash, meets, callM, fcallM, callee, fz1, fzC, fz, flat, flat1, flat0, flatI, Option.bind_some, putAll, M.bind]; rfl) ?_
  refine Wp.block ?_
  refine Wp.range 4 (fun i => ⟨[(1, .ref 1000 0 0 0), (3, .iv (.int .i64 i))], [(1000, .cells b.cs)], 1192⟩) (fun i => ∀ j, j < i → rightS (b.get j) = true) rfl (fun j hj => absurd hj (Nat.not_lt_zero _)) ?_ ?_
  · intro i hi hg
    have hi' : (i : Int) < 4 := by omega
    have hm : min 4 (16 - i * 4) = 4 := by omega
    refine Wp.seq (Wp.seq ?_)
    refine Wp.rgn (K := 0) (fun n _ => by simp [evalRgn, Option.map_some, evalOps, step, wants, osem, M.run_bind, M.mapL, M.run, M.ok, M.fresh, M.write, M.look, M.lift, putD, Arb.set, ev, Arb.get, keepFr, bin, intBin, strBin, mk, params, cellsM, load, obRead, fadr, fld, isl, iarr, xarr, idx, len, valid, slc, bound, store, splice, nilc, un, eqs, eq0, evalFeet, footOf, M.foot, orderOk, apartAll, apart1, clash, meets, callM, fcallM, callee, fz1, fzC, fz, flat, flat1, flat0, flatI, Option.bind_some, putAll, M.bind, hi']; rfl) ?_
    refine Wp.cond rfl (Wp.skip (Wp.seq (Wp.block (Wp.seq ?_))))
    obtain ⟨K, hK⟩ := p_rightS3 h105 (b.get i) (hb.at hi)
    refine Wp.rgn (K := K) (s' := ⟨[(1, .ref 1000 0 0 0), (3, .iv (.int .i64 i)), (12, .iv (.bool (!rightS (b.get i))))], [(1000, .cells b.cs)], 1640⟩) (fun n hn => by
      have e1 := hK n hn
      simp only [S.av] at e1
      generalize evalF prog n = g at e1
      simp [evalRgn, Option.map_some, evalOps, step, wants, osem, M.run_bind, M.mapL, M.run, M.ok, M.fresh, M.write, M.look, M.lift, putD, Arb.set, ev, Arb.get, keepFr, bin, intBin, strBin, mk, params, cellsM, load, obRead, fadr, fld, isl, iarr, xarr, idx, len, valid, slc, bound, store, splice, nilc, un, eqs, eq0, evalFeet, footOf, M.foot, orderOk, apartAll, apart1, clash, meets, callM, fcallM, callee, fz1, fzC, fz, flat, flat1, flat0, flatI, Option.bind_some, putAll, M.bind, hi', B.cs_at b hi, B.cs_len, hm, e1]) ?_
    refine Wp.cond rfl ?_
    cases hr : rightS (b.get i) with
    | false =>
      refine Wp.seq ?_
      refine Wp.rgn (K := 0) (fun n _ => by simp [evalRgn, Option.map_some, evalOps, step, wants, osem, M.run_bind, M.mapL, M.run, M.ok, M.fresh, M.write, M.look, M.lift, putD, Arb.set, ev, Arb.get, keepFr, bin, intBin, strBin, mk, params, cellsM, load, obRead, fadr, fld, isl, iarr, xarr, idx, len, valid, slc, bound, store, splice, nilc, un, eqs, eq0, evalFeet, footOf, M.foot, orderOk, apartAll, apart1, clash, meets, callM, fcallM, callee, fz1, fzC, fz, flat, flat1, flat0, flatI, Option.bind_some, putAll, M.bind]; rfl) ?_
      refine Wp.ret ?_
      rw [allB_false hi hr]; rfl
    | true =>
      refine Wp.skip ?_
      refine Wp.rgn (K := 0) (fun n _ => by simp [evalRgn, Option.map_some, evalOps, step, wants, osem, M.run_bind, M.mapL, M.run, M.ok, M.fresh, M.write, M.look, M.lift, putD, Arb.set, ev, Arb.get, keepFr, bin, intBin, strBin, mk, params, cellsM, load, obRead, fadr, fld, isl, iarr, xarr, idx, len, valid, slc, bound, store, splice, nilc, un, eqs, eq0, evalFeet, footOf, M.foot, orderOk, apartAll, apart1, clash, meets, callM, fcallM, callee, fz1, fzC, fz, flat, flat1, flat0, flatI, Option.bind_some, putAll, M.bind]; rfl) ?_
      refine ⟨by simp [again, keepFr, get, nrm_iv, nrm_ref_cells, nrmO, B.cs_nrm, wrap_lt4 hi], fun j hj => ?_⟩
      by_cases hji : j = i
      · rw [hji]; exact hr
      · exact hg j (by omega)
  · intro hg
    refine Wp.seq (Wp.seq ?_)
    refine Wp.rgn (K := 0) (fun n _ => by simp [evalRgn, Option.map_some, evalOps, step, wants, osem, M.run_bind, M.mapL, M.run, M.ok, M.fresh, M.write, M.look, M.lift, putD, Arb.set, ev, Arb.get, keepFr, bin, intBin, strBin, mk, params, cellsM, load, obRead, fadr, fld, isl, iarr, xarr, idx, len, valid, slc, bound, store, splice, nilc, un, eqs, eq0, evalFeet, footOf, M.foot, orderOk, apartAll, apart1, clash, meets, callM, fcallM, callee, fz1, fzC, fz, flat, flat1, flat0, flatI, Option.bind_some, putAll, M.bind]; rfl) ?_
    refine Wp.cond rfl (Wp.exit ?_)
    simp only [Ex.then, Ex.inBlock, if_true]
    refine Wp.seq ?_
    refine Wp.rgn (K := 0) (fun n _ => by simp [evalRgn, Option.map_some, evalOps, step, wants, osem, M.run_bind, M.mapL, M.run, M.ok, M.fresh, M.write, M.look, M.lift, putD, Arb.set, ev, Arb.get, keepFr, bin, intBin, strBin, mk, params, cellsM, load, obRead, fadr, fld, isl, iarr, xarr, idx, len, valid, slc, bound, store, splice, nilc, un, eqs, eq0, evalFeet, footOf, M.foot, orderOk, apartAll, apart1, clash, meets, callM, fcallM, callee, fz1, fzC, fz, flat, flat1, flat0, flatI, Option.bind_some, putAll, M.bind]; rfl) ?_
    refine Wp.ret ?_
    rw [allB_true hg]; rfl

set_option maxHeartbeats 1000000 in
theorem p_smallB4 (h106 : prog 106 = some F106) (h : prog 101 = some F101) (b : B) (hb : b.ok) : Ans prog 101 [b.av] (.iv (.bool (allB smallS b))) := by
  refine Ans.of h rfl rfl (Wp.seq ?_)
  refine Wp.rgn (K := 0) (s' := ⟨[(1, .ref 1000 0 0 0)], [(1000, .cells b.cs)], 1128⟩) (fun n _ => by simp [evalRgn, Option.map_some, evalOps, step, wants, osem, M.run_bind, M.mapL, M.run, M.ok, M.fresh, M.write, M.look, M.lift, putD, Arb.set, ev, Arb.get, keepFr, bin, intBin, strBin, mk, params, cellsM, load, obRead, fadr, fld, isl, iarr, xarr, idx, len, valid, slc, bound, store, splice, nilc, un, eqs, eq0, evalFeet, footOf, M.foot, orderOk, apartAll, apart1, clash, meets, callM, fcallM, callee, fz1, flat, flat1, flat0, flatI, Option.bind_some, putAll, M.bind, B.av, B.cs_nilc]) ?_
  refine Wp.seq (Wp.seq ?_)
  refine Wp.rgn (K := 0) (fun n _ => by simp [evalRgn, Option.map_some, evalOps, step, wants, osem, M.run_bind, M.mapL, M.run, M.ok, M.fresh, M.write, M.look, M.lift, putD, Arb.set, ev, Arb.get, keepFr, bin, intBin, strBin, mk, params, cellsM, load, obRead, fadr, fld, isl, iarr, xarr, idx, len, valid, slc, bound, store, splice, nilc, un, eqs, eq0, evalFeet, footOf, M.foot, orderOk, apartAll, apart1, clash, meets, callM, fcallM, callee, fz1, fzC, fz, flat, flat1, flat0, flatI, Option.bind_some, putAll, M.bind]; rfl) ?_
  refine Wp.block ?_
  refine Wp.range 4 (fun i => ⟨[(1, .ref 1000 0 0 0), (3, .iv (.int .i64 i))], [(1000, .cells b.cs)], 1192⟩) (fun i => ∀ j, j < i → smallS (b.get j) = true) rfl (fun j hj => absurd hj (Nat.not_lt_zero _)) ?_ ?_
  · intro i hi hg
    have hi' : (i : Int) < 4 := by omega
    have hm : min 4 (16 - i * 4) = 4 := by omega
    refine Wp.seq (Wp.seq ?_)
    refine Wp.rgn (K := 0) (fun n _ => by simp [evalRgn, Option.map_some, evalOps, step, wants, osem, M.run_bind, M.mapL, M.run, M.ok, M.fresh, M.write, M.look, M.lift, putD, Arb.set, ev, Arb.get, keepFr, bin, intBin, strBin, mk, params, cellsM, load, obRead, fadr, fld, isl, iarr, xarr, idx, len, valid, slc, bound, store, splice, nilc, un, eqs, eq0, evalFeet, footOf, M.foot, orderOk, apartAll, apart1, clash, meets, callM, fcallM, callee, fz1, fzC, fz, flat, flat1, flat0, flatI, Option.bind_some, putAll, M.bind, hi']; rfl) ?_
    refine Wp.cond rfl (Wp.skip (Wp.seq (Wp.block (Wp.seq ?_))))
    obtain ⟨K, hK⟩ := p_smallS3 h106 (b.get i)
    refine Wp.rgn (K := K) (s' := ⟨[(1, .ref 1000 0 0 0), (3, .iv (.int .i64 i)), (12, .iv (.bool (!smallS (b.get i))))], [(1000, .cells b.cs)], 1640⟩) (fun n hn => by
      have e1 := hK n hn
      simp only [S.av] at e1
      generalize evalF prog n = g at e1
      simp [evalRgn, Option.map_some, evalOps, step, wants, osem, M.run_bind, M.mapL, M.run, M.ok, M.fresh, M.write, M.look, M.lift, putD, Arb.set, ev, Arb.get, keepFr, bin, intBin, strBin, mk, params, cellsM, load, obRead, fadr, fld, isl, iarr, xarr, idx, len, valid, slc, bound, store, splice, nilc, un, eqs, eq0, evalFeet, footOf, M.foot, orderOk, apartAll, apart1, clash, meets, callM, fcallM, callee, fz1, fzC, fz, flat, flat1, flat0, flatI, Option.bind_some, putAll, M.bind, hi', B.cs_at b hi, B.cs_len, hm, e1]) ?_
    refine Wp.cond rfl ?_
    cases hr : smallS (b.get i) with
    | false =>
      refine Wp.seq ?_
      refine Wp.rgn (K := 0) (fun n _ => by simp [evalRgn, Option.map_some, evalOps, step, wants, osem, M.run_bind, M.mapL, M.run, M.ok, M.fresh, M.write, M.look, M.lift, putD, Arb.set, ev, Arb.get, keepFr, bin, intBin, strBin, mk, params, cellsM, load, obRead, fadr, fld, isl, iarr, xarr, idx, len, valid, slc, bound, store, splice, nilc, un, eqs, eq0, evalFeet, footOf, M.foot, orderOk, apartAll, apart1, clash, meets, callM, fcallM, callee, fz1, fzC, fz, flat, flat1, flat0, flatI, Option.bind_some, putAll, M.bind]; rfl) ?_
      refine Wp.ret ?_
      rw [allB_false hi hr]; rfl
    | true =>
      refine Wp.skip ?_
      refine Wp.rgn (K := 0) (fun n _ => by simp [evalRgn, Option.map_some, evalOps, step, wants, osem, M.run_bind, M.mapL, M.run, M.ok, M.fresh, M.write, M.look, M.lift, putD, Arb.set, ev, Arb.get, keepFr, bin, intBin, strBin, mk, params, cellsM, load, obRead, fadr, fld, isl, iarr, xarr, idx, len, valid, slc, bound, store, splice, nilc, un, eqs, eq0, evalFeet, footOf, M.foot, orderOk, apartAll, apart1, clash, meets, callM, fcallM, callee, fz1, fzC, fz, flat, flat1, flat0, flatI, Option.bind_some, putAll, M.bind]; rfl) ?_
      refine ⟨by simp [again, keepFr, get, nrm_iv, nrm_ref_cells, nrmO, B.cs_nrm, wrap_lt4 hi], fun j hj => ?_⟩
      by_cases hji : j = i
      · rw [hji]; exact hr
      · exact hg j (by omega)
  · intro hg
    refine Wp.seq (Wp.seq ?_)
    refine Wp.rgn (K := 0) (fun n _ => by simp [evalRgn, Option.map_some, evalOps, step, wants, osem, M.run_bind, M.mapL, M.run, M.ok, M.fresh, M.write, M.look, M.lift, putD, Arb.set, ev, Arb.get, keepFr, bin, intBin, strBin, mk, params, cellsM, load, obRead, fadr, fld, isl, iarr, xarr, idx, len, valid, slc, bound, store, splice, nilc, un, eqs, eq0, evalFeet, footOf, M.foot, orderOk, apartAll, apart1, clash, meets, callM, fcallM, callee, fz1, fzC, fz, flat, flat1, flat0, flatI, Option.bind_some, putAll, M.bind]; rfl) ?_
    refine Wp.cond rfl (Wp.exit ?_)
    simp only [Ex.then, Ex.inBlock, if_true]
    refine Wp.seq ?_
    refine Wp.rgn (K := 0) (fun n _ => by simp [evalRgn, Option.map_some, evalOps, step, wants, osem, M.run_bind, M.mapL, M.run, M.ok, M.fresh, M.write, M.look, M.lift, putD, Arb.set, ev, Arb.get, keepFr, bin, intBin, strBin, mk, params, cellsM, load, obRead, fadr, fld, isl, iarr, xarr, idx, len, valid, slc, bound, store, splice, nilc, un, eqs, eq0, evalFeet, footOf, M.foot, orderOk, apartAll, apart1, clash, meets, callM, fcallM, callee, fz1, fzC, fz, flat, flat1, flat0, flatI, Option.bind_some, putAll, M.bind]; rfl) ?_
    refine Wp.ret ?_
    rw [allB_true hg]; rfl

set_option maxHeartbeats 1000000 in
theorem p_emptyB4 (h108 : prog 108 = some F108) (h : prog 103 = some F103) (b : B) (hb : b.ok) : Ans prog 103 [b.av] (.iv (.bool (anyB emptyS b))) := by
  refine Ans.of h rfl rfl (Wp.seq ?_)
  refine Wp.rgn (K := 0) (s' := ⟨[(1, .ref 1000 0 0 0)], [(1000, .cells b.cs)], 1128⟩) (fun n _ => by simp [evalRgn, Option.map_some, evalOps, step, wants, osem, M.run_bind, M.mapL, M.run, M.ok, M.fresh, M.write, M.look, M.lift, putD, Arb.set, ev, Arb.get, keepFr, bin, intBin, strBin, mk, params, cellsM, load, obRead, fadr, fld, isl, iarr, xarr, idx, len, valid, slc, bound, store, splice, nilc, un, eqs, eq0, evalFeet, footOf, M.foot, orderOk, apartAll, apart1, clash, meets, callM, fcallM, callee, fz1, flat, flat1, flat0, flatI, Option.bind_some, putAll, M.bind, B.av, B.cs_nilc]) ?_
  refine Wp.seq (Wp.seq ?_)
  refine Wp.rgn (K := 0) (fun n _ => by simp [evalRgn, Option.map_some, evalOps, step, wants, osem, M.run_bind, M.mapL, M.run, M.ok, M.fresh, M.write, M.look, M.lift, putD, Arb.set, ev, Arb.get, keepFr, bin, intBin, strBin, mk, params, cellsM, load, obRead, fadr, fld, isl, iarr, xarr, idx, len, valid, slc, bound, store, splice, nilc, un, eqs, eq0, evalFeet, footOf, M.foot, orderOk, apartAll, apart1, clash, meets, callM, fcallM, callee, fz1, fzC, fz, flat, flat1, flat0, flatI, Option.bind_some, putAll, M.bind]; rfl) ?_
  refine Wp.block ?_
  refine Wp.range 4 (fun i => ⟨[(1, .ref 1000 0 0 0), (3, .iv (.int .i64 i))], [(1000, .cells b.cs)], 1192⟩) (fun i => ∀ j, j < i → emptyS (b.get j) = false) rfl (fun j hj => absurd hj (Nat.not_lt_zero _)) ?_ ?_
  · intro i hi hg
    have hi' : (i : Int) < 4 := by omega
    have hm : min 4 (16 - i * 4) = 4 := by omega
    refine Wp.seq (Wp.seq ?_)
    refine Wp.rgn (K := 0) (fun n _ => by simp [evalRgn, Option.map_some, evalOps, step, wants, osem, M.run_bind, M.mapL, M.run, M.ok, M.fresh, M.write, M.look, M.lift, putD, Arb.set, ev, Arb.get, keepFr, bin, intBin, strBin, mk, params, cellsM, load, obRead, fadr, fld, isl, iarr, xarr, idx, len, valid, slc, bound, store, splice, nilc, un, eqs, eq0, evalFeet, footOf, M.foot, orderOk, apartAll, apart1, clash, meets, callM, fcallM, callee, fz1, fzC, fz, flat, flat1, flat0, flatI, Option.bind_some, putAll, M.bind, hi']; rfl) ?_
    refine Wp.cond rfl (Wp.skip (Wp.seq (Wp.block (Wp.seq ?_))))
    obtain ⟨K, hK⟩ := p_emptyS3 h108 (b.get i)
    refine Wp.rgn (K := K) (s' := ⟨[(1, .ref 1000 0 0 0), (3, .iv (.int .i64 i)), (11, .iv (.bool (emptyS (b.get i))))], [(1000, .cells b.cs)], 1576⟩) (fun n hn => by
      have e1 := hK n hn
      simp only [S.av] at e1
      generalize evalF prog n = g at e1
      simp [evalRgn, Option.map_some, evalOps, step, wants, osem, M.run_bind, M.mapL, M.run, M.ok, M.fresh, M.write, M.look, M.lift, putD, Arb.set, ev, Arb.get, keepFr, bin, intBin, strBin, mk, params, cellsM, load, obRead, fadr, fld, isl, iarr, xarr, idx, len, valid, slc, bound, store, splice, nilc, un, eqs, eq0, evalFeet, footOf, M.foot, orderOk, apartAll, apart1, clash, meets, callM, fcallM, callee, fz1, fzC, fz, flat, flat1, flat0, flatI, Option.bind_some, putAll, M.bind, hi', B.cs_at b hi, B.cs_len, hm, e1]) ?_
    refine Wp.cond rfl ?_
    cases hr : emptyS (b.get i) with
    | true =>
      refine Wp.seq ?_
      refine Wp.rgn (K := 0) (fun n _ => by simp [evalRgn, Option.map_some, evalOps, step, wants, osem, M.run_bind, M.mapL, M.run, M.ok, M.fresh, M.write, M.look, M.lift, putD, Arb.set, ev, Arb.get, keepFr, bin, intBin, strBin, mk, params, cellsM, load, obRead, fadr, fld, isl, iarr, xarr, idx, len, valid, slc, bound, store, splice, nilc, un, eqs, eq0, evalFeet, footOf, M.foot, orderOk, apartAll, apart1, clash, meets, callM, fcallM, callee, fz1, fzC, fz, flat, flat1, flat0, flatI, Option.bind_some, putAll, M.bind]; rfl) ?_
      refine Wp.ret ?_
      rw [anyB_true hi hr]; rfl
    | false =>
      refine Wp.skip ?_
      refine Wp.rgn (K := 0) (fun n _ => by simp [evalRgn, Option.map_some, evalOps, step, wants, osem, M.run_bind, M.mapL, M.run, M.ok, M.fresh, M.write, M.look, M.lift, putD, Arb.set, ev, Arb.get, keepFr, bin, intBin, strBin, mk, params, cellsM, load, obRead, fadr, fld, isl, iarr, xarr, idx, len, valid, slc, bound, store, splice, nilc, un, eqs, eq0, evalFeet, footOf, M.foot, orderOk, apartAll, apart1, clash, meets, callM, fcallM, callee, fz1, fzC, fz, flat, flat1, flat0, flatI, Option.bind_some, putAll, M.bind]; rfl) ?_
      refine ⟨by simp [again, keepFr, get, nrm_iv, nrm_ref_cells, nrmO, B.cs_nrm, wrap_lt4 hi], fun j hj => ?_⟩
      by_cases hji : j = i
      · rw [hji]; exact hr
      · exact hg j (by omega)
  · intro hg
    refine Wp.seq (Wp.seq ?_)
    refine Wp.rgn (K := 0) (fun n _ => by simp [evalRgn, Option.map_some, evalOps, step, wants, osem, M.run_bind, M.mapL, M.run, M.ok, M.fresh, M.write, M.look, M.lift, putD, Arb.set, ev, Arb.get, keepFr, bin, intBin, strBin, mk, params, cellsM, load, obRead, fadr, fld, isl, iarr, xarr, idx, len, valid, slc, bound, store, splice, nilc, un, eqs, eq0, evalFeet, footOf, M.foot, orderOk, apartAll, apart1, clash, meets, callM, fcallM, callee, fz1, fzC, fz, flat, flat1, flat0, flatI, Option.bind_some, putAll, M.bind]; rfl) ?_
    refine Wp.cond rfl (Wp.exit ?_)
    simp only [Ex.then, Ex.inBlock, if_true]
    refine Wp.seq ?_
    refine Wp.rgn (K := 0) (fun n _ => by simp [evalRgn, Option.map_some, evalOps, step, wants, osem, M.run_bind, M.mapL, M.run, M.ok, M.fresh, M.write, M.look, M.lift, putD, Arb.set, ev, Arb.get, keepFr, bin, intBin, strBin, mk, params, cellsM, load, obRead, fadr, fld, isl, iarr, xarr, idx, len, valid, slc, bound, store, splice, nilc, un, eqs, eq0, evalFeet, footOf, M.foot, orderOk, apartAll, apart1, clash, meets, callM, fcallM, callee, fz1, fzC, fz, flat, flat1, flat0, flatI, Option.bind_some, putAll, M.bind]; rfl) ?_
    refine Wp.ret ?_
    rw [anyB_false hg]; rfl

end
end Arb

/-
  THE DOCUMENT'S RIGHT FILTERS: of one box, or of none.
-/
set_option linter.unusedSimpArgs false
namespace Arb
open Go

structure Right6 (prog : Nat → Option IFn) : Prop where
  h98 : prog 98 = some F98
  h99 : prog 99 = some F99
  h100 : prog 100 = some F100
  h101 : prog 101 = some F101
  h103 : prog 103 = some F103
  h105 : prog 105 = some F105
  h106 : prog 106 = some F106
  h108 : prog 108 = some F108

def tidyN (z : B) : List B := if anyB emptyS z then [] else [z]

section
variable {prog : Nat → Option IFn}

set_option maxHeartbeats 4000000 in
theorem p_tidyN (R : Right6 prog) (z : B) (hz : z.ok) : Ans prog 99 [filt [z]] (filt (tidyN z)) := by
  obtain ⟨K1, hK1⟩ := p_emptyB4 R.h108 R.h103 z hz
  refine Ans.of R.h99 rfl rfl (Wp.seq ?_)
  refine Wp.rgn (K := 0) (fun n _ => by simp [evalRgn, Option.map_some, evalOps, step, wants, osem, M.run_bind, M.mapL, M.run, M.ok, M.fresh, M.write, M.look, M.lift, putD, Arb.set, ev, Arb.get, keepFr, bin, intBin, strBin, mk, params, cellsM, load, obRead, fadr, fld, isl, iarr, xarr, idx, len, valid, slc, bound, store, splice, nilc, un, eqs, eq0, evalFeet, footOf, M.foot, orderOk, apartAll, apart1, clash, meets, callM, fcallM, callee, fz1, fzC, fz, flat, flat1, flat0, flatI, Option.bind_some, putAll, M.bind]; rfl) ?_
  refine Wp.seq ?_
  refine Wp.rgn (K := 0) (fun n _ => by simp [evalRgn, Option.map_some, evalOps, step, wants, osem, M.run_bind, M.mapL, M.run, M.ok, M.fresh, M.write, M.look, M.lift, putD, Arb.set, ev, Arb.get, keepFr, bin, intBin, strBin, mk, params, cellsM, load, obRead, fadr, fld, isl, iarr, xarr, idx, len, valid, slc, bound, store, splice, nilc, un, eqs, eq0, evalFeet, footOf, M.foot, orderOk, apartAll, apart1, clash, meets, callM, fcallM, callee, fz1, fzC, fz, flat, flat1, flat0, flatI, Option.bind_some, putAll, M.bind]; rfl) ?_
  refine Wp.seq (Wp.seq ?_)
  refine Wp.rgn (K := 0) (fun n _ => by simp [evalRgn, Option.map_some, evalOps, step, wants, osem, M.run_bind, M.mapL, M.run, M.ok, M.fresh, M.write, M.look, M.lift, putD, Arb.set, ev, Arb.get, keepFr, bin, intBin, strBin, mk, params, cellsM, load, obRead, fadr, fld, isl, iarr, xarr, idx, len, valid, slc, bound, store, splice, nilc, un, eqs, eq0, evalFeet, footOf, M.foot, orderOk, apartAll, apart1, clash, meets, callM, fcallM, callee, fz1, fzC, fz, flat, flat1, flat0, flatI, Option.bind_some, putAll, M.bind]; rfl) ?_
  refine Wp.block ?_
  refine Wp.range 1 (fun i => ⟨[(0, filt [z]), (3, .own 1064 0 (if i = 0 then 0 else (tidyN z).length) 0), (4, .iv (.int .i64 i))], [(1000, .buf 0 16 []), (1064, .buf 0 16 (if i = 0 then [] else (tidyN z).map B.enc))], 1192⟩) (fun _ => True) rfl trivial ?_ ?_
  · intro i hi _
    obtain rfl : i = 0 := by omega
    refine Wp.seq (Wp.seq ?_)
    refine Wp.rgn (K := 0) (fun n _ => by simp [evalRgn, Option.map_some, evalOps, step, wants, osem, M.run_bind, M.mapL, M.run, M.ok, M.fresh, M.write, M.look, M.lift, putD, Arb.set, ev, Arb.get, keepFr, bin, intBin, strBin, mk, params, cellsM, load, obRead, fadr, fld, isl, iarr, xarr, idx, len, valid, slc, bound, store, splice, nilc, un, eqs, eq0, evalFeet, footOf, M.foot, orderOk, apartAll, apart1, clash, meets, callM, fcallM, callee, fz1, fzC, fz, flat, flat1, flat0, flatI, Option.bind_some, putAll, M.bind, filt]; rfl) ?_
    refine Wp.cond rfl (Wp.skip (Wp.seq (Wp.block (Wp.seq ?_))))
    refine Wp.rgn (K := K1) (s' := ⟨[(0, filt [z]), (3, .own 1064 0 0 0), (4, .iv (.int .i64 0)), (5, .iv (.bool (!anyB emptyS z)))], [(1000, .buf 0 16 []), (1064, .buf 0 16 [])], 1896⟩) (fun n hn => by
      have e1 := hK1 n hn
      simp only [B.av] at e1
      generalize evalF prog n = g at e1
      simp [evalRgn, Option.map_some, evalOps, step, wants, osem, M.run_bind, M.mapL, M.run, M.ok, M.fresh, M.write, M.look, M.lift, putD, Arb.set, ev, Arb.get, keepFr, bin, intBin, strBin, mk, params, cellsM, load, obRead, fadr, fld, isl, iarr, xarr, idx, len, valid, slc, bound, store, splice, nilc, un, eqs, eq0, evalFeet, footOf, M.foot, orderOk, apartAll, apart1, clash, meets, callM, fcallM, callee, fz1, flat, flat1, flat0, flatI, Option.bind_some, putAll, M.bind, filt, B.enc_len, B.enc_take, B.enc_cs, B.cs_fzC, e1]) ?_
    refine Wp.seq (Wp.seq ?_)
    refine Wp.rgn (K := 0) (fun n _ => by simp [evalRgn, Option.map_some, evalOps, step, wants, osem, M.run_bind, M.mapL, M.run, M.ok, M.fresh, M.write, M.look, M.lift, putD, Arb.set, ev, Arb.get, keepFr, bin, intBin, strBin, mk, params, cellsM, load, obRead, fadr, fld, isl, iarr, xarr, idx, len, valid, slc, bound, store, splice, nilc, un, eqs, eq0, evalFeet, footOf, M.foot, orderOk, apartAll, apart1, clash, meets, callM, fcallM, callee, fz1, fzC, fz, flat, flat1, flat0, flatI, Option.bind_some, putAll, M.bind]; rfl) ?_
    refine Wp.block ?_
    refine Wp.range 1 (fun k => ⟨[(0, filt [z]), (3, .own 1064 0 0 0), (4, .iv (.int .i64 0)), (5, .iv (.bool (!anyB emptyS z))), (6, .iv (.int .i64 k))], [(1000, .buf 0 16 []), (1064, .buf 0 16 [])], 1960⟩) (fun _ => True) rfl trivial ?_ ?_
    · intro k hk _
      obtain rfl : k = 0 := by omega
      refine Wp.seq (Wp.seq ?_)
      refine Wp.rgn (K := 0) (fun n _ => by simp [evalRgn, Option.map_some, evalOps, step, wants, osem, M.run_bind, M.mapL, M.run, M.ok, M.fresh, M.write, M.look, M.lift, putD, Arb.set, ev, Arb.get, keepFr, bin, intBin, strBin, mk, params, cellsM, load, obRead, fadr, fld, isl, iarr, xarr, idx, len, valid, slc, bound, store, splice, nilc, un, eqs, eq0, evalFeet, footOf, M.foot, orderOk, apartAll, apart1, clash, meets, callM, fcallM, callee, fz1, fzC, fz, flat, flat1, flat0, flatI, Option.bind_some, putAll, M.bind, filt]; rfl) ?_
      refine Wp.cond rfl (Wp.skip (Wp.seq (Wp.block (Wp.seq ?_))))
      refine Wp.rgn (K := 0) (s' := ⟨[(0, filt [z]), (3, .own 1064 0 0 0), (4, .iv (.int .i64 0)), (5, .iv (.bool (!anyB emptyS z))), (6, .iv (.int .i64 0)), (58, .iv (.bool false))], [(1000, .buf 0 16 []), (1064, .buf 0 16 [])], 4392⟩) (fun n _ => rgn_quiet' rfl (by simp [evalRgn, Option.map_some, evalOps, step, wants, osem, M.run_bind, M.mapL, M.run, M.ok, M.fresh, M.write, M.look, M.lift, putD, Arb.set, ev, Arb.get, keepFr, bin, intBin, strBin, mk, params, cellsM, load, obRead, fadr, fld, isl, iarr, xarr, idx, len, valid, slc, bound, store, splice, nilc, un, eqs, eq0, evalFeet, footOf, M.foot, orderOk, apartAll, apart1, clash, meets, callM, fcallM, callee, fz1, fzC, fz, flat, flat1, flat0, flatI, Option.bind_some, putAll, M.bind, filt])) ?_
      refine Wp.cond rfl (Wp.skip ?_)
      simp only [Ex.then, Ex.inBlock]
      refine Wp.rgn (K := 0) (fun n _ => by simp [evalRgn, Option.map_some, evalOps, step, wants, osem, M.run_bind, M.mapL, M.run, M.ok, M.fresh, M.write, M.look, M.lift, putD, Arb.set, ev, Arb.get, keepFr, bin, intBin, strBin, mk, params, cellsM, load, obRead, fadr, fld, isl, iarr, xarr, idx, len, valid, slc, bound, store, splice, nilc, un, eqs, eq0, evalFeet, footOf, M.foot, orderOk, apartAll, apart1, clash, meets, callM, fcallM, callee, fz1, fzC, fz, flat, flat1, flat0, flatI, Option.bind_some, putAll, M.bind]; rfl) ?_
      exact ⟨rfl, trivial⟩
    · intro _
      refine Wp.seq (Wp.seq ?_)
      refine Wp.rgn (K := 0) (fun n _ => by simp [evalRgn, Option.map_some, evalOps, step, wants, osem, M.run_bind, M.mapL, M.run, M.ok, M.fresh, M.write, M.look, M.lift, putD, Arb.set, ev, Arb.get, keepFr, bin, intBin, strBin, mk, params, cellsM, load, obRead, fadr, fld, isl, iarr, xarr, idx, len, valid, slc, bound, store, splice, nilc, un, eqs, eq0, evalFeet, footOf, M.foot, orderOk, apartAll, apart1, clash, meets, callM, fcallM, callee, fz1, fzC, fz, flat, flat1, flat0, flatI, Option.bind_some, putAll, M.bind, filt]; rfl) ?_
      refine Wp.cond rfl (Wp.exit ?_)
      simp only [Ex.then, Ex.inBlock, if_true]
      refine Wp.seq ?_
      refine Wp.rgn (K := 0) (fun n _ => by simp [evalRgn, Option.map_some, evalOps, step, wants, osem, M.run_bind, M.mapL, M.run, M.ok, M.fresh, M.write, M.look, M.lift, putD, Arb.set, ev, Arb.get, keepFr, bin, intBin, strBin, mk, params, cellsM, load, obRead, fadr, fld, isl, iarr, xarr, idx, len, valid, slc, bound, store, splice, nilc, un, eqs, eq0, evalFeet, footOf, M.foot, orderOk, apartAll, apart1, clash, meets, callM, fcallM, callee, fz1, fzC, fz, flat, flat1, flat0, flatI, Option.bind_some, putAll, M.bind]; rfl) ?_
      refine Wp.cond rfl ?_
      have hw : tidyN z = if !anyB emptyS z then [z] else [] := by unfold tidyN; cases anyB emptyS z <;> rfl
      cases he : anyB emptyS z with
      | true =>
        refine Wp.skip ?_
        simp only [Ex.then, Ex.inBlock]
        refine Wp.rgn (K := 0) (fun n _ => by simp [evalRgn, Option.map_some, evalOps, step, wants, osem, M.run_bind, M.mapL, M.run, M.ok, M.fresh, M.write, M.look, M.lift, putD, Arb.set, ev, Arb.get, keepFr, bin, intBin, strBin, mk, params, cellsM, load, obRead, fadr, fld, isl, iarr, xarr, idx, len, valid, slc, bound, store, splice, nilc, un, eqs, eq0, evalFeet, footOf, M.foot, orderOk, apartAll, apart1, clash, meets, callM, fcallM, callee, fz1, fzC, fz, flat, flat1, flat0, flatI, Option.bind_some, putAll, M.bind]; rfl) ?_
        rw [hw, he]
        exact ⟨rfl, trivial⟩
      | false =>
        refine Wp.rgn (K := 0) (fun n _ => by simp [evalRgn, Option.map_some, evalOps, step, wants, osem, M.run_bind, M.mapL, M.run, M.ok, M.fresh, M.write, M.look, M.lift, putD, Arb.set, ev, Arb.get, keepFr, bin, intBin, strBin, mk, params, cellsM, load, obRead, fadr, fld, isl, iarr, xarr, idx, len, valid, slc, bound, store, splice, nilc, un, eqs, eq0, evalFeet, footOf, M.foot, orderOk, apartAll, apart1, clash, meets, callM, fcallM, callee, fz1, flat, flat1, flat0, flatI, Option.bind_some, putAll, M.bind, filt, B.enc_len, B.enc_take, B.enc_cs, B.cs_fzC, B.cs_fz, B.cs_len, setAll, app, elems, roomy]; rfl) ?_
        simp only [Ex.then, Ex.inBlock]
        refine Wp.rgn (K := 0) (fun n _ => by simp [evalRgn, Option.map_some, evalOps, step, wants, osem, M.run_bind, M.mapL, M.run, M.ok, M.fresh, M.write, M.look, M.lift, putD, Arb.set, ev, Arb.get, keepFr, bin, intBin, strBin, mk, params, cellsM, load, obRead, fadr, fld, isl, iarr, xarr, idx, len, valid, slc, bound, store, splice, nilc, un, eqs, eq0, evalFeet, footOf, M.foot, orderOk, apartAll, apart1, clash, meets, callM, fcallM, callee, fz1, fzC, fz, flat, flat1, flat0, flatI, Option.bind_some, putAll, M.bind]; rfl) ?_
        rw [hw, he]
        exact ⟨rfl, trivial⟩
  · intro _
    refine Wp.seq (Wp.seq ?_)
    refine Wp.rgn (K := 0) (fun n _ => by simp [evalRgn, Option.map_some, evalOps, step, wants, osem, M.run_bind, M.mapL, M.run, M.ok, M.fresh, M.write, M.look, M.lift, putD, Arb.set, ev, Arb.get, keepFr, bin, intBin, strBin, mk, params, cellsM, load, obRead, fadr, fld, isl, iarr, xarr, idx, len, valid, slc, bound, store, splice, nilc, un, eqs, eq0, evalFeet, footOf, M.foot, orderOk, apartAll, apart1, clash, meets, callM, fcallM, callee, fz1, fzC, fz, flat, flat1, flat0, flatI, Option.bind_some, putAll, M.bind, filt]; rfl) ?_
    refine Wp.cond rfl (Wp.exit ?_)
    simp only [Ex.then, Ex.inBlock, if_true]
    refine Wp.seq ?_
    refine Wp.rgn (K := 0) (fun n _ => by simp [evalRgn, Option.map_some, evalOps, step, wants, osem, M.run_bind, M.mapL, M.run, M.ok, M.fresh, M.write, M.look, M.lift, putD, Arb.set, ev, Arb.get, keepFr, bin, intBin, strBin, mk, params, cellsM, load, obRead, fadr, fld, isl, iarr, xarr, idx, len, valid, slc, bound, store, splice, nilc, un, eqs, eq0, evalFeet, footOf, M.foot, orderOk, apartAll, apart1, clash, meets, callM, fcallM, callee, fz1, fzC, fz, flat, flat1, flat0, flatI, Option.bind_some, putAll, M.bind]; rfl) ?_
    refine Wp.ret ?_
    simp [FinS, F99, resAll, resM, outA, ev, get, M.look, M.bind, M.run, M.run_bind, M.ok, shut, fzA, fz1, fzC, fz, M.write, M.lift, filt, take_map_len]

/-- of one box -/
theorem p_rightN (R : Right6 prog) (z : B) (hz : z.ok) : Ans prog 98 [filt [z]] (.iv (.bool (right1 z))) := by
  obtain ⟨K1, hK1⟩ := p_rightB4 R.h105 R.h100 z hz
  obtain ⟨K2, hK2⟩ := p_smallB4 R.h106 R.h101 z hz
  obtain ⟨K3, hK3⟩ := p_tidyN R z hz
  refine Ans.of R.h98 rfl rfl (Wp.seq ?_)
  refine Wp.rgn (K := 0) (fun n _ => by simp [evalRgn, Option.map_some, evalOps, step, wants, osem, M.run_bind, M.mapL, M.run, M.ok, M.fresh, M.write, M.look, M.lift, putD, Arb.set, ev, Arb.get, keepFr, bin, intBin, strBin, mk, params, cellsM, load, obRead, fadr, fld, isl, iarr, xarr, idx, len, valid, slc, bound, store, splice, nilc, un, eqs, eq0, evalFeet, footOf, M.foot, orderOk, apartAll, apart1, clash, meets, callM, fcallM, callee, fz1, fzC, fz, flat, flat1, flat0, flatI, Option.bind_some, putAll, M.bind]; rfl) ?_
  refine Wp.seq (Wp.seq ?_)
  refine Wp.rgn (K := 0) (fun n _ => by simp [evalRgn, Option.map_some, evalOps, step, wants, osem, M.run_bind, M.mapL, M.run, M.ok, M.fresh, M.write, M.look, M.lift, putD, Arb.set, ev, Arb.get, keepFr, bin, intBin, strBin, mk, params, cellsM, load, obRead, fadr, fld, isl, iarr, xarr, idx, len, valid, slc, bound, store, splice, nilc, un, eqs, eq0, evalFeet, footOf, M.foot, orderOk, apartAll, apart1, clash, meets, callM, fcallM, callee, fz1, fzC, fz, flat, flat1, flat0, flatI, Option.bind_some, putAll, M.bind]; rfl) ?_
  refine Wp.block ?_
  refine Wp.range 1 (fun i => ⟨[(0, filt [z]), (3, .iv (.int .i64 i))], [], 1128⟩) (fun i => 0 < i → (allB rightS z && allB smallS z) = true) rfl (fun h => absurd h (Nat.lt_irrefl _)) ?_ ?_
  · intro i hi _
    obtain rfl : i = 0 := by omega
    refine Wp.seq (Wp.seq ?_)
    refine Wp.rgn (K := 0) (fun n _ => by simp [evalRgn, Option.map_some, evalOps, step, wants, osem, M.run_bind, M.mapL, M.run, M.ok, M.fresh, M.write, M.look, M.lift, putD, Arb.set, ev, Arb.get, keepFr, bin, intBin, strBin, mk, params, cellsM, load, obRead, fadr, fld, isl, iarr, xarr, idx, len, valid, slc, bound, store, splice, nilc, un, eqs, eq0, evalFeet, footOf, M.foot, orderOk, apartAll, apart1, clash, meets, callM, fcallM, callee, fz1, fzC, fz, flat, flat1, flat0, flatI, Option.bind_some, putAll, M.bind, filt]; rfl) ?_
    refine Wp.cond rfl (Wp.skip (Wp.seq (Wp.block (Wp.seq ?_))))
    refine Wp.rgn (K := max K1 K2) (s' := ⟨[(0, filt [z]), (3, .iv (.int .i64 0)), (23, .iv (.bool (!(allB rightS z && allB smallS z))))], [], 2280⟩) (fun n hn => by
      have e1 := hK1 n (by omega)
      have e2 := hK2 n (by omega)
      simp only [B.av] at e1 e2
      generalize evalF prog n = g at e1 e2
      cases h1 : allB rightS z <;> rw [h1] at e1 <;> simp [evalRgn, Option.map_some, evalOps, step, wants, osem, M.run_bind, M.mapL, M.run, M.ok, M.fresh, M.write, M.look, M.lift, putD, Arb.set, ev, Arb.get, keepFr, bin, intBin, strBin, mk, params, cellsM, load, obRead, fadr, fld, isl, iarr, xarr, idx, len, valid, slc, bound, store, splice, nilc, un, eqs, eq0, evalFeet, footOf, M.foot, orderOk, apartAll, apart1, clash, meets, callM, fcallM, callee, fz1, flat, flat1, flat0, flatI, Option.bind_some, putAll, M.bind, filt, B.enc_len, B.enc_take, B.enc_cs, B.cs_fzC, e1, e2]) ?_
    refine Wp.cond rfl ?_
    cases hr : allB rightS z && allB smallS z with
    | false =>
      refine Wp.seq ?_
      refine Wp.rgn (K := 0) (fun n _ => by simp [evalRgn, Option.map_some, evalOps, step, wants, osem, M.run_bind, M.mapL, M.run, M.ok, M.fresh, M.write, M.look, M.lift, putD, Arb.set, ev, Arb.get, keepFr, bin, intBin, strBin, mk, params, cellsM, load, obRead, fadr, fld, isl, iarr, xarr, idx, len, valid, slc, bound, store, splice, nilc, un, eqs, eq0, evalFeet, footOf, M.foot, orderOk, apartAll, apart1, clash, meets, callM, fcallM, callee, fz1, fzC, fz, flat, flat1, flat0, flatI, Option.bind_some, putAll, M.bind]; rfl) ?_
      refine Wp.ret ?_
      have : right1 z = false := by
        unfold right1
        cases h1 : allB rightS z with
        | false => rfl
        | true => rw [h1, Bool.true_and] at hr; rw [hr]; rfl
      rw [this]; rfl
    | true =>
      refine Wp.skip ?_
      refine Wp.rgn (K := 0) (fun n _ => by simp [evalRgn, Option.map_some, evalOps, step, wants, osem, M.run_bind, M.mapL, M.run, M.ok, M.fresh, M.write, M.look, M.lift, putD, Arb.set, ev, Arb.get, keepFr, bin, intBin, strBin, mk, params, cellsM, load, obRead, fadr, fld, isl, iarr, xarr, idx, len, valid, slc, bound, store, splice, nilc, un, eqs, eq0, evalFeet, footOf, M.foot, orderOk, apartAll, apart1, clash, meets, callM, fcallM, callee, fz1, fzC, fz, flat, flat1, flat0, flatI, Option.bind_some, putAll, M.bind]; rfl) ?_
      exact ⟨rfl, fun _ => rfl⟩
  · intro hg
    have hg := hg (by omega)
    refine Wp.seq (Wp.seq ?_)
    refine Wp.rgn (K := 0) (fun n _ => by simp [evalRgn, Option.map_some, evalOps, step, wants, osem, M.run_bind, M.mapL, M.run, M.ok, M.fresh, M.write, M.look, M.lift, putD, Arb.set, ev, Arb.get, keepFr, bin, intBin, strBin, mk, params, cellsM, load, obRead, fadr, fld, isl, iarr, xarr, idx, len, valid, slc, bound, store, splice, nilc, un, eqs, eq0, evalFeet, footOf, M.foot, orderOk, apartAll, apart1, clash, meets, callM, fcallM, callee, fz1, fzC, fz, flat, flat1, flat0, flatI, Option.bind_some, putAll, M.bind, filt]; rfl) ?_
    refine Wp.cond rfl (Wp.exit ?_)
    simp only [Ex.then, Ex.inBlock, if_true]
    refine Wp.seq ?_
    have hr : right1 z = !anyB emptyS z := by
      simp only [Bool.and_eq_true] at hg
      unfold right1; rw [hg.1, hg.2]; rfl
    rw [hr]
    refine Wp.rgn (K := K3) (s' := ⟨[(2, .iv (.bool (!anyB emptyS z)))], [], 2152⟩) (fun n hn => by
      have e1 := hK3 n hn
      simp only [filt] at e1
      generalize evalF prog n = g at e1
      unfold tidyN at e1
      cases he : anyB emptyS z <;> rw [he] at e1 <;> simp at e1 <;> simp [evalRgn, Option.map_some, evalOps, step, wants, osem, M.run_bind, M.mapL, M.run, M.ok, M.fresh, M.write, M.look, M.lift, putD, Arb.set, ev, Arb.get, keepFr, bin, intBin, strBin, mk, params, cellsM, load, obRead, fadr, fld, isl, iarr, xarr, idx, len, valid, slc, bound, store, splice, nilc, un, eqs, eq0, evalFeet, footOf, M.foot, orderOk, apartAll, apart1, clash, meets, callM, fcallM, callee, fz1, fzC, fz, flat, flat1, flat0, flatI, Option.bind_some, putAll, M.bind, filt, e1]) ?_
    exact Wp.ret rfl
end
end Arb

/-
  A PERFECT MERGER HAS JUST THE EVENTS OF BOTH, A HULL THOSE OF BOTH; BOTH ARE RIGHT.
-/
set_option linter.unusedSimpArgs false
namespace Arb
open Go

theorem emptyS_iff {x : S} : emptyS x = true ↔ x.a = false ∧ x.i = [] ∧ x.c = false ∧ x.s = [] := by
  simp [emptyS]
theorem allB_iff {f : S → Bool} {b : B} : allB f b = true ↔ ∀ i, i < 4 → f (b.get i) = true := by
  constructor
  · intro h i hi
    simp only [allB, Bool.and_eq_true] at h
    match i, hi with
    | 0, _ => exact h.1
    | 1, _ => exact h.2.1
    | 2, _ => exact h.2.2.1
    | 3, _ => exact h.2.2.2
  · exact allB_true
theorem anyB_iff {f : S → Bool} {b : B} : anyB f b = false ↔ ∀ i, i < 4 → f (b.get i) = false := by
  constructor
  · intro h i hi
    simp only [anyB, Bool.or_eq_false_iff] at h
    match i, hi with
    | 0, _ => exact h.1
    | 1, _ => exact h.2.1
    | 2, _ => exact h.2.2.1
    | 3, _ => exact h.2.2.2
  · exact anyB_false
theorem right1_iff {b : B} (h : ∀ i, i < 4 → in64s (b.get i).i) : right1 b = true ↔ ∀ i, i < 4 → (b.get i).fine ∧ smallS (b.get i) = true ∧ emptyS (b.get i) = false := by
  unfold right1
  simp only [Bool.and_eq_true, Bool.not_eq_true', allB_iff, anyB_iff]
  constructor
  · rintro ⟨h1, h2, h3⟩ i hi
    exact ⟨(rightS_iff (h i hi)).1 (h1 i hi), h2 i hi, h3 i hi⟩
  · intro k
    exact ⟨fun i hi => (rightS_iff (h i hi)).2 (k i hi).1, fun i hi => (k i hi).2.1, fun i hi => (k i hi).2.2⟩
theorem put_right {x : B} {s : S} {i : Nat} (hi : i < 4) (hx : x.ok) (h : right1 x = true) (hs : s.fine) (h64 : in64s s.i) (hsm : smallS s = true) (he : emptyS s = false) : right1 (x.put i s) = true := by
  have hk := (right1_iff fun j hj => (hx.at hj).ri).1 h
  refine (right1_iff fun j hj => ?_).2 fun j hj => ?_
  · rw [put_get x s hi hj]; split
    · exact h64
    · exact (hx.at hj).ri
  · rw [put_get x s hi hj]; split
    · exact ⟨hs, hsm, he⟩
    · exact hk j hj

theorem or_nonempty {x y : S} (hx : x.fine) (h : emptyS x = false) (hin : ∀ n, inR (orS x y).i n ↔ inR x.i n ∨ inR y.i n) : emptyS (orS x y) = false := by
  refine Bool.eq_false_iff.2 fun he => ?_
  obtain ⟨e1, e2, e3, e4⟩ := emptyS_iff.1 he
  have e1 : (x.a || y.a) = false := e1
  have e3 : (x.c || y.c) = false := e3
  rw [Bool.or_eq_false_iff] at e1 e3
  refine Bool.eq_false_iff.1 h (emptyS_iff.2 ⟨e1.1, ?_, e3.1, ?_⟩)
  · cases hxi : x.i with
    | nil => rfl
    | cons p r =>
      have hp := hx.i.1 p (by rw [hxi]; simp)
      have := (hin p.1).2 (.inl ⟨p, by rw [hxi]; simp, Int.le_refl _, hp⟩)
      rw [e2] at this
      exact (inR_nil this).elim
  · cases hxs : x.s with
    | nil => rfl
    | cons t r =>
      have h1 := or_str x y t
      have h2 : hasStr x t = true := by unfold hasStr; rw [e3.1, hasT_iff.2 (by rw [hxs]; simp)]; rfl
      rw [h2, Bool.true_or] at h1
      unfold hasStr at h1
      rw [e4, show (orS x y).c = false from (Bool.or_eq_false_iff.2 e3), show hasT [] t = false from rfl] at h1
      exact absurd h1 (by decide)

theorem hasB_eq (b : B) (e : E) : hasB b e = (rightE e && (hasV b.s0 e.v0 && (hasV b.s1 e.v1 && (hasV b.s2 e.v2 && hasV b.s3 e.v3)))) := by
  unfold hasB
  simp only [hasTo, B.get, E.get]
  cases rightE e <;> cases hasV b.s0 e.v0 <;> cases hasV b.s1 e.v1 <;> cases hasV b.s2 e.v2 <;> cases hasV b.s3 e.v3 <;> rfl
theorem put_has {x y : B} {s : S} {i : Nat} (hi : i < 4) (hs : ∀ j, j < 4 → j ≠ i → y.get j = x.get j) (h : ∀ v, hasV s v = (hasV (x.get i) v || hasV (y.get i) v)) (e : E) : hasB (x.put i s) e = (hasB x e || hasB y e) := by
  rw [hasB_eq, hasB_eq, hasB_eq]
  have s0 := hs 0 (by omega)
  have s1 := hs 1 (by omega)
  have s2 := hs 2 (by omega)
  have s3 := hs 3 (by omega)
  match i, hi with
  | 0, _ =>
    have s1 := s1 (by omega); have s2 := s2 (by omega); have s3 := s3 (by omega)
    simp only [B.get, B.put] at *
    rw [s1, s2, s3, h]
    cases rightE e <;> cases hasV x.s0 e.v0 <;> cases hasV y.s0 e.v0 <;> cases hasV x.s1 e.v1 <;> cases hasV x.s2 e.v2 <;> cases hasV x.s3 e.v3 <;> rfl
  | 1, _ =>
    have s0 := s0 (by omega); have s2 := s2 (by omega); have s3 := s3 (by omega)
    simp only [B.get, B.put] at *
    rw [s0, s2, s3, h]
    cases rightE e <;> cases hasV x.s0 e.v0 <;> cases hasV y.s1 e.v1 <;> cases hasV x.s1 e.v1 <;> cases hasV x.s2 e.v2 <;> cases hasV x.s3 e.v3 <;> rfl
  | 2, _ =>
    have s0 := s0 (by omega); have s1 := s1 (by omega); have s3 := s3 (by omega)
    simp only [B.get, B.put] at *
    rw [s0, s1, s3, h]
    cases rightE e <;> cases hasV x.s0 e.v0 <;> cases hasV y.s2 e.v2 <;> cases hasV x.s1 e.v1 <;> cases hasV x.s2 e.v2 <;> cases hasV x.s3 e.v3 <;> rfl
  | 3, _ =>
    have s0 := s0 (by omega); have s1 := s1 (by omega); have s2 := s2 (by omega)
    simp only [B.get, B.put] at *
    rw [s0, s1, s2, h]
    cases rightE e <;> cases hasV x.s0 e.v0 <;> cases hasV y.s3 e.v3 <;> cases hasV x.s1 e.v1 <;> cases hasV x.s2 e.v2 <;> cases hasV x.s3 e.v3 <;> rfl
theorem put_has_le {x y : B} {s : S} {i : Nat} (hi : i < 4) (hs : ∀ j, j < 4 → j ≠ i → y.get j = x.get j) (h : ∀ v, (hasV (x.get i) v || hasV (y.get i) v) = true → hasV s v = true) (e : E) : (hasB x e || hasB y e) = true → hasB (x.put i s) e = true := by
  rw [hasB_eq, hasB_eq, hasB_eq]
  have h := h (e.get i)
  have s0 := hs 0 (by omega)
  have s1 := hs 1 (by omega)
  have s2 := hs 2 (by omega)
  have s3 := hs 3 (by omega)
  match i, hi with
  | 0, _ =>
    have s1 := s1 (by omega); have s2 := s2 (by omega); have s3 := s3 (by omega)
    simp only [B.get, B.put, E.get] at *
    rw [s1, s2, s3]
    revert h
    cases rightE e <;> cases hasV s e.v0 <;> cases hasV x.s0 e.v0 <;> cases hasV y.s0 e.v0 <;> cases hasV x.s1 e.v1 <;> cases hasV x.s2 e.v2 <;> cases hasV x.s3 e.v3 <;> decide
  | 1, _ =>
    have s0 := s0 (by omega); have s2 := s2 (by omega); have s3 := s3 (by omega)
    simp only [B.get, B.put, E.get] at *
    rw [s0, s2, s3]
    revert h
    cases rightE e <;> cases hasV s e.v1 <;> cases hasV x.s0 e.v0 <;> cases hasV y.s1 e.v1 <;> cases hasV x.s1 e.v1 <;> cases hasV x.s2 e.v2 <;> cases hasV x.s3 e.v3 <;> decide
  | 2, _ =>
    have s0 := s0 (by omega); have s1 := s1 (by omega); have s3 := s3 (by omega)
    simp only [B.get, B.put, E.get] at *
    rw [s0, s1, s3]
    revert h
    cases rightE e <;> cases hasV s e.v2 <;> cases hasV x.s0 e.v0 <;> cases hasV y.s2 e.v2 <;> cases hasV x.s1 e.v1 <;> cases hasV x.s2 e.v2 <;> cases hasV x.s3 e.v3 <;> decide
  | 3, _ =>
    have s0 := s0 (by omega); have s1 := s1 (by omega); have s2 := s2 (by omega)
    simp only [B.get, B.put, E.get] at *
    rw [s0, s1, s2]
    revert h
    cases rightE e <;> cases hasV s e.v3 <;> cases hasV x.s0 e.v0 <;> cases hasV y.s3 e.v3 <;> cases hasV x.s1 e.v1 <;> cases hasV x.s2 e.v2 <;> cases hasV x.s3 e.v3 <;> decide

theorem perf_law {a b : List B} (ha : ∀ x ∈ a, x.ok) (hb : ∀ x ∈ b, x.ok) (h : (perfF a b).2 = true) : ∃ z, (perfF a b).1 = [z] ∧ z.ok ∧ right1 z = true ∧ ∀ e, hasF [z] e = (hasF a e || hasF b e) := by
  obtain ⟨x, y, i, hs, hsm, -, he⟩ := perfF_some h
  obtain ⟨rfl, rfl, h1, h2, hi, -, -, hsame⟩ := sole_some hs
  have kx := ha x (by simp)
  have ky := hb y (by simp)
  have fx := right1_fine kx h1 hi
  have fy := right1_fine ky h2 hi
  obtain ⟨fz, z64, zin⟩ := or_fine fx fy (kx.at hi).ri (ky.at hi).ri
  have ne := ((right1_iff fun j hj => (kx.at hj).ri).1 h1 i hi).2.2
  refine ⟨x.put i (orS (x.get i) (y.get i)), by rw [he], put_ok hi kx (fine_ok fz z64 hsm), put_right hi kx h1 fz z64 hsm (or_nonempty fx ne zin), fun e => ?_⟩
  simp only [hasF, List.any_cons, List.any_nil, Bool.or_false]
  exact put_has hi (fun j hj hne => (sameS_iff.1 (hsame j hj hne)).symm) (fun v => or_hasV _ _ v zin) e
theorem hull_law {a b : List B} (ha : ∀ x ∈ a, x.ok) (hb : ∀ x ∈ b, x.ok) (h : (hullF a b).2.2 = true) : ∃ z, (hullF a b).1 = [z] ∧ z.ok ∧ right1 z = true ∧ ∀ e, (hasF a e || hasF b e) = true → hasF [z] e = true := by
  obtain ⟨x, y, i, p, q, H⟩ := hullF_some h
  obtain ⟨rfl, rfl, h1, h2, hi, -, -, hsame⟩ := sole_some H.sole
  have kx := ha x (by simp)
  have ky := hb y (by simp)
  have fx := right1_fine kx h1 hi
  have fy := right1_fine ky h2 hi
  obtain ⟨b1, b2, b3⟩ := between_true H.ok
  have hp64 : in64 p.1 ∧ in64 q.2 := by
    rcases H.at' with ⟨e1, e2⟩ | ⟨e1, e2⟩
    · exact ⟨((kx.at hi).ri p (by rw [e1]; simp)).1, ((ky.at hi).ri q (by rw [e2]; simp)).2⟩
    · exact ⟨((ky.at hi).ri p (by rw [e2]; simp)).1, ((kx.at hi).ri q (by rw [e1]; simp)).2⟩
  have hxs := ((right1_iff fun j hj => (kx.at hj).ri).1 h1 i hi).2.1
  have fz : S.fine ⟨(x.get i).a, [(p.1, q.2)], (x.get i).c, (x.get i).s⟩ := ⟨⟨fun r hr => by simp at hr; subst hr; simp only; omega, by simp⟩, fx.s, fx.len⟩
  have z64 : in64s [(p.1, q.2)] := fun r hr => by simp at hr; subst hr; exact hp64
  have zsm : smallS ⟨(x.get i).a, [(p.1, q.2)], (x.get i).c, (x.get i).s⟩ = true := by
    simp only [smallS, Bool.and_eq_true, decide_eq_true_eq] at hxs ⊢
    exact ⟨by simp, hxs.2⟩
  refine ⟨_, by rw [H.eq], put_ok hi kx (fine_ok fz z64 zsm), put_right hi kx h1 fz z64 zsm (by simp [emptyS]), fun e he => ?_⟩
  simp only [hasF, List.any_cons, List.any_nil, Bool.or_false] at he ⊢
  refine put_has_le hi (fun j hj hne => (sameS_iff.1 (hsame j hj hne)).symm) (fun v hv => ?_) e he
  have hI : ∀ n, (hasI (x.get i).i n || hasI (y.get i).i n) = true → hasI [(p.1, q.2)] n = true := by
    intro n hn
    rw [Bool.or_eq_true, hasI_iff, hasI_iff] at hn
    rw [hasI_iff]
    refine ⟨(p.1, q.2), by simp, ?_⟩
    have hpq : (p.1 ≤ n ∧ n ≤ p.2) ∨ (q.1 ≤ n ∧ n ≤ q.2) := by
      rcases H.at' with ⟨e1, e2⟩ | ⟨e1, e2⟩ <;> rw [e1, e2] at hn <;> simp only [inR, List.mem_singleton, exists_eq_left] at hn
      · exact hn
      · exact hn.symm
    simp only; omega
  unfold hasV at hv ⊢
  rw [← H.ea, ← H.ec, ← H.es] at hv
  split at hv
  · simp at hv
  · rename_i hr
    rw [if_neg hr]
    split at hv
    · rename_i hk; rw [if_pos hk]; simpa using hv
    · rename_i hk
      rw [if_neg hk]
      split at hv
      · rename_i hk1; rw [if_pos hk1]; exact hI _ hv
      · rename_i hk1; rw [if_neg hk1]; simpa using hv
end Arb

/-
  MergePerfect: THE WALK.
-/
set_option linter.unusedSimpArgs false
namespace Arb
open Go

section
variable {prog : Nat → Option IFn}

set_option maxHeartbeats 8000000 in
theorem p_perfectLaw (H : Lib7 prog) (H3 : Has3 prog) (h34 : prog 34 = some F34) (h20 : prog 20 = some F20) (h8 : prog 8 = some F8) (R : Right6 prog) (hA : Ans prog 4 [] (.iv (.bool true))) (h90 : prog 90 = some F90) (a b : List B) (e : E) (la : a.length ≤ maxLen) (lb : b.length ≤ maxLen) (ha : ∀ x ∈ a, x.ok) (hb : ∀ x ∈ b, x.ok) :
    ∃ p : AV × Hp, p.1 = .iv (.bool true) ∧ Ev prog 90 [filt a, filt b, e.av] [] p := by
  obtain ⟨KA, hKA⟩ := hA
  obtain ⟨K1, hK1⟩ := p_few6 H.h27 H.h14 H.h5 a la
  obtain ⟨K2, hK2⟩ := p_few6 H.h27 H.h14 H.h5 b lb
  obtain ⟨K3, hK3⟩ := p_hasF H3 h34 h20 h8 a e la (fun x h => (ha x h).fits)
  obtain ⟨K4, hK4⟩ := p_hasF H3 h34 h20 h8 b e lb (fun x h => (hb x h).fits)
  obtain ⟨K5, hK5⟩ := p_perfect H.toLib4 a b (fun x h => (ha x h).fits) (fun x h => (hb x h).fits)
  obtain ⟨K6, hK6⟩ := p_hull H.toLib5 a b (fun x h => (ha x h).fits) (fun x h => (hb x h).fits)
  obtain ⟨lf, hf⟩ := perfF_fits (a := a) (b := b) (fun x h => (ha x h).fits)
  obtain ⟨lg, hg⟩ := hullF_fits (a := a) (b := b) (fun x h => (ha x h).fits)
  have F : (perfF a b).2 = true → Ans prog 98 [filt (perfF a b).1] (.iv (.bool true)) ∧ hasF (perfF a b).1 e = (hasF a e || hasF b e) := by
    intro h
    obtain ⟨z, e1, hz, hr, hh⟩ := perf_law ha hb h
    rw [e1]
    exact ⟨hr ▸ p_rightN R z hz, hh e⟩
  have G : (hullF a b).2.2 = true → Ans prog 98 [filt (hullF a b).1] (.iv (.bool true)) ∧ ((hasF a e || hasF b e) = true → hasF (hullF a b).1 e = true) := by
    intro h
    obtain ⟨z, e1, hz, hr, hh⟩ := hull_law ha hb h
    rw [e1]
    exact ⟨hr ▸ p_rightN R z hz, hh e⟩
  generalize perfF a b = f at hK5 lf hf F
  generalize hullF a b = g at hK6 lg hg G
  obtain ⟨K7, hK7⟩ := p_hasF H3 h34 h20 h8 f.1 e lf hf
  obtain ⟨K8, hK8⟩ := p_hasF H3 h34 h20 h8 g.1 e lg hg
  generalize hasF a e = pa at hK3 F G
  generalize hasF b e = pb at hK4 F G
  generalize hasF f.1 e = pf at hK7 F
  generalize hasF g.1 e = pg at hK8 G
  refine Ev.ofx h90 rfl rfl _ (Wp.seq ?_)
  refine Wp.rgn (K := 0) (s' := ⟨[(0, filt a), (1, filt b), (5, .ref 1000 0 0 0)], [(1000, .cells e.cs)], 1128⟩) (fun n _ => by simp [evalRgn, Option.map_some, evalOps, step, wants, osem, M.run_bind, M.mapL, M.run, M.ok, M.fresh, M.write, M.look, M.lift, putD, Arb.set, ev, Arb.get, keepFr, bin, intBin, strBin, mk, params, cellsM, load, obRead, fadr, fld, isl, iarr, xarr, idx, len, valid, slc, bound, store, splice, nilc, un, eqs, eq0, evalFeet, footOf, M.foot, orderOk, apartAll, apart1, clash, meets, callM, fcallM, callee, fz1, flat, flat1, flat0, flatI, Option.bind_some, putAll, M.bind, E.av, E.cs_nilc]) ?_
  refine Wp.seq (Wp.seq ?_)
  refine Wp.rgn (K := max KA (max K1 K2)) (s' := ⟨[(0, filt a), (1, filt b), (5, .ref 1000 0 0 0), (24, .iv (.bool (!few a || !few b)))], [(1000, .cells e.cs)], 1896⟩) (fun n hn => by
    have e0 := hKA n (by omega)
    have e1 := hK1 n (by omega)
    have e2 := hK2 n (by omega)
    simp only [filt] at e1 e2
    generalize evalF prog n = g at e0 e1 e2
    cases h1 : few a <;> rw [h1] at e1 <;> simp [evalRgn, Option.map_some, evalOps, step, wants, osem, M.run_bind, M.mapL, M.run, M.ok, M.fresh, M.write, M.look, M.lift, putD, Arb.set, ev, Arb.get, keepFr, bin, intBin, strBin, mk, params, cellsM, load, obRead, fadr, fld, isl, iarr, xarr, idx, len, valid, slc, bound, store, splice, nilc, un, eqs, eq0, evalFeet, footOf, M.foot, orderOk, apartAll, apart1, clash, meets, callM, fcallM, callee, fz1, fzC, fz, flat, flat1, flat0, flatI, Option.bind_some, putAll, M.bind, filt, e0, e1, e2]) ?_
  refine Wp.cond rfl ?_
  cases hc : !few a || !few b with
  | true =>
    refine Wp.seq ?_
    refine Wp.rgn (K := KA) (s' := ⟨[(6, .iv (.bool true))], [(1000, .cells e.cs)], 2024⟩) (fun n hn => by
      have e0 := hKA n hn
      generalize evalF prog n = g at e0
      simp [evalRgn, Option.map_some, evalOps, step, wants, osem, M.run_bind, M.mapL, M.run, M.ok, M.fresh, M.write, M.look, M.lift, putD, Arb.set, ev, Arb.get, keepFr, bin, intBin, strBin, mk, params, cellsM, load, obRead, fadr, fld, isl, iarr, xarr, idx, len, valid, slc, bound, store, splice, nilc, un, eqs, eq0, evalFeet, footOf, M.foot, orderOk, apartAll, apart1, clash, meets, callM, fcallM, callee, fz1, fzC, fz, flat, flat1, flat0, flatI, Option.bind_some, putAll, M.bind, e0]) ?_
    exact Wp.ret ⟨(.iv (.bool true), [(1000, .cells e.cs)]), rfl, rfl⟩
  | false =>
    refine Wp.skip (Wp.seq ?_)
    refine Wp.rgn (K := max K3 K4) (s' := ⟨[(0, filt a), (1, filt b), (5, .ref 1000 0 0 0), (7, .iv (.bool (pa || pb)))], [(1000, .cells e.cs)], 2472⟩) (fun n hn => by
      have e0 := hK3 n (by omega)
      have e1 := hK4 n (by omega)
      simp only [filt, E.av] at e0 e1
      generalize evalF prog n = g at e0 e1
      cases pa <;> simp [evalRgn, Option.map_some, evalOps, step, wants, osem, M.run_bind, M.mapL, M.run, M.ok, M.fresh, M.write, M.look, M.lift, putD, Arb.set, ev, Arb.get, keepFr, bin, intBin, strBin, mk, params, cellsM, load, obRead, fadr, fld, isl, iarr, xarr, idx, len, valid, slc, bound, store, splice, nilc, un, eqs, eq0, evalFeet, footOf, M.foot, orderOk, apartAll, apart1, clash, meets, callM, fcallM, callee, fz1, flat, flat1, flat0, flatI, Option.bind_some, putAll, M.bind, fzC_sl, filt, e0, e1, E.cs_12, E.cs_len, E.cs_fzC]) ?_
    refine Wp.seq ?_
    refine Wp.rgn (K := K5) (s' := ⟨[(0, filt a), (1, filt b), (5, .ref 1000 0 0 0), (7, .iv (.bool (pa || pb))), (8, filt f.1), (9, .iv (.bool f.2))], [(1000, .cells e.cs)], 2984⟩) (fun n hn => by
      have e0 := hK5 n hn
      simp only [filt] at e0
      generalize evalF prog n = g at e0
      simp [evalRgn, Option.map_some, evalOps, step, wants, osem, M.run_bind, M.mapL, M.run, M.ok, M.fresh, M.write, M.look, M.lift, putD, Arb.set, ev, Arb.get, keepFr, bin, intBin, strBin, mk, params, cellsM, load, obRead, fadr, fld, isl, iarr, xarr, idx, len, valid, slc, bound, store, splice, nilc, un, eqs, eq0, evalFeet, footOf, M.foot, orderOk, apartAll, apart1, clash, meets, callM, fcallM, callee, fz1, fzC, fz, flat, flat1, flat0, flatI, Option.bind_some, putAll, M.bind, filt, e0]) ?_
    refine Wp.seq ?_
    refine Wp.rgn (K := K6) (s' := ⟨[(5, .ref 1000 0 0 0), (7, .iv (.bool (pa || pb))), (8, filt f.1), (9, .iv (.bool f.2)), (10, filt g.1), (12, .iv (.bool g.2.2))], [(1000, .cells e.cs)], 3624⟩) (fun n hn => by
      have e0 := hK6 n hn
      simp only [filt] at e0
      generalize evalF prog n = g at e0
      simp [evalRgn, Option.map_some, evalOps, step, wants, osem, M.run_bind, M.mapL, M.run, M.ok, M.fresh, M.write, M.look, M.lift, putD, Arb.set, ev, Arb.get, keepFr, bin, intBin, strBin, mk, params, cellsM, load, obRead, fadr, fld, isl, iarr, xarr, idx, len, valid, slc, bound, store, splice, nilc, un, eqs, eq0, evalFeet, footOf, M.foot, orderOk, apartAll, apart1, clash, meets, callM, fcallM, callee, fz1, fzC, fz, flat, flat1, flat0, flatI, Option.bind_some, putAll, M.bind, filt, e0]) ?_
    refine Wp.seq ?_
    generalize (pa || pb) = ei at F G
    obtain ⟨K9, F⟩ : ∃ K9, f.2 = true → (∀ n, K9 ≤ n → (evalF prog n 98 [filt f.1] []).bind shut = some (.iv (.bool true))) ∧ pf = ei := by
      cases hf2 : f.2 with
      | false => exact ⟨0, fun h => by cases h⟩
      | true => obtain ⟨⟨K, h1⟩, h2⟩ := F hf2; exact ⟨K, fun _ => ⟨h1, h2⟩⟩
    obtain ⟨K10, G⟩ : ∃ K10, g.2.2 = true → (∀ n, K10 ≤ n → (evalF prog n 98 [filt g.1] []).bind shut = some (.iv (.bool true))) ∧ (ei = true → pg = true) := by
      cases hg2 : g.2.2 with
      | false => exact ⟨0, fun h => by cases h⟩
      | true => obtain ⟨⟨K, h1⟩, h2⟩ := G hg2; exact ⟨K, fun _ => ⟨h1, h2⟩⟩
    refine Wp.rgn (K := max (max K7 K8) (max K9 K10)) (s' := ⟨[(6, .iv (.bool true))], [(1000, .cells e.cs)], 5608⟩) (fun n hn => by
      have e0 := hK7 n (by omega)
      have e1 := hK8 n (by omega)
      have e2 : f.2 = true → _ := fun h => (F h).1 n (by omega)
      have e3 : g.2.2 = true → _ := fun h => (G h).1 n (by omega)
      have e4 : f.2 = true → _ := fun h => (F h).2
      have e5 : g.2.2 = true → _ := fun h => (G h).2
      simp only [filt, E.av] at e0 e1 e2 e3
      generalize evalF prog n = gg at e0 e1 e2 e3
      have part : ∀ v : Bool, True := fun _ => trivial
      cases h1 : f.2 with
      | false =>
        cases h2 : g.2.2 with
        | false => simp [evalRgn, Option.map_some, evalOps, step, wants, osem, M.run_bind, M.mapL, M.run, M.ok, M.fresh, M.write, M.look, M.lift, putD, Arb.set, ev, Arb.get, keepFr, bin, intBin, strBin, mk, params, cellsM, load, obRead, fadr, fld, isl, iarr, xarr, idx, len, valid, slc, bound, store, splice, nilc, un, eqs, eq0, evalFeet, footOf, M.foot, orderOk, apartAll, apart1, clash, meets, callM, fcallM, callee, fz1, flat, flat1, flat0, flatI, Option.bind_some, putAll, M.bind, fzC_sl, filt, E.cs_12, E.cs_len, E.cs_fzC, h1, h2]
        | true =>
          have e3 := e3 h2
          have e5 := e5 h2
          cases pg with
          | true => simp [evalRgn, Option.map_some, evalOps, step, wants, osem, M.run_bind, M.mapL, M.run, M.ok, M.fresh, M.write, M.look, M.lift, putD, Arb.set, ev, Arb.get, keepFr, bin, intBin, strBin, mk, params, cellsM, load, obRead, fadr, fld, isl, iarr, xarr, idx, len, valid, slc, bound, store, splice, nilc, un, eqs, eq0, evalFeet, footOf, M.foot, orderOk, apartAll, apart1, clash, meets, callM, fcallM, callee, fz1, flat, flat1, flat0, flatI, Option.bind_some, putAll, M.bind, fzC_sl, filt, e1, e3, E.cs_12, E.cs_len, E.cs_fzC, h1, h2]
          | false =>
            obtain rfl : ei = false := by cases ei with | false => rfl | true => exact absurd (e5 rfl) (by decide)
            simp [evalRgn, Option.map_some, evalOps, step, wants, osem, M.run_bind, M.mapL, M.run, M.ok, M.fresh, M.write, M.look, M.lift, putD, Arb.set, ev, Arb.get, keepFr, bin, intBin, strBin, mk, params, cellsM, load, obRead, fadr, fld, isl, iarr, xarr, idx, len, valid, slc, bound, store, splice, nilc, un, eqs, eq0, evalFeet, footOf, M.foot, orderOk, apartAll, apart1, clash, meets, callM, fcallM, callee, fz1, flat, flat1, flat0, flatI, Option.bind_some, putAll, M.bind, fzC_sl, filt, e1, e3, E.cs_12, E.cs_len, E.cs_fzC, h1, h2]
      | true =>
        have e2 := e2 h1
        obtain rfl := e4 h1
        cases h2 : g.2.2 with
        | false => simp [evalRgn, Option.map_some, evalOps, step, wants, osem, M.run_bind, M.mapL, M.run, M.ok, M.fresh, M.write, M.look, M.lift, putD, Arb.set, ev, Arb.get, keepFr, bin, intBin, strBin, mk, params, cellsM, load, obRead, fadr, fld, isl, iarr, xarr, idx, len, valid, slc, bound, store, splice, nilc, un, eqs, eq0, evalFeet, footOf, M.foot, orderOk, apartAll, apart1, clash, meets, callM, fcallM, callee, fz1, flat, flat1, flat0, flatI, Option.bind_some, putAll, M.bind, fzC_sl, filt, e0, e2, E.cs_12, E.cs_len, E.cs_fzC, h1, h2]
        | true =>
          have e3 := e3 h2
          have e5 := e5 h2
          cases pg with
          | true => simp [evalRgn, Option.map_some, evalOps, step, wants, osem, M.run_bind, M.mapL, M.run, M.ok, M.fresh, M.write, M.look, M.lift, putD, Arb.set, ev, Arb.get, keepFr, bin, intBin, strBin, mk, params, cellsM, load, obRead, fadr, fld, isl, iarr, xarr, idx, len, valid, slc, bound, store, splice, nilc, un, eqs, eq0, evalFeet, footOf, M.foot, orderOk, apartAll, apart1, clash, meets, callM, fcallM, callee, fz1, flat, flat1, flat0, flatI, Option.bind_some, putAll, M.bind, fzC_sl, filt, e0, e1, e2, e3, E.cs_12, E.cs_len, E.cs_fzC, h1, h2]
          | false =>
            obtain rfl : pf = false := by cases pf with | false => rfl | true => exact absurd (e5 rfl) (by decide)
            simp [evalRgn, Option.map_some, evalOps, step, wants, osem, M.run_bind, M.mapL, M.run, M.ok, M.fresh, M.write, M.look, M.lift, putD, Arb.set, ev, Arb.get, keepFr, bin, intBin, strBin, mk, params, cellsM, load, obRead, fadr, fld, isl, iarr, xarr, idx, len, valid, slc, bound, store, splice, nilc, un, eqs, eq0, evalFeet, footOf, M.foot, orderOk, apartAll, apart1, clash, meets, callM, fcallM, callee, fz1, flat, flat1, flat0, flatI, Option.bind_some, putAll, M.bind, fzC_sl, filt, e0, e1, e2, e3, E.cs_12, E.cs_len, E.cs_fzC, h1, h2]) ?_
    exact Wp.ret ⟨(.iv (.bool true), [(1000, .cells e.cs)]), rfl, rfl⟩
end
end Arb

/-
  A LAW: what the abstract machine answers, the program does; and it writes nothing that was there.
-/
namespace Arb
open Go Go.RowKit

section
variable {ν : Nat → Nat} {P : Program}

def start (W : World) : Gh := ⟨Old W, fun _ => none, W, []⟩

theorem law_calls (hmix : P.follows .mixedOrders = true) {prog : Nat → Option IFn} (tie : Tie P ν prog) {f : Nat} {W : World} {cargs : Array Value} {xs : List AV} (hR : RL ν (start W) cargs.toList xs) {n : Nat} {r : IV} {hp' : Hp}
    (he : evalF prog n f xs [] = some (.iv r, hp')) (hf : flatI r = true) : Calls P (ν f) cargs W fun e w' => ∃ v, e = .returned v ∧ RI ν (fun _ => False) W v r ∧ Below W.heap.size W w' := by
  obtain ⟨_, hok⟩ := sound hmix tie n f xs [] _ hp' he
  refine (hok ⟨W, Old W, fun _ => False⟩ (start W) cargs rfl rfl rfl (rel_none (g := start W) (J := Old W) fun b h => h) hR).mono ?_
  rintro e w' ⟨v, g', rfl, rfl, -, r', -, hv⟩
  refine ⟨v, rfl, ?_, ⟨r'.os, r'.tape, r'.output, r'.size, fun b hb => r'.old b hb fun h => h⟩⟩
  cases hv with
  | iv h => exact flatI_any hf h

theorem law_true (hmix : P.follows .mixedOrders = true) {prog : Nat → Option IFn} (tie : Tie P ν prog) {f : Nat} {W : World} {cargs : Array Value} {xs : List AV} (hR : RL ν (start W) cargs.toList xs)
    (he : ∃ n hp', evalF prog n f xs [] = some (.iv (.bool true), hp')) : Calls P (ν f) cargs W fun e w' => e = .returned (.bool true) ∧ Below W.heap.size W w' := by
  obtain ⟨n, hp', he⟩ := he
  refine (law_calls hmix tie hR he rfl).mono ?_
  rintro e w' ⟨v, rfl, hv, hb⟩
  cases hv with
  | bool => exact ⟨rfl, hb⟩

def TieAt (P : Program) (ν : Nat → Nat) (f : Nat) (ir : IFn) : Prop := ∃ fn c, P.funcs[ν f]? = some fn ∧ fn.body = some c ∧ (fn.name == "runtime.NumGoroutine") = false ∧ cFn P ν fn c ir = true
theorem tie_nil : Tie P ν (get []) := fun f ir h => by simp [get] at h
theorem tie_cons {f : Nat} {ir : IFn} {L : List (Nat × IFn)} (h : TieAt P ν f ir) (hL : Tie P ν (get L)) : Tie P ν (get ((f, ir) :: L)) := by
  intro f' ir' hg
  simp only [get] at hg
  split at hg
  · rename_i h0
    subst h0
    simp only [Option.some.injEq] at hg
    subst hg
    exact h
  · exact hL f' ir' hg
def oneB (P : Program) (ν : Nat → Nat) (fn : Func) (ir : IFn) : Bool := (match fn.body with | some c => cFn P ν fn c ir | none => false) && !(fn.name == "runtime.NumGoroutine")
theorem tie_at {f k : Nat} {ir : IFn} {fn : Func} (hk : P.funcs[k]? = some fn) (hν : ν f = k) (h : oneB P ν fn ir = true) : TieAt P ν f ir := by
  simp only [oneB, Bool.and_eq_true, Bool.not_eq_true'] at h
  obtain ⟨h1, h2⟩ := h
  split at h1
  · rename_i c hc
    exact ⟨fn, c, by rw [hν]; exact hk, hc, h2, h1⟩
  · cases h1
end
end Arb
