/-
  RANGES IN THEIR NORMAL FORM.
-/
import Derived.Test.YtiggikalagohaaaGreatArbA
import Derived.Test.YtiggikalagohaaaGreatArbB
import Derived.Test.YtiggikalagohaaaGreatArbC
import Derived.Test.YtiggikalagohaaaGreatArbD
set_option linter.unusedSimpArgs false
namespace Arb
open Go

def joinB (o : List (Int × Int)) (r : Int × Int) : Bool :=
  match o[o.length - 1]? with
  | some p => p.2 == 9223372036854775807 || decide (r.1 ≤ IntKind.wrap .i64 (p.2 + 1))
  | none => false
def hiR (o : List (Int × Int)) (r : Int × Int) : List (Int × Int) :=
  match o[o.length - 1]? with
  | some p => o.set (o.length - 1) (p.1, if r.2 > p.2 then r.2 else p.2)
  | none => o
/-- one more range, to the right of all -/
def addR (o : List (Int × Int)) (r : Int × Int) : List (Int × Int) :=
  if decide (r.2 < r.1) then o else if joinB o r then hiR o r else o ++ [r]
def normR (l : List (Int × Int)) : List (Int × Int) := (isort ltR l).foldl addR []

theorem isort_len {α : Type} (lt : α → α → Bool) (l : List α) : (isort lt l).length = l.length := sinks_len lt l _
theorem addR_len (o : List (Int × Int)) (r : Int × Int) : (addR o r).length ≤ o.length + 1 := by
  unfold addR hiR
  split
  · omega
  · split
    · split <;> simp
    · simp
theorem foldR_len : ∀ (l o : List (Int × Int)), (l.foldl addR o).length ≤ o.length + l.length
  | [], _ => Nat.le_refl _
  | r :: l, o => by
    have := foldR_len l (addR o r)
    have := addR_len o r
    simp only [List.foldl_cons, List.length_cons]; omega

theorem take_map_len {α β : Type} (f : α → β) (l : List α) : (l.map f).take l.length = l.map f := List.take_of_length_le (by simp)

section
variable {prog : Nat → Option IFn}

set_option maxHeartbeats 4000000 in
theorem p_ranges (H : Lib2 prog) (h38 : prog 38 = some F38) (h : prog 37 = some F37) (l : List (Int × Int)) (hl : l.length ≤ 12) : Ans prog 37 [.iv (.sl 2 (l.map rng))] (.iv (.sl 2 ((normR l).map rng))) := by
  obtain ⟨K, hK⟩ := p_sortR H l hl
  refine Ans.of h rfl rfl (Wp.seq ?_)
  refine Wp.rgn (K := 0) (fun n _ => by simp [evalRgn, Option.map_some, evalOps, step, wants, osem, M.run_bind, M.mapL, M.run, M.ok, M.fresh, M.write, M.look, M.lift, putD, Arb.set, ev, Arb.get, keepFr, bin, intBin, strBin, mk, params, cellsM, load, obRead, fadr, fld, isl, iarr, xarr, idx, len, valid, slc, bound, store, splice, nilc, un, eqs, eq0, evalFeet, footOf, M.foot, orderOk, apartAll, apart1, clash, meets, callM, fcallM, callee, fz1, fzC, fz, flat, flat1, flat0, flatI, Option.bind_some, putAll, M.bind]; rfl) ?_
  refine Wp.seq ?_
  refine Wp.rgn (K := 1) (s' := ⟨[(0, .own 1128 0 l.length 0), (2, .own 1000 0 0 0)], [(1000, .buf 0 2 []), (1128, .buf 0 2 (l.map rng))], 1256⟩) (fun n hn => by
    obtain ⟨n, rfl⟩ : ∃ n', n = n' + 1 := ⟨n - 1, by omega⟩
    have hr : l.length ≤ 1073741824 := by omega
    simp [evalRgn, Option.map_some, evalOps, step, wants, osem, M.run_bind, M.mapL, M.run, M.ok, M.fresh, M.write, M.look, M.lift, putD, Arb.set, ev, Arb.get, keepFr, bin, intBin, strBin, mk, params, cellsM, load, obRead, fadr, fld, isl, iarr, xarr, idx, len, valid, slc, bound, store, splice, nilc, un, eqs, eq0, evalFeet, footOf, M.foot, orderOk, apartAll, apart1, clash, meets, callM, fcallM, callee, fz1, fzC, fz, flat, flat1, flat0, flatI, Option.bind_some, putAll, M.bind, ocallM, takeR, evalF, h38, F38, cloneM, roomy, hr]) ?_
  refine Wp.seq ?_
  refine Wp.rgn (K := K) (s' := ⟨[(0, .own 1128 0 l.length 0), (2, .own 1000 0 0 0)], [(1000, .buf 0 2 []), (1128, .buf 0 2 ((isort ltR l).map rng))], 1384⟩) (fun n hn => by simp [evalRgn, Option.map_some, evalOps, step, wants, osem, M.run_bind, M.mapL, M.run, M.ok, M.fresh, M.write, M.look, M.lift, putD, Arb.set, ev, Arb.get, keepFr, bin, intBin, strBin, mk, params, cellsM, load, obRead, fadr, fld, isl, iarr, xarr, idx, len, valid, slc, bound, store, splice, nilc, un, eqs, eq0, evalFeet, footOf, M.foot, orderOk, apartAll, apart1, clash, meets, callM, fcallM, callee, fz1, fzC, fz, flat, flat1, flat0, flatI, Option.bind_some, putAll, M.bind, lcallM, callee, idsOf, List.flatMap, dedup, nodupB, lendA, place, lentOk, withPlaces, lentR, backAll, hK n hn]) ?_
  generalize hq : isort ltR l = q
  have hql : q.length = l.length := by rw [← hq, isort_len]
  refine Wp.seq (Wp.seq ?_)
  refine Wp.rgn (K := 0) (fun n _ => by simp [evalRgn, Option.map_some, evalOps, step, wants, osem, M.run_bind, M.mapL, M.run, M.ok, M.fresh, M.write, M.look, M.lift, putD, Arb.set, ev, Arb.get, keepFr, bin, intBin, strBin, mk, params, cellsM, load, obRead, fadr, fld, isl, iarr, xarr, idx, len, valid, slc, bound, store, splice, nilc, un, eqs, eq0, evalFeet, footOf, M.foot, orderOk, apartAll, apart1, clash, meets, callM, fcallM, callee, fz1, fzC, fz, flat, flat1, flat0, flatI, Option.bind_some, putAll, M.bind]; rfl) ?_
  refine Wp.block ?_
  refine Wp.range l.length (fun i => ⟨[(2, .own 1000 0 ((q.take i).foldl addR []).length 0), (10, .own 1128 0 l.length 0), (11, .iv (.int .i64 l.length)), (12, .iv (.int .i64 i))], [(1000, .buf 0 2 (((q.take i).foldl addR []).map rng)), (1128, .buf 0 2 (q.map rng))], 1576⟩) (fun _ => True) (by simp [keepFr, get]) trivial ?_ ?_
  · intro i hi _
    obtain ⟨r, hr⟩ : ∃ r, q[i]? = some r := ⟨_, List.getElem?_eq_getElem (by omega)⟩
    have hnext : (q.take (i + 1)).foldl addR [] = addR ((q.take i).foldl addR []) r := by rw [List.take_add_one, hr]; simp
    have hlen : ((q.take i).foldl addR []).length ≤ 12 := by have := foldR_len (q.take i) []; simp at this; omega
    rw [hnext]
    generalize (q.take i).foldl addR [] = o at hlen
    have hi1 : (i : Int) < l.length := by omega
    have hr' : q[i]'(by omega) = r := (List.getElem?_eq_some_iff.1 hr).2
    have hw1 : IntKind.wrap .i64 ((i : Int) + 1) = (i : Int) + 1 := IntWalk.i64_in _ (by omega)
    refine Wp.seq ?_
    refine Wp.rgn (K := 0) (s' := ⟨[(2, .own 1000 0 o.length 0), (10, .own 1128 0 l.length 0), (11, .iv (.int .i64 l.length)), (12, .iv (.int .i64 i)), (13, .iv (.bool true))], [(1000, .buf 0 2 (o.map rng)), (1128, .buf 0 2 (q.map rng))], 1640⟩) (fun n _ => by simp [evalRgn, Option.map_some, evalOps, step, wants, osem, M.run_bind, M.mapL, M.run, M.ok, M.fresh, M.write, M.look, M.lift, putD, Arb.set, ev, Arb.get, keepFr, bin, intBin, strBin, mk, params, cellsM, load, obRead, fadr, fld, isl, iarr, xarr, idx, len, valid, slc, bound, store, splice, nilc, un, eqs, eq0, evalFeet, footOf, M.foot, orderOk, apartAll, apart1, clash, meets, callM, fcallM, callee, fz1, fzC, fz, flat, flat1, flat0, flatI, Option.bind_some, putAll, M.bind, hi]) ?_
    refine Wp.seq (Wp.cond rfl (Wp.skip (Wp.seq (Wp.block (Wp.seq ?_)))))
    refine Wp.rgn (K := 0) (s' := ⟨[(2, .own 1000 0 o.length 0), (4, .ref 1768 0 0 0), (10, .own 1128 0 l.length 0), (11, .iv (.int .i64 l.length)), (12, .iv (.int .i64 i))], [(1000, .buf 0 2 (o.map rng)), (1128, .buf 0 2 (q.map rng)), (1768, .cells [.iv (.int .i64 r.1), .iv (.int .i64 r.2)])], 1896⟩) (fun n _ => by simp [evalRgn, Option.map_some, evalOps, step, wants, osem, M.run_bind, M.mapL, M.run, M.ok, M.fresh, M.write, M.look, M.lift, putD, Arb.set, ev, Arb.get, keepFr, bin, intBin, strBin, mk, params, cellsM, load, obRead, fadr, fld, isl, iarr, xarr, idx, len, valid, slc, bound, store, splice, nilc, un, eqs, eq0, evalFeet, footOf, M.foot, orderOk, apartAll, apart1, clash, meets, callM, fcallM, callee, fz1, fzC, fz, flat, flat1, flat0, flatI, Option.bind_some, putAll, M.bind, hi, hr, rng]) ?_
    refine Wp.seq (Wp.seq ?_)
    refine Wp.rgn (K := 0) (fun n _ => by simp [evalRgn, Option.map_some, evalOps, step, wants, osem, M.run_bind, M.mapL, M.run, M.ok, M.fresh, M.write, M.look, M.lift, putD, Arb.set, ev, Arb.get, keepFr, bin, intBin, strBin, mk, params, cellsM, load, obRead, fadr, fld, isl, iarr, xarr, idx, len, valid, slc, bound, store, splice, nilc, un, eqs, eq0, evalFeet, footOf, M.foot, orderOk, apartAll, apart1, clash, meets, callM, fcallM, callee, fz1, fzC, fz, flat, flat1, flat0, flatI, Option.bind_some, putAll, M.bind]; rfl) ?_
    refine Wp.cond rfl ?_
    unfold addR
    cases hd : decide (r.2 < r.1) with
    | true =>
      refine Wp.exit ?_
      simp only [Ex.then, Ex.inBlock, if_true]
      refine Wp.rgn (K := 0) (fun n _ => by simp [evalRgn, Option.map_some, evalOps, step, wants, osem, M.run_bind, M.mapL, M.run, M.ok, M.fresh, M.write, M.look, M.lift, putD, Arb.set, ev, Arb.get, keepFr, bin, intBin, strBin, mk, params, cellsM, load, obRead, fadr, fld, isl, iarr, xarr, idx, len, valid, slc, bound, store, splice, nilc, un, eqs, eq0, evalFeet, footOf, M.foot, orderOk, apartAll, apart1, clash, meets, callM, fcallM, callee, fz1, fzC, fz, flat, flat1, flat0, flatI, Option.bind_some, putAll, M.bind]; rfl) ?_
      exact ⟨by simp [again, keepFr, get, nrm, nrmO, hw1], trivial⟩
    | false =>
      refine Wp.skip (Wp.seq ?_)
      refine Wp.rgn (K := 0) (fun n _ => by simp [evalRgn, Option.map_some, evalOps, step, wants, osem, M.run_bind, M.mapL, M.run, M.ok, M.fresh, M.write, M.look, M.lift, putD, Arb.set, ev, Arb.get, keepFr, bin, intBin, strBin, mk, params, cellsM, load, obRead, fadr, fld, isl, iarr, xarr, idx, len, valid, slc, bound, store, splice, nilc, un, eqs, eq0, evalFeet, footOf, M.foot, orderOk, apartAll, apart1, clash, meets, callM, fcallM, callee, fz1, fzC, fz, flat, flat1, flat0, flatI, Option.bind_some, putAll, M.bind]; rfl) ?_
      refine Wp.seq (Wp.seq ?_)
      refine Wp.rgn (K := 0) (s' := ⟨[(2, .own 1000 0 o.length 0), (4, .ref 1768 0 0 0), (5, .iv (.int .i64 o.length)), (10, .own 1128 0 l.length 0), (11, .iv (.int .i64 l.length)), (12, .iv (.int .i64 i)), (45, .iv (.bool (joinB o r)))], [(1000, .buf 0 2 (o.map rng)), (1128, .buf 0 2 (q.map rng)), (1768, .cells [.iv (.int .i64 r.1), .iv (.int .i64 r.2)])], 3880⟩) (fun n _ => rgn_quiet' rfl (by
        by_cases h0 : o.length = 0
        · obtain rfl : o = [] := List.eq_nil_of_length_eq_zero h0
          simp [evalRgn, Option.map_some, evalOps, step, wants, osem, M.run_bind, M.mapL, M.run, M.ok, M.fresh, M.write, M.look, M.lift, putD, Arb.set, ev, Arb.get, keepFr, bin, intBin, strBin, mk, params, cellsM, load, obRead, fadr, fld, isl, iarr, xarr, idx, len, valid, slc, bound, store, splice, nilc, un, eqs, eq0, evalFeet, footOf, M.foot, orderOk, apartAll, apart1, clash, meets, callM, fcallM, callee, fz1, fzC, fz, flat, flat1, flat0, flatI, Option.bind_some, putAll, M.bind, joinB]
        · have hm1 : (0 : Int) < o.length := by omega
          have hm2 : IntKind.wrap .i64 ((o.length : Int) - 1) = ((o.length - 1 : Nat) : Int) := by rw [IntWalk.i64_in _ (by omega)]; omega
          have hm3 : ((o.length - 1 : Nat) : Int) < o.length := by omega
          have hm4 : 0 < o.length := by omega
          obtain ⟨p, hp⟩ : ∃ p, o[o.length - 1]? = some p := ⟨_, List.getElem?_eq_getElem (by omega)⟩
          have hp' : o[o.length - 1]'(by omega) = p := (List.getElem?_eq_some_iff.1 hp).2
          cases h1 : p.2 == 9223372036854775807 <;> simp [evalRgn, Option.map_some, evalOps, step, wants, osem, M.run_bind, M.mapL, M.run, M.ok, M.fresh, M.write, M.look, M.lift, putD, Arb.set, ev, Arb.get, keepFr, bin, intBin, strBin, mk, params, cellsM, load, obRead, fadr, fld, isl, iarr, xarr, idx, len, valid, slc, bound, store, splice, nilc, un, eqs, eq0, evalFeet, footOf, M.foot, orderOk, apartAll, apart1, clash, meets, callM, fcallM, callee, fz1, fzC, fz, flat, flat1, flat0, flatI, Option.bind_some, putAll, M.bind, joinB, hm1, hm2, hm3, hm4, hp, hp', rng, h1])) ?_
      refine Wp.cond rfl ?_
      cases hj : joinB o r with
      | true =>
        obtain ⟨p, hp⟩ : ∃ p, o[o.length - 1]? = some p := by
          unfold joinB at hj
          split at hj
          · exact ⟨_, by assumption⟩
          · cases hj
        have h0 : o.length ≠ 0 := by intro h0; rw [List.getElem?_eq_none (by omega)] at hp; cases hp
        have hm1 : (0 : Int) < o.length := by omega
        have hm2 : IntKind.wrap .i64 ((o.length : Int) - 1) = ((o.length - 1 : Nat) : Int) := by rw [IntWalk.i64_in _ (by omega)]; omega
        have hm3 : ((o.length - 1 : Nat) : Int) < o.length := by omega
        have hm4 : 0 < o.length := by omega
        have hp' : o[o.length - 1]'(by omega) = p := (List.getElem?_eq_some_iff.1 hp).2
        have hh : hiR o r = o.set (o.length - 1) (p.1, if r.2 > p.2 then r.2 else p.2) := by unfold hiR; rw [hp]
        refine Wp.seq ?_
        refine Wp.rgn (K := 0) (s' := ⟨[(2, .own 1000 0 o.length 0), (10, .own 1128 0 l.length 0), (11, .iv (.int .i64 l.length)), (12, .iv (.int .i64 i))], [(1000, .buf 0 2 ((hiR o r).map rng)), (1128, .buf 0 2 (q.map rng)), (1768, .cells [.iv (.int .i64 r.1), .iv (.int .i64 r.2)])], 4840⟩) (fun n _ => by
          rw [hh]
          simp [evalRgn, Option.map_some, evalOps, step, wants, osem, M.run_bind, M.mapL, M.run, M.ok, M.fresh, M.write, M.look, M.lift, putD, Arb.set, ev, Arb.get, keepFr, bin, intBin, strBin, mk, params, cellsM, load, obRead, fadr, fld, isl, iarr, xarr, idx, len, valid, slc, bound, store, splice, nilc, un, eqs, eq0, evalFeet, footOf, M.foot, orderOk, apartAll, apart1, clash, meets, callM, fcallM, callee, fz1, fzC, fz, flat, flat1, flat0, flatI, Option.bind_some, putAll, M.bind, mxI, hm1, hm2, hm3, hm4, hp, hp', rng]) ?_
        refine Wp.exit ?_
        simp only [Ex.then, Ex.inBlock, if_true]
        refine Wp.rgn (K := 0) (fun n _ => by simp [evalRgn, Option.map_some, evalOps, step, wants, osem, M.run_bind, M.mapL, M.run, M.ok, M.fresh, M.write, M.look, M.lift, putD, Arb.set, ev, Arb.get, keepFr, bin, intBin, strBin, mk, params, cellsM, load, obRead, fadr, fld, isl, iarr, xarr, idx, len, valid, slc, bound, store, splice, nilc, un, eqs, eq0, evalFeet, footOf, M.foot, orderOk, apartAll, apart1, clash, meets, callM, fcallM, callee, fz1, fzC, fz, flat, flat1, flat0, flatI, Option.bind_some, putAll, M.bind]; rfl) ?_
        refine ⟨?_, trivial⟩
        simp [again, keepFr, get, nrm, nrmO, hw1, hh]
      | false =>
        refine Wp.skip ?_
        have hr2 : o.length + 1 ≤ 1073741824 := by omega
        refine Wp.rgn (K := 0) (s' := ⟨[(2, .own 1000 0 (o.length + 1) 1), (10, .own 1128 0 l.length 0), (11, .iv (.int .i64 l.length)), (12, .iv (.int .i64 i))], [(1000, .buf 1 2 ((o ++ [r]).map rng)), (1128, .buf 0 2 (q.map rng)), (1768, .cells [.iv (.int .i64 r.1), .iv (.int .i64 r.2)]), (4008, .buf 0 2 [rng r])], 4200⟩) (fun n _ => by
          simp [evalRgn, Option.map_some, evalOps, step, wants, osem, M.run_bind, M.mapL, M.run, M.ok, M.fresh, M.write, M.look, M.lift, putD, Arb.set, ev, Arb.get, keepFr, bin, intBin, strBin, mk, params, cellsM, load, obRead, fadr, fld, isl, iarr, xarr, idx, len, valid, slc, bound, store, splice, nilc, un, eqs, eq0, evalFeet, footOf, M.foot, orderOk, apartAll, apart1, clash, meets, callM, fcallM, callee, fz1, fzC, fz, flat, flat1, flat0, flatI, Option.bind_some, putAll, M.bind, app, elems, roomy, hr2, rng, setAll, take_map_len]) ?_
        simp only [Ex.then, Ex.inBlock]
        refine Wp.rgn (K := 0) (fun n _ => by simp [evalRgn, Option.map_some, evalOps, step, wants, osem, M.run_bind, M.mapL, M.run, M.ok, M.fresh, M.write, M.look, M.lift, putD, Arb.set, ev, Arb.get, keepFr, bin, intBin, strBin, mk, params, cellsM, load, obRead, fadr, fld, isl, iarr, xarr, idx, len, valid, slc, bound, store, splice, nilc, un, eqs, eq0, evalFeet, footOf, M.foot, orderOk, apartAll, apart1, clash, meets, callM, fcallM, callee, fz1, fzC, fz, flat, flat1, flat0, flatI, Option.bind_some, putAll, M.bind]; rfl) ?_
        refine ⟨?_, trivial⟩
        simp [again, keepFr, get, nrm, nrmO, hw1]
  · intro _
    refine Wp.seq ?_
    have hn : ¬ (l.length : Int) < l.length := by omega
    refine Wp.rgn (K := 0) (fun n _ => by simp [evalRgn, Option.map_some, evalOps, step, wants, osem, M.run_bind, M.mapL, M.run, M.ok, M.fresh, M.write, M.look, M.lift, putD, Arb.set, ev, Arb.get, keepFr, bin, intBin, strBin, mk, params, cellsM, load, obRead, fadr, fld, isl, iarr, xarr, idx, len, valid, slc, bound, store, splice, nilc, un, eqs, eq0, evalFeet, footOf, M.foot, orderOk, apartAll, apart1, clash, meets, callM, fcallM, callee, fz1, fzC, fz, flat, flat1, flat0, flatI, Option.bind_some, putAll, M.bind, hn]; rfl) ?_
    refine Wp.seq (Wp.cond rfl (Wp.exit ?_))
    simp only [Ex.then, Ex.inBlock, if_true]
    refine Wp.seq ?_
    refine Wp.rgn (K := 0) (fun n _ => by simp [evalRgn, Option.map_some, evalOps, step, wants, osem, M.run_bind, M.mapL, M.run, M.ok, M.fresh, M.write, M.look, M.lift, putD, Arb.set, ev, Arb.get, keepFr, bin, intBin, strBin, mk, params, cellsM, load, obRead, fadr, fld, isl, iarr, xarr, idx, len, valid, slc, bound, store, splice, nilc, un, eqs, eq0, evalFeet, footOf, M.foot, orderOk, apartAll, apart1, clash, meets, callM, fcallM, callee, fz1, fzC, fz, flat, flat1, flat0, flatI, Option.bind_some, putAll, M.bind]; rfl) ?_
    refine Wp.ret ?_
    have hql2 : q.take l.length = q := by rw [← hql, List.take_length]
    rw [hql2]
    have hn : normR l = q.foldl addR [] := by unfold normR; rw [hq]
    rw [hn]
    simp [FinS, F37, resAll, resM, outA, ev, get, M.look, M.bind, M.run, M.run_bind, M.ok, shut, fzA, fz1, fzC, fz, M.write, M.lift, take_map_len]
end
end Arb

/-
  TWO RISING LISTS IN ONE; THE UNION OF TWO SETS.
-/
set_option linter.unusedSimpArgs false
namespace Arb
open Go

def joinT (a b : List ByteArray) : List ByteArray := comp (isort ltT (a ++ b))

section
variable {prog : Nat → Option IFn}

set_option maxHeartbeats 1000000 in
theorem p_join (H : Lib2 prog) (h54 : prog 54 = some F54) (h56 : prog 56 = some F56) (h : prog 40 = some F40) (a b : List ByteArray) (hl : a.length + b.length ≤ 12) :
    Ans prog 40 [.iv (.sl 1 (a.map st1)), .iv (.sl 1 (b.map st1))] (.iv (.sl 1 ((joinT a b).map st1))) := by
  obtain ⟨K1, hK1⟩ := p_sortT H 1 (a ++ b) (by simpa using hl)
  obtain ⟨p, ⟨rows', hr1, hr2, rfl⟩, K2, hK2⟩ := p_compact h56 1 (isort ltT (a ++ b)) (by rw [isort_len]; simp [maxLen]; omega)
  rw [List.length_append, List.map_append] at hK1
  rw [isort_len, List.length_append] at hK2
  refine Ans.of h rfl rfl (Wp.seq ?_)
  refine Wp.rgn (K := 0) (fun n _ => by simp [evalRgn, Option.map_some, evalOps, step, wants, osem, M.run_bind, M.mapL, M.run, M.ok, M.fresh, M.write, M.look, M.lift, putD, Arb.set, ev, Arb.get, keepFr, bin, intBin, strBin, mk, params, cellsM, load, obRead, fadr, fld, isl, iarr, xarr, idx, len, valid, slc, bound, store, splice, nilc, un, eqs, eq0, evalFeet, footOf, M.foot, orderOk, apartAll, apart1, clash, meets, callM, fcallM, callee, fz1, fzC, fz, flat, flat1, flat0, flatI, Option.bind_some, putAll, M.bind]; rfl) ?_
  refine Wp.seq ?_
  refine Wp.rgn (K := 1) (s' := ⟨[(5, .own 1128 0 (a.length + b.length) 1)], [(1000, .buf 0 1 []), (1128, .buf 1 1 ((a ++ b).map st1))], 1384⟩) (fun n hn => by
    obtain ⟨n, rfl⟩ : ∃ n', n = n' + 1 := ⟨n - 1, by omega⟩
    have hr : a.length ≤ 1073741824 := by omega
    have hr2 : a.length + b.length ≤ 1073741824 := by omega
    simp [evalRgn, Option.map_some, evalOps, step, wants, osem, M.run_bind, M.mapL, M.run, M.ok, M.fresh, M.write, M.look, M.lift, putD, Arb.set, ev, Arb.get, keepFr, bin, intBin, strBin, mk, params, cellsM, load, obRead, fadr, fld, isl, iarr, xarr, idx, len, valid, slc, bound, store, splice, nilc, un, eqs, eq0, evalFeet, footOf, M.foot, orderOk, apartAll, apart1, clash, meets, callM, fcallM, callee, fz1, fzC, fz, flat, flat1, flat0, flatI, Option.bind_some, putAll, M.bind, ocallM, takeR, evalF, h54, F54, cloneM, roomy, hr, hr2, app, elems, take_map_len]) ?_
  refine Wp.seq ?_
  refine Wp.rgn (K := K1) (s' := ⟨[(5, .own 1128 0 (a.length + b.length) 1)], [(1000, .buf 0 1 []), (1128, .buf 1 1 ((isort ltT (a ++ b)).map st1))], 1512⟩) (fun n hn => by simp [evalRgn, Option.map_some, evalOps, step, wants, osem, M.run_bind, M.mapL, M.run, M.ok, M.fresh, M.write, M.look, M.lift, putD, Arb.set, ev, Arb.get, keepFr, bin, intBin, strBin, mk, params, cellsM, load, obRead, fadr, fld, isl, iarr, xarr, idx, len, valid, slc, bound, store, splice, nilc, un, eqs, eq0, evalFeet, footOf, M.foot, orderOk, apartAll, apart1, clash, meets, callM, fcallM, callee, fz1, fzC, fz, flat, flat1, flat0, flatI, Option.bind_some, putAll, M.bind, lcallM, callee, idsOf, List.flatMap, dedup, nodupB, lendA, place, lentOk, withPlaces, lentR, backAll, hK1 n hn]) ?_
  refine Wp.seq ?_
  refine Wp.rgn (K := K2) (s' := ⟨[(4, .own 1128 0 (joinT a b).length 1)], [(1000, .buf 0 1 []), (1128, .buf 1 1 rows')], 1704⟩) (fun n hn => by simp [evalRgn, Option.map_some, evalOps, step, wants, osem, M.run_bind, M.mapL, M.run, M.ok, M.fresh, M.write, M.look, M.lift, putD, Arb.set, ev, Arb.get, keepFr, bin, intBin, strBin, mk, params, cellsM, load, obRead, fadr, fld, isl, iarr, xarr, idx, len, valid, slc, bound, store, splice, nilc, un, eqs, eq0, evalFeet, footOf, M.foot, orderOk, apartAll, apart1, clash, meets, callM, fcallM, callee, fz1, fzC, fz, flat, flat1, flat0, flatI, Option.bind_some, putAll, M.bind, lcallM, callee, idsOf, List.flatMap, dedup, nodupB, lendA, place, lentOk, withPlaces, lentR, backAll, hK2 n hn, joinT]) ?_
  refine Wp.ret ?_
  simp [FinS, F40, resAll, resM, outA, ev, get, M.look, M.bind, M.run, M.run_bind, M.ok, shut, fzA, fz1, fzC, fz, M.write, M.lift, joinT, hr1]
end
end Arb

/-
  THE UNION OF TWO SETS.
-/
set_option linter.unusedSimpArgs false
namespace Arb
open Go

def orT (x y : S) : List ByteArray :=
  if x.c && y.c then pickS x.s y.s true else if x.c then pickS x.s y.s false else if y.c then pickS y.s x.s false else joinT x.s y.s
def orS (x y : S) : S := ⟨x.a || y.a, normR (x.i ++ y.i), x.c || y.c, orT x y⟩

structure Lib3 (prog : Nat → Option IFn) : Prop extends Lib2 prog where
  h23 : prog 23 = some F23
  h37 : prog 37 = some F37
  h38 : prog 38 = some F38
  h39 : prog 39 = some F39
  h40 : prog 40 = some F40
  h53 : prog 53 = some F53
  h54 : prog 54 = some F54
  h56 : prog 56 = some F56
  h64 : prog 64 = some F64

section
variable {prog : Nat → Option IFn}

def orHp (x y : S) (t : AV) : Hp := [(1000, .cells [.iv (.bool x.a), .iv (.sl 2 (x.i.map rng)), .iv (.bool x.c), .iv (.sl 1 (x.s.map st1))]), (1064, .cells [.iv (.bool y.a), .iv (.sl 2 (y.i.map rng)), .iv (.bool y.c), .iv (.sl 1 (y.s.map st1))]),
  (1130, .buf 0 2 []), (1132, .buf 0 1 []), (1128, .cells [.iv (.bool false), .own 1130 0 0 0, .iv (.bool false), .own 1132 0 0 0]), (1704, .imm 1 2 (x.i.map rng ++ y.i.map rng)), (2474, .buf 0 2 []), (2476, .buf 0 1 []),
  (2472, .cells [.iv (.bool (x.a || y.a)), .iv (.sl 2 ((normR (x.i ++ y.i)).map rng)), .iv (.bool (x.c || y.c)), t]), (2539, .buf 0 1 [])]

set_option maxHeartbeats 4000000 in
theorem p_or (H : Lib3 prog) (x y : S) (hi : x.i.length + y.i.length ≤ 12) (hs : x.s.length + y.s.length ≤ 12) : Ans prog 23 [x.av, y.av] (orS x y).av := by
  obtain ⟨K1, hK1⟩ := p_ranges H.toLib2 H.h38 H.h37 (x.i ++ y.i) (by simpa using hi)
  rw [List.map_append] at hK1
  obtain ⟨K2, hK2⟩ := p_pick H.h64 H.h53 H.h39 x.s y.s true (by omega) (by unfold maxLen; omega)
  obtain ⟨K3, hK3⟩ := p_pick H.h64 H.h53 H.h39 x.s y.s false (by omega) (by unfold maxLen; omega)
  obtain ⟨K4, hK4⟩ := p_pick H.h64 H.h53 H.h39 y.s x.s false (by omega) (by unfold maxLen; omega)
  obtain ⟨K5, hK5⟩ := p_join H.toLib2 H.h54 H.h56 H.h40 x.s y.s hs
  refine Ans.of H.h23 rfl rfl (Wp.seq ?_)
  refine Wp.rgn (K := 0) (fun n _ => by simp [evalRgn, Option.map_some, evalOps, step, wants, osem, M.run_bind, M.mapL, M.run, M.ok, M.fresh, M.write, M.look, M.lift, putD, Arb.set, ev, Arb.get, keepFr, bin, intBin, strBin, mk, params, cellsM, load, obRead, fadr, fld, isl, iarr, xarr, idx, len, valid, slc, bound, store, splice, nilc, un, eqs, eq0, evalFeet, footOf, M.foot, orderOk, apartAll, apart1, clash, meets, callM, fcallM, callee, fz1, fzC, fz, flat, flat1, flat0, flatI, Option.bind_some, putAll, M.bind, S.av]; rfl) ?_
  refine Wp.seq ?_
  refine Wp.rgn (K := max K1 1) (s' := ⟨[(2, .ref 1000 0 0 0), (3, .ref 1064 0 0 0), (4, .ref 1128 0 0 0), (5, .ref 2472 0 0 0)], orHp x y (.own 2539 0 0 0), 2600⟩) (fun n hn => by
    obtain ⟨n, rfl⟩ : ∃ n', n = n' + 1 := ⟨n - 1, by omega⟩
    have e1 := hK1 (n + 1) (by omega)
    have hr : x.i.length ≤ 1073741824 := by omega
    have hr2 : x.i.length + y.i.length ≤ 1073741824 := by omega
    have f38 : ∀ es, evalF prog (n + 1) 38 [.iv (.sl 2 es)] [] = (cloneM 2 [.iv (.sl 2 es)]).run [] := fun es => by simp only [evalF, H.h38, F38]
    generalize evalF prog (n + 1) = g at e1 f38
    have ht : (x.i.map rng ++ y.i.map rng).take (x.i.length + y.i.length) = x.i.map rng ++ y.i.map rng := List.take_of_length_le (by simp)
    cases ha : x.a <;> cases hc : x.c <;> simp [evalRgn, Option.map_some, evalOps, step, wants, osem, M.run_bind, M.mapL, M.run, M.ok, M.fresh, M.write, M.look, M.lift, putD, Arb.set, ev, Arb.get, keepFr, bin, intBin, strBin, mk, params, cellsM, load, obRead, fadr, fld, isl, iarr, xarr, idx, len, valid, slc, bound, store, splice, nilc, un, eqs, eq0, evalFeet, footOf, M.foot, orderOk, apartAll, apart1, clash, meets, callM, fcallM, callee, fz1, fzC, fz, flat, flat1, flat0, flatI, Option.bind_some, putAll, M.bind, ocallM, takeR, f38, cloneM, roomy, hr, hr2, app, elems, take_map_len, e1, ha, hc, orHp, ht]) ?_
  refine Wp.seq (Wp.block (Wp.mono (Q := fun e s => e = .norm ∧ ∃ nx, s = ⟨[(4, .ref 1128 0 0 0), (5, .ref 2472 0 0 0)], orHp x y (.iv (.sl 1 ((orT x y).map st1))), nx⟩) ?_ ?_))
  · refine Wp.seq ?_
    refine Wp.rgn (K := 0) (s' := ⟨[(2, .ref 1000 0 0 0), (3, .ref 1064 0 0 0), (4, .ref 1128 0 0 0), (5, .ref 2472 0 0 0), (32, .iv (.bool (x.c && y.c)))], orHp x y (.own 2539 0 0 0), 3048⟩) (fun n hn => by
      cases hc : x.c <;> simp [evalRgn, Option.map_some, evalOps, step, wants, osem, M.run_bind, M.mapL, M.run, M.ok, M.fresh, M.write, M.look, M.lift, putD, Arb.set, ev, Arb.get, keepFr, bin, intBin, strBin, mk, params, cellsM, load, obRead, fadr, fld, isl, iarr, xarr, idx, len, valid, slc, bound, store, splice, nilc, un, eqs, eq0, evalFeet, footOf, M.foot, orderOk, apartAll, apart1, clash, meets, callM, fcallM, callee, fz1, fzC, fz, flat, flat1, flat0, flatI, Option.bind_some, putAll, M.bind, orHp, hc]) ?_
    refine Wp.cond rfl ?_
    unfold orT
    cases hb : x.c && y.c with
    | true =>
      refine Wp.rgn (K := K2) (s' := ⟨[(4, .ref 1128 0 0 0), (5, .ref 2472 0 0 0)], orHp x y (.iv (.sl 1 ((pickS x.s y.s true).map st1))), 3496⟩) (fun n hn => by
        have e2 := hK2 n hn
        generalize evalF prog n = g at e2
        simp [evalRgn, Option.map_some, evalOps, step, wants, osem, M.run_bind, M.mapL, M.run, M.ok, M.fresh, M.write, M.look, M.lift, putD, Arb.set, ev, Arb.get, keepFr, bin, intBin, strBin, mk, params, cellsM, load, obRead, fadr, fld, isl, iarr, xarr, idx, len, valid, slc, bound, store, splice, nilc, un, eqs, eq0, evalFeet, footOf, M.foot, orderOk, apartAll, apart1, clash, meets, callM, fcallM, callee, fz1, fzC, fz, flat, flat1, flat0, flatI, Option.bind_some, putAll, M.bind, orHp, e2]) ⟨rfl, _, rfl⟩
    | false =>
      refine Wp.seq ?_
      refine Wp.rgn (K := 0) (s' := ⟨[(2, .ref 1000 0 0 0), (3, .ref 1064 0 0 0), (4, .ref 1128 0 0 0), (5, .ref 2472 0 0 0), (45, .iv (.bool x.c))], orHp x y (.own 2539 0 0 0), 3240⟩) (fun n hn => by simp [evalRgn, Option.map_some, evalOps, step, wants, osem, M.run_bind, M.mapL, M.run, M.ok, M.fresh, M.write, M.look, M.lift, putD, Arb.set, ev, Arb.get, keepFr, bin, intBin, strBin, mk, params, cellsM, load, obRead, fadr, fld, isl, iarr, xarr, idx, len, valid, slc, bound, store, splice, nilc, un, eqs, eq0, evalFeet, footOf, M.foot, orderOk, apartAll, apart1, clash, meets, callM, fcallM, callee, fz1, fzC, fz, flat, flat1, flat0, flatI, Option.bind_some, putAll, M.bind, orHp]) ?_
      refine Wp.cond rfl ?_
      cases hc : x.c with
      | true =>
        refine Wp.rgn (K := K3) (s' := ⟨[(4, .ref 1128 0 0 0), (5, .ref 2472 0 0 0)], orHp x y (.iv (.sl 1 ((pickS x.s y.s false).map st1))), 3688⟩) (fun n hn => by
          have e2 := hK3 n hn
          generalize evalF prog n = g at e2
          simp [evalRgn, Option.map_some, evalOps, step, wants, osem, M.run_bind, M.mapL, M.run, M.ok, M.fresh, M.write, M.look, M.lift, putD, Arb.set, ev, Arb.get, keepFr, bin, intBin, strBin, mk, params, cellsM, load, obRead, fadr, fld, isl, iarr, xarr, idx, len, valid, slc, bound, store, splice, nilc, un, eqs, eq0, evalFeet, footOf, M.foot, orderOk, apartAll, apart1, clash, meets, callM, fcallM, callee, fz1, fzC, fz, flat, flat1, flat0, flatI, Option.bind_some, putAll, M.bind, orHp, e2]) ⟨rfl, _, rfl⟩
      | false =>
        refine Wp.seq ?_
        refine Wp.rgn (K := 0) (s' := ⟨[(2, .ref 1000 0 0 0), (3, .ref 1064 0 0 0), (4, .ref 1128 0 0 0), (5, .ref 2472 0 0 0), (54, .iv (.bool y.c))], orHp x y (.own 2539 0 0 0), 3432⟩) (fun n hn => by simp [evalRgn, Option.map_some, evalOps, step, wants, osem, M.run_bind, M.mapL, M.run, M.ok, M.fresh, M.write, M.look, M.lift, putD, Arb.set, ev, Arb.get, keepFr, bin, intBin, strBin, mk, params, cellsM, load, obRead, fadr, fld, isl, iarr, xarr, idx, len, valid, slc, bound, store, splice, nilc, un, eqs, eq0, evalFeet, footOf, M.foot, orderOk, apartAll, apart1, clash, meets, callM, fcallM, callee, fz1, fzC, fz, flat, flat1, flat0, flatI, Option.bind_some, putAll, M.bind, orHp]) ?_
        refine Wp.cond rfl ?_
        cases hd : y.c with
        | true =>
          refine Wp.rgn (K := K4) (s' := ⟨[(4, .ref 1128 0 0 0), (5, .ref 2472 0 0 0)], orHp x y (.iv (.sl 1 ((pickS y.s x.s false).map st1))), 3880⟩) (fun n hn => by
            have e2 := hK4 n hn
            generalize evalF prog n = g at e2
            simp [evalRgn, Option.map_some, evalOps, step, wants, osem, M.run_bind, M.mapL, M.run, M.ok, M.fresh, M.write, M.look, M.lift, putD, Arb.set, ev, Arb.get, keepFr, bin, intBin, strBin, mk, params, cellsM, load, obRead, fadr, fld, isl, iarr, xarr, idx, len, valid, slc, bound, store, splice, nilc, un, eqs, eq0, evalFeet, footOf, M.foot, orderOk, apartAll, apart1, clash, meets, callM, fcallM, callee, fz1, fzC, fz, flat, flat1, flat0, flatI, Option.bind_some, putAll, M.bind, orHp, e2]) ⟨rfl, _, rfl⟩
        | false =>
          refine Wp.rgn (K := K5) (s' := ⟨[(4, .ref 1128 0 0 0), (5, .ref 2472 0 0 0)], orHp x y (.iv (.sl 1 ((joinT x.s y.s).map st1))), 3880⟩) (fun n hn => by
            have e2 := hK5 n hn
            generalize evalF prog n = g at e2
            simp [evalRgn, Option.map_some, evalOps, step, wants, osem, M.run_bind, M.mapL, M.run, M.ok, M.fresh, M.write, M.look, M.lift, putD, Arb.set, ev, Arb.get, keepFr, bin, intBin, strBin, mk, params, cellsM, load, obRead, fadr, fld, isl, iarr, xarr, idx, len, valid, slc, bound, store, splice, nilc, un, eqs, eq0, evalFeet, footOf, M.foot, orderOk, apartAll, apart1, clash, meets, callM, fcallM, callee, fz1, fzC, fz, flat, flat1, flat0, flatI, Option.bind_some, putAll, M.bind, orHp, e2]) ⟨rfl, _, rfl⟩
  · rintro e s ⟨rfl, nx, rfl⟩
    simp only [Ex.then, Ex.inBlock]
    refine Wp.seq ?_
    refine Wp.rgn (K := 0) (fun n _ => by simp [evalRgn, Option.map_some, evalOps, step, wants, osem, M.run_bind, M.mapL, M.run, M.ok, M.fresh, M.write, M.look, M.lift, putD, Arb.set, ev, Arb.get, keepFr, bin, intBin, strBin, mk, params, cellsM, load, obRead, fadr, fld, isl, iarr, xarr, idx, len, valid, slc, bound, store, splice, nilc, un, eqs, eq0, evalFeet, footOf, M.foot, orderOk, apartAll, apart1, clash, meets, callM, fcallM, callee, fz1, fzC, fz, flat, flat1, flat0, flatI, Option.bind_some, putAll, M.bind, orHp]; rfl) ?_
    refine Wp.ret ?_
    simp [FinS, F23, resAll, resM, outA, load, obRead, mk, ev, get, M.look, M.bind, M.run, M.run_bind, M.ok, M.lift, shut, fzA, fz1, fzC, fz, M.mapL, S.av, orS]
end
end Arb

/-
  THE PERFECT MERGER OF TWO FILTERS.
-/
set_option linter.unusedSimpArgs false
namespace Arb
open Go

theorem diffTo_one (a b : B) : ∀ n, ((diffTo a b n).1 = 0 → ∀ j, j < n → sameS (a.get j) (b.get j) = true) ∧
    ((diffTo a b n).1 = 1 → ∃ i, i < n ∧ (diffTo a b n).2 = (i : Int) ∧ sameS (a.get i) (b.get i) = false ∧ ∀ j, j < n → j ≠ i → sameS (a.get j) (b.get j) = true)
  | 0 => ⟨fun _ j h => absurd h (Nat.not_lt_zero _), fun h => by simp [diffTo] at h⟩
  | n + 1 => by
    obtain ⟨h0, h1⟩ := diffTo_one a b n
    cases hs : sameS (a.get n) (b.get n) with
    | true =>
      have e : diffTo a b (n + 1) = diffTo a b n := by simp [diffTo, hs]
      rw [e]
      refine ⟨fun h j hj => ?_, fun h => ?_⟩
      · by_cases hj' : j = n
        · rw [hj', hs]
        · exact h0 h j (by omega)
      · obtain ⟨i, e1, e2, e3, e4⟩ := h1 h
        refine ⟨i, by omega, e2, e3, fun j hj hne => ?_⟩
        by_cases hj' : j = n
        · rw [hj', hs]
        · exact e4 j (by omega) hne
    | false =>
      have e : diffTo a b (n + 1) = ((diffTo a b n).1 + 1, if (diffTo a b n).1 = 0 then (n : Int) else (diffTo a b n).2) := by simp [diffTo, hs]
      rw [e]
      refine ⟨fun h => by simp at h, fun h => ?_⟩
      have h : (diffTo a b n).1 = 0 := by simpa using h
      refine ⟨n, by omega, by simp [h], hs, fun j hj hne => h0 h j (by omega)⟩

/-- two right boxes that differ in one attribute alone, and which -/
def sole (a b : List B) : Option (B × B × Nat) :=
  match a, b with
  | [x], [y] => if right1 x && right1 y && (diffTo x y 4).1 == 1 then some (x, y, (diffTo x y 4).2.toNat) else none
  | _, _ => none
theorem sole_none {a b : List B} (h : sole a b = none) : (beside a b).2 = false := by
  unfold sole at h
  unfold beside
  split at h
  · rename_i x y
    split at h
    · cases h
    · rename_i hc
      simp only
      cases hr : right1 x && right1 y with
      | false => rw [if_neg Bool.false_ne_true]
      | true => rw [hr, Bool.true_and] at hc; rw [if_pos rfl]; simpa using hc
  · rename_i hne
    split
    · rename_i x y
      exact (hne x y rfl rfl).elim
    · rfl
theorem sole_some {a b : List B} {x y : B} {i : Nat} (h : sole a b = some (x, y, i)) :
    a = [x] ∧ b = [y] ∧ right1 x = true ∧ right1 y = true ∧ i < 4 ∧ beside a b = ((i : Int), true) ∧ sameS (x.get i) (y.get i) = false ∧ ∀ j, j < 4 → j ≠ i → sameS (x.get j) (y.get j) = true := by
  unfold sole at h
  split at h
  · rename_i x' y'
    split at h
    · rename_i hc
      simp only [Bool.and_eq_true, beq_iff_eq] at hc
      obtain ⟨i', e1, e2, e3, e4⟩ := (diffTo_one x' y' 4).2 hc.2
      simp only [Option.some.injEq, Prod.mk.injEq] at h
      obtain ⟨rfl, rfl, h⟩ := h
      rw [e2, Int.toNat_natCast] at h
      subst h
      exact ⟨rfl, rfl, hc.1.1, hc.1.2, e1, by simp [beside, hc.1.1, hc.1.2, hc.2, e2], e3, e4⟩
    · cases h
  · cases h

/-- is one of more ranges than both? -/
def grew (x y s : S) : Bool := decide ((if (x.i.length : Int) < y.i.length then (y.i.length : Int) else x.i.length) < s.i.length)
def perfF (a b : List B) : List B × Bool :=
  match sole a b with
  | none => ([], false)
  | some (x, y, i) => if !smallS (orS (x.get i) (y.get i)) || grew (x.get i) (y.get i) (orS (x.get i) (y.get i)) then ([], false) else ([x.put i (orS (x.get i) (y.get i))], true)

theorem B.enc_at (b : B) {i : Nat} (h : i < 4) : (b.enc.drop (i * 4)).take 4 = [.bool (b.get i).a, .sl 2 ((b.get i).i.map rng), .bool (b.get i).c, .sl 1 ((b.get i).s.map st1)] := by
  match i, h with
  | 0, _ => rfl
  | 1, _ => rfl
  | 2, _ => rfl
  | 3, _ => rfl
theorem B.enc_at1 (b : B) {i : Nat} (h : i < 4) : (b.enc.drop (i * 4 + 1)).take 1 = [.sl 2 ((b.get i).i.map rng)] := by
  match i, h with
  | 0, _ => rfl
  | 1, _ => rfl
  | 2, _ => rfl
  | 3, _ => rfl
theorem right1_small {b : B} (h : right1 b = true) {i : Nat} (hi : i < 4) : (b.get i).i.length ≤ 6 ∧ (b.get i).s.length ≤ 6 := by
  simp only [right1, allB, Bool.and_eq_true, smallS, decide_eq_true_eq] at h
  match i, hi with
  | 0, _ => exact h.2.1.1
  | 1, _ => exact h.2.1.2.1
  | 2, _ => exact h.2.1.2.2.1
  | 3, _ => exact h.2.1.2.2.2

theorem fzC_int (w : Bool) (k : IntKind) (n : Int) : fzC w (.iv (.int k n)) = .ret (.iv (.int k n)) := rfl
theorem fzC_bool (w : Bool) (b : Bool) : fzC w (.iv (.bool b)) = .ret (.iv (.bool b)) := rfl
theorem fzC_sl (w : Bool) (e : Nat) (es : List (List IV)) : fzC w (.iv (.sl e es)) = .ret (.iv (.sl e es)) := rfl

structure Lib4 (prog : Nat → Option IFn) : Prop extends Lib1 prog, Lib3 prog where
  h10 : prog 10 = some F10
  h16 : prog 16 = some F16
  h19 : prog 19 = some F19

section
variable {prog : Nat → Option IFn}

set_option maxHeartbeats 4000000 in
theorem p_perfect (H : Lib4 prog) (a b : List B) (ha : ∀ x ∈ a, x.fits) (hb : ∀ x ∈ b, x.fits) : Ans prog 10 [filt a, filt b] (.tup [filt (perfF a b).1, .iv (.bool (perfF a b).2)]) := by
  obtain ⟨K1, hK1⟩ := p_beside H.toLib1 H.h16 a b ha hb
  refine Ans.of H.h10 rfl rfl (Wp.seq ?_)
  refine Wp.rgn (K := 0) (fun n _ => by simp [evalRgn, Option.map_some, evalOps, step, wants, osem, M.run_bind, M.mapL, M.run, M.ok, M.fresh, M.write, M.look, M.lift, putD, Arb.set, ev, Arb.get, keepFr, bin, intBin, strBin, mk, params, cellsM, load, obRead, fadr, fld, isl, iarr, xarr, idx, len, valid, slc, bound, store, splice, nilc, un, eqs, eq0, evalFeet, footOf, M.foot, orderOk, apartAll, apart1, clash, meets, callM, fcallM, callee, fz1, fzC, fz, flat, flat1, flat0, flatI, Option.bind_some, putAll, M.bind]; rfl) ?_
  refine Wp.seq ?_
  refine Wp.rgn (K := K1) (s' := ⟨[(0, filt a), (1, filt b), (6, .iv (.int .i64 (beside a b).1)), (7, .iv (.bool (beside a b).2))], [(1000, .buf 0 16 [])], 1640⟩) (fun n hn => by
    have e1 := hK1 n hn
    simp only [filt] at e1
    simp [evalRgn, Option.map_some, evalOps, step, wants, osem, M.run_bind, M.mapL, M.run, M.ok, M.fresh, M.write, M.look, M.lift, putD, Arb.set, ev, Arb.get, keepFr, bin, intBin, strBin, mk, params, cellsM, load, obRead, fadr, fld, isl, iarr, xarr, idx, len, valid, slc, bound, store, splice, nilc, un, eqs, eq0, evalFeet, footOf, M.foot, orderOk, apartAll, apart1, clash, meets, callM, fcallM, callee, fz1, fzC, fz, flat, flat1, flat0, flatI, Option.bind_some, putAll, M.bind, filt, e1]) ?_
  refine Wp.seq (Wp.seq ?_)
  refine Wp.rgn (K := 0) (fun n _ => by simp [evalRgn, Option.map_some, evalOps, step, wants, osem, M.run_bind, M.mapL, M.run, M.ok, M.fresh, M.write, M.look, M.lift, putD, Arb.set, ev, Arb.get, keepFr, bin, intBin, strBin, mk, params, cellsM, load, obRead, fadr, fld, isl, iarr, xarr, idx, len, valid, slc, bound, store, splice, nilc, un, eqs, eq0, evalFeet, footOf, M.foot, orderOk, apartAll, apart1, clash, meets, callM, fcallM, callee, fz1, fzC, fz, flat, flat1, flat0, flatI, Option.bind_some, putAll, M.bind]; rfl) ?_
  refine Wp.cond rfl ?_
  unfold perfF
  cases hso : sole a b with
  | none =>
    rw [sole_none hso]
    refine Wp.seq ?_
    refine Wp.rgn (K := 0) (fun n _ => by simp [evalRgn, Option.map_some, evalOps, step, wants, osem, M.run_bind, M.mapL, M.run, M.ok, M.fresh, M.write, M.look, M.lift, putD, Arb.set, ev, Arb.get, keepFr, bin, intBin, strBin, mk, params, cellsM, load, obRead, fadr, fld, isl, iarr, xarr, idx, len, valid, slc, bound, store, splice, nilc, un, eqs, eq0, evalFeet, footOf, M.foot, orderOk, apartAll, apart1, clash, meets, callM, fcallM, callee, fz1, fzC, fz, flat, flat1, flat0, flatI, Option.bind_some, putAll, M.bind]; rfl) ?_
    exact Wp.ret rfl
  | some q =>
    obtain ⟨x, y, i⟩ := q
    obtain ⟨rfl, rfl, hx, hy, hi, hbs, -, -⟩ := sole_some hso
    rw [hbs]
    have lx := right1_small hx hi
    have ly := right1_small hy hi
    simp only
    refine Wp.skip (Wp.seq ?_)
    obtain ⟨K2, hK2⟩ := p_or H.toLib3 (x.get i) (y.get i) (by omega) (by omega)
    generalize hz : orS (x.get i) (y.get i) = z at hK2
    have hi0 : (i : Int) < 4 := by omega
    have hi1 : i * 4 ≤ 16 := by omega
    have hi2 : i * 4 + 4 ≤ 16 := by omega
    have hi3 : min 4 (16 - i * 4) = 4 := by omega
    have hi6 : 1 ≤ 16 - i * 4 := by omega
    have hi7 : min 1 (16 - (i * 4 + 1)) = 1 := by omega
    have hi4 : min 4 (x.enc.length - i * 4) = 4 := by rw [B.enc_len]; omega
    have hi5 : min 4 (y.enc.length - i * 4) = 4 := by rw [B.enc_len]; omega
    refine Wp.rgn (K := K2) (s' := ⟨[(0, filt [x]), (1, filt [y]), (6, .iv (.int .i64 i)), (8, .ref 2472 0 0 0)], [(1000, .buf 0 16 []), (2474, .buf 0 2 []), (2476, .buf 0 1 []), (2472, .cells [.iv (.bool z.a), .iv (.sl 2 (z.i.map rng)), .iv (.bool z.c), .iv (.sl 1 (z.s.map st1))])], 2600⟩) (fun n hn => by
      have e2 := hK2 n hn
      simp only [S.av] at e2
      generalize evalF prog n = g at e2
      simp [evalRgn, Option.map_some, evalOps, step, wants, osem, M.run_bind, M.mapL, M.run, M.ok, M.fresh, M.write, M.look, M.lift, putD, Arb.set, ev, Arb.get, keepFr, bin, intBin, strBin, mk, params, cellsM, load, obRead, fadr, fld, isl, iarr, xarr, idx, len, valid, slc, bound, store, splice, nilc, un, eqs, eq0, evalFeet, footOf, M.foot, orderOk, apartAll, apart1, clash, meets, callM, fcallM, callee, fz1, fzC, fz, flat, flat1, flat0, flatI, Option.bind_some, putAll, M.bind, filt, B.enc_len, B.enc_at x hi, B.enc_at y hi, hi0, hi1, hi2, hi3, e2]) ?_
    refine Wp.seq (Wp.seq ?_)
    obtain ⟨K3, hK3⟩ := p_smallS H.h24 z
    refine Wp.rgn (K := K3) (s' := ⟨[(0, filt [x]), (6, .iv (.int .i64 i)), (8, .ref 2472 0 0 0), (51, .iv (.bool (!smallS z || grew (x.get i) (y.get i) z)))], [(1000, .buf 0 16 []), (2474, .buf 0 2 []), (2476, .buf 0 1 []), (2472, .cells [.iv (.bool z.a), .iv (.sl 2 (z.i.map rng)), .iv (.bool z.c), .iv (.sl 1 (z.s.map st1))])], 4136⟩) (fun n hn => rgn_quiet' rfl (by
      have e3 := hK3 n hn
      simp only [S.av] at e3
      generalize evalF prog n = g at e3
      cases hsm : smallS z <;> rw [hsm] at e3 <;> simp [evalRgn, Option.map_some, evalOps, step, wants, osem, M.run_bind, M.mapL, M.run, M.ok, M.fresh, M.write, M.look, M.lift, putD, Arb.set, ev, Arb.get, keepFr, bin, intBin, strBin, mk, params, cellsM, load, obRead, fadr, fld, isl, iarr, xarr, idx, len, valid, slc, bound, store, splice, nilc, un, eqs, eq0, evalFeet, footOf, M.foot, orderOk, apartAll, apart1, clash, meets, callM, fcallM, callee, fz1, fzC, fz, flat, flat1, flat0, flatI, Option.bind_some, putAll, M.bind, filt, B.enc_len, B.enc_at1 x hi, B.enc_at1 y hi, hi0, hi1, hi2, hi3, hi6, hi7, e3, grew, mxI])) ?_
    refine Wp.cond rfl ?_
    cases hg : !smallS z || grew (x.get i) (y.get i) z with
    | true =>
      refine Wp.seq ?_
      refine Wp.rgn (K := 0) (fun n _ => by simp [evalRgn, Option.map_some, evalOps, step, wants, osem, M.run_bind, M.mapL, M.run, M.ok, M.fresh, M.write, M.look, M.lift, putD, Arb.set, ev, Arb.get, keepFr, bin, intBin, strBin, mk, params, cellsM, load, obRead, fadr, fld, isl, iarr, xarr, idx, len, valid, slc, bound, store, splice, nilc, un, eqs, eq0, evalFeet, footOf, M.foot, orderOk, apartAll, apart1, clash, meets, callM, fcallM, callee, fz1, fzC, fz, flat, flat1, flat0, flatI, Option.bind_some, putAll, M.bind]; rfl) ?_
      exact Wp.ret rfl
    | false =>
      refine Wp.skip (Wp.seq ?_)
      obtain ⟨K4, hK4⟩ := p_with H.h19 x z hi
      refine Wp.rgn (K := K4) (s' := ⟨[(4, .own 4520 0 1 0), (5, .iv (.bool true))], [(1000, .buf 0 16 []), (2474, .buf 0 2 []), (2476, .buf 0 1 []), (2472, .cells [.iv (.bool z.a), .iv (.sl 2 (z.i.map rng)), .iv (.bool z.c), .iv (.sl 1 (z.s.map st1))]), (4520, .buf 0 16 [(x.put i z).enc])], 4712⟩) (fun n hn => by
        have e4 := hK4 n hn
        simp only [B.av, S.av] at e4
        generalize evalF prog n = g at e4
        simp [evalRgn, Option.map_some, evalOps, step, wants, osem, M.run_bind, M.mapL, M.run, M.ok, M.fresh, M.write, M.look, M.lift, putD, Arb.set, ev, Arb.get, keepFr, bin, intBin, strBin, mk, params, cellsM, load, obRead, fadr, fld, isl, iarr, xarr, idx, len, valid, slc, bound, store, splice, nilc, un, eqs, eq0, evalFeet, footOf, M.foot, orderOk, apartAll, apart1, clash, meets, callM, fcallM, callee, fz1, flat, flat1, flat0, flatI, Option.bind_some, putAll, M.bind, filt, B.enc_len, B.enc_take, B.enc_cs, B.cs_fzC, B.cs_fz, B.cs_len, setAll, e4, fzC_int, fzC_bool, fzC_sl]) ?_
      exact Wp.ret rfl
end
end Arb

/-
  THE HULL OF TWO FILTERS.
-/
set_option linter.unusedSimpArgs false
namespace Arb
open Go

def hull2 (x : B) (s : S) (i : Nat) (p q : Int × Int) : List B × Int × Bool :=
  if !(between p q).2 || IntKind.wrap .i64 (p.2 + 1) == q.1 then ([], 0, false) else ([x.put i ⟨s.a, [(p.1, q.2)], s.c, s.s⟩], (between p q).1, true)
def hull1 (x : B) (s t : S) (i : Nat) : List B × Int × Bool :=
  match s.i, t.i with
  | [p], [q] => if !sameS s ⟨t.a, [p], t.c, t.s⟩ then ([], 0, false) else if decide (q.1 < p.1) then hull2 x s i q p else hull2 x s i p q
  | _, _ => ([], 0, false)
def hullF (a b : List B) : List B × Int × Bool :=
  match sole a b with
  | none => ([], 0, false)
  | some (x, y, i) => hull1 x (x.get i) (y.get i) i
theorem hull1_ne {x : B} {s t : S} {i : Nat} (h : s.i.length ≠ 1 ∨ t.i.length ≠ 1) : hull1 x s t i = ([], 0, false) := by
  unfold hull1
  split
  · rename_i h1 h2
    rw [h1, h2] at h; simp at h
  · rfl

def hullHp (s : S) (t : List AV) : Hp := [(1000, .buf 0 16 []), (2474, .buf 0 2 []), (2476, .buf 0 1 []), (2472, .cells [.iv (.bool s.a), .iv (.sl 2 (s.i.map rng)), .iv (.bool s.c), .iv (.sl 1 (s.s.map st1))]), (2538, .buf 0 2 []), (2540, .buf 0 1 []), (2536, .cells t)]
def cellsR (p : Int × Int) : List AV := [.iv (.int .i64 p.1), .iv (.int .i64 p.2)]

theorem fzC_own (id o m ver : Nat) : fzC true (.own id o m ver) = (M.look id).bind fun
    | .buf v e es => (M.ok (v == ver)).bind fun _ => (M.write id (.imm v e es)).bind fun _ => .ret (.iv (.sl e ((es.drop o).take m)))
    | .imm v e es => (M.ok (v == ver)).bind fun _ => .ret (.iv (.sl e ((es.drop o).take m)))
    | .cells _ => .fail := by
  unfold fzC fz
  simp only [M.look, M.bind]
  congr 1
  funext ob
  cases ob with
  | none => rfl
  | some ob =>
    cases ob with
    | cells cs => rfl
    | buf v e es => cases hv : v == ver <;> simp [M.ok, M.bind, M.write, hv]
    | imm v e es => cases hv : v == ver <;> simp [M.ok, M.bind, hv]

structure Lib5 (prog : Nat → Option IFn) : Prop extends Lib4 prog where
  h7 : prog 7 = some F7
  h18 : prog 18 = some F18

section
variable {prog : Nat → Option IFn}

set_option maxHeartbeats 8000000 in
theorem p_hull (H : Lib5 prog) (a b : List B) (ha : ∀ x ∈ a, x.fits) (hb : ∀ x ∈ b, x.fits) : Ans prog 7 [filt a, filt b] (.tup [filt (hullF a b).1, .iv (.int .u64 (hullF a b).2.1), .iv (.bool (hullF a b).2.2)]) := by
  obtain ⟨K1, hK1⟩ := p_beside H.toLib1 H.h16 a b ha hb
  refine Ans.of H.h7 rfl rfl (Wp.seq ?_)
  refine Wp.rgn (K := 0) (fun n _ => by simp [evalRgn, Option.map_some, evalOps, step, wants, osem, M.run_bind, M.mapL, M.run, M.ok, M.fresh, M.write, M.look, M.lift, putD, Arb.set, ev, Arb.get, keepFr, bin, intBin, strBin, mk, params, cellsM, load, obRead, fadr, fld, isl, iarr, xarr, idx, len, valid, slc, bound, store, splice, nilc, un, eqs, eq0, evalFeet, footOf, M.foot, orderOk, apartAll, apart1, clash, meets, callM, fcallM, callee, fz1, fzC, fz, flat, flat1, flat0, flatI, Option.bind_some, putAll, M.bind]; rfl) ?_
  refine Wp.seq ?_
  refine Wp.rgn (K := K1) (s' := ⟨[(0, filt a), (1, filt b), (6, .iv (.bool (beside a b).2)), (7, .iv (.int .i64 (beside a b).1))], [(1000, .buf 0 16 [])], 1704⟩) (fun n hn => by
    have e1 := hK1 n hn
    simp only [filt] at e1
    simp [evalRgn, Option.map_some, evalOps, step, wants, osem, M.run_bind, M.mapL, M.run, M.ok, M.fresh, M.write, M.look, M.lift, putD, Arb.set, ev, Arb.get, keepFr, bin, intBin, strBin, mk, params, cellsM, load, obRead, fadr, fld, isl, iarr, xarr, idx, len, valid, slc, bound, store, splice, nilc, un, eqs, eq0, evalFeet, footOf, M.foot, orderOk, apartAll, apart1, clash, meets, callM, fcallM, callee, fz1, fzC, fz, flat, flat1, flat0, flatI, Option.bind_some, putAll, M.bind, filt, e1]) ?_
  refine Wp.seq (Wp.seq ?_)
  refine Wp.rgn (K := 0) (fun n _ => by simp [evalRgn, Option.map_some, evalOps, step, wants, osem, M.run_bind, M.mapL, M.run, M.ok, M.fresh, M.write, M.look, M.lift, putD, Arb.set, ev, Arb.get, keepFr, bin, intBin, strBin, mk, params, cellsM, load, obRead, fadr, fld, isl, iarr, xarr, idx, len, valid, slc, bound, store, splice, nilc, un, eqs, eq0, evalFeet, footOf, M.foot, orderOk, apartAll, apart1, clash, meets, callM, fcallM, callee, fz1, fzC, fz, flat, flat1, flat0, flatI, Option.bind_some, putAll, M.bind]; rfl) ?_
  refine Wp.cond rfl ?_
  unfold hullF
  cases hso : sole a b with
  | none =>
    rw [sole_none hso]
    refine Wp.seq ?_
    refine Wp.rgn (K := 0) (fun n _ => by simp [evalRgn, Option.map_some, evalOps, step, wants, osem, M.run_bind, M.mapL, M.run, M.ok, M.fresh, M.write, M.look, M.lift, putD, Arb.set, ev, Arb.get, keepFr, bin, intBin, strBin, mk, params, cellsM, load, obRead, fadr, fld, isl, iarr, xarr, idx, len, valid, slc, bound, store, splice, nilc, un, eqs, eq0, evalFeet, footOf, M.foot, orderOk, apartAll, apart1, clash, meets, callM, fcallM, callee, fz1, fzC, fz, flat, flat1, flat0, flatI, Option.bind_some, putAll, M.bind]; rfl) ?_
    exact Wp.ret rfl
  | some q =>
    obtain ⟨x, y, i⟩ := q
    obtain ⟨rfl, rfl, hx, hy, hi, hbs, -, -⟩ := sole_some hso
    rw [hbs]
    have lx := right1_small hx hi
    have ly := right1_small hy hi
    simp only
    refine Wp.skip (Wp.seq ?_)
    have hi0 : (i : Int) < 4 := by omega
    have hi1 : i * 4 ≤ 16 := by omega
    have hi2 : i * 4 + 4 ≤ 16 := by omega
    have hi3 : min 4 (16 - i * 4) = 4 := by omega
    generalize hs : x.get i = s at lx
    generalize ht : y.get i = t at ly
    refine Wp.rgn (K := 0) (s' := ⟨[(0, filt [x]), (7, .iv (.int .i64 i)), (8, .ref 2472 0 0 0), (9, .ref 2536 0 0 0)], hullHp s [.iv (.bool t.a), .iv (.sl 2 (t.i.map rng)), .iv (.bool t.c), .iv (.sl 1 (t.s.map st1))], 2728⟩) (fun n hn => by
      simp [evalRgn, Option.map_some, evalOps, step, wants, osem, M.run_bind, M.mapL, M.run, M.ok, M.fresh, M.write, M.look, M.lift, putD, Arb.set, ev, Arb.get, keepFr, bin, intBin, strBin, mk, params, cellsM, load, obRead, fadr, fld, isl, iarr, xarr, idx, len, valid, slc, bound, store, splice, nilc, un, eqs, eq0, evalFeet, footOf, M.foot, orderOk, apartAll, apart1, clash, meets, callM, fcallM, callee, fz1, fzC, fz, flat, flat1, flat0, flatI, Option.bind_some, putAll, M.bind, filt, B.enc_len, B.enc_at x hi, B.enc_at y hi, hi0, hi1, hi2, hi3, hs, ht, hullHp]) ?_
    refine Wp.seq (Wp.seq ?_)
    by_cases hn : s.i.length ≠ 1 ∨ t.i.length ≠ 1
    · rw [hull1_ne hn]
      refine Wp.rgn (K := 0) (s' := ⟨[(0, filt [x]), (7, .iv (.int .i64 i)), (8, .ref 2472 0 0 0), (9, .ref 2536 0 0 0), (39, .iv (.bool true))], hullHp s [.iv (.bool t.a), .iv (.sl 2 (t.i.map rng)), .iv (.bool t.c), .iv (.sl 1 (t.s.map st1))], 3368⟩) (fun n _ => by
        cases h1 : ((s.i.length : Int) != 1) with
        | true => simp [evalRgn, Option.map_some, evalOps, step, wants, osem, M.run_bind, M.mapL, M.run, M.ok, M.fresh, M.write, M.look, M.lift, putD, Arb.set, ev, Arb.get, keepFr, bin, intBin, strBin, mk, params, cellsM, load, obRead, fadr, fld, isl, iarr, xarr, idx, len, valid, slc, bound, store, splice, nilc, un, eqs, eq0, evalFeet, footOf, M.foot, orderOk, apartAll, apart1, clash, meets, callM, fcallM, callee, fz1, fzC, fz, flat, flat1, flat0, flatI, Option.bind_some, putAll, M.bind, hullHp, h1]
        | false =>
          have h2 : ((t.i.length : Int) != 1) = true := by simp at h1 hn ⊢; omega
          simp [evalRgn, Option.map_some, evalOps, step, wants, osem, M.run_bind, M.mapL, M.run, M.ok, M.fresh, M.write, M.look, M.lift, putD, Arb.set, ev, Arb.get, keepFr, bin, intBin, strBin, mk, params, cellsM, load, obRead, fadr, fld, isl, iarr, xarr, idx, len, valid, slc, bound, store, splice, nilc, un, eqs, eq0, evalFeet, footOf, M.foot, orderOk, apartAll, apart1, clash, meets, callM, fcallM, callee, fz1, fzC, fz, flat, flat1, flat0, flatI, Option.bind_some, putAll, M.bind, hullHp, h1, h2]) ?_
      refine Wp.cond rfl (Wp.seq ?_)
      refine Wp.rgn (K := 0) (fun n _ => by simp [evalRgn, Option.map_some, evalOps, step, wants, osem, M.run_bind, M.mapL, M.run, M.ok, M.fresh, M.write, M.look, M.lift, putD, Arb.set, ev, Arb.get, keepFr, bin, intBin, strBin, mk, params, cellsM, load, obRead, fadr, fld, isl, iarr, xarr, idx, len, valid, slc, bound, store, splice, nilc, un, eqs, eq0, evalFeet, footOf, M.foot, orderOk, apartAll, apart1, clash, meets, callM, fcallM, callee, fz1, fzC, fz, flat, flat1, flat0, flatI, Option.bind_some, putAll, M.bind, hullHp]; rfl) ?_
      exact Wp.ret rfl
    · obtain ⟨p, hp⟩ : ∃ p, s.i = [p] := List.length_eq_one_iff.1 (by omega)
      obtain ⟨q, hq⟩ : ∃ q, t.i = [q] := List.length_eq_one_iff.1 (by omega)
      have hh : hull1 x s t i = if !sameS s ⟨t.a, [p], t.c, t.s⟩ then ([], 0, false) else if decide (q.1 < p.1) then hull2 x s i q p else hull2 x s i p q := by unfold hull1; rw [hp, hq]
      rw [hh]
      refine Wp.rgn (K := 0) (s' := ⟨[(0, filt [x]), (7, .iv (.int .i64 i)), (8, .ref 2472 0 0 0), (9, .ref 2536 0 0 0), (39, .iv (.bool false))], hullHp s [.iv (.bool t.a), .iv (.sl 2 (t.i.map rng)), .iv (.bool t.c), .iv (.sl 1 (t.s.map st1))], 3368⟩) (fun n _ => by simp [evalRgn, Option.map_some, evalOps, step, wants, osem, M.run_bind, M.mapL, M.run, M.ok, M.fresh, M.write, M.look, M.lift, putD, Arb.set, ev, Arb.get, keepFr, bin, intBin, strBin, mk, params, cellsM, load, obRead, fadr, fld, isl, iarr, xarr, idx, len, valid, slc, bound, store, splice, nilc, un, eqs, eq0, evalFeet, footOf, M.foot, orderOk, apartAll, apart1, clash, meets, callM, fcallM, callee, fz1, fzC, fz, flat, flat1, flat0, flatI, Option.bind_some, putAll, M.bind, hullHp, hp, hq]) ?_
      refine Wp.cond rfl (Wp.skip (Wp.seq ?_))
      refine Wp.rgn (K := 0) (s' := ⟨[(0, filt [x]), (7, .iv (.int .i64 i)), (8, .ref 2472 0 0 0), (9, .ref 2536 0 0 0), (10, .ref 3880 0 0 0), (11, .ref 3944 0 0 0)], hullHp s [.iv (.bool t.a), .iv (.sl 2 (t.i.map rng)), .iv (.bool t.c), .iv (.sl 1 (t.s.map st1))] ++ [(3880, .cells (cellsR p)), (3944, .cells (cellsR q))], 4136⟩) (fun n _ => by simp [evalRgn, Option.map_some, evalOps, step, wants, osem, M.run_bind, M.mapL, M.run, M.ok, M.fresh, M.write, M.look, M.lift, putD, Arb.set, ev, Arb.get, keepFr, bin, intBin, strBin, mk, params, cellsM, load, obRead, fadr, fld, isl, iarr, xarr, idx, len, valid, slc, bound, store, splice, nilc, un, eqs, eq0, evalFeet, footOf, M.foot, orderOk, apartAll, apart1, clash, meets, callM, fcallM, callee, fz1, fzC, fz, flat, flat1, flat0, flatI, Option.bind_some, putAll, M.bind, hullHp, hp, hq, rng, cellsR]) ?_
      refine Wp.seq (Wp.seq ?_)
      refine Wp.rgn (K := 0) (s' := ⟨[(0, filt [x]), (7, .iv (.int .i64 i)), (8, .ref 2472 0 0 0), (9, .ref 2536 0 0 0), (10, .ref 3880 0 0 0), (11, .ref 3944 0 0 0)], hullHp s [.iv (.bool t.a), .iv (.sl 2 [rng p]), .iv (.bool t.c), .iv (.sl 1 (t.s.map st1))] ++ [(3880, .cells (cellsR p)), (3944, .cells (cellsR q))], 4392⟩) (fun n _ => by simp [evalRgn, Option.map_some, evalOps, step, wants, osem, M.run_bind, M.mapL, M.run, M.ok, M.fresh, M.write, M.look, M.lift, putD, Arb.set, ev, Arb.get, keepFr, bin, intBin, strBin, mk, params, cellsM, load, obRead, fadr, fld, isl, iarr, xarr, idx, len, valid, slc, bound, store, splice, nilc, un, eqs, eq0, evalFeet, footOf, M.foot, orderOk, apartAll, apart1, clash, meets, callM, fcallM, callee, fz1, fzC, fz, flat, flat1, flat0, flatI, Option.bind_some, putAll, M.bind, hullHp, hp, hq]) ?_
      refine Wp.seq ?_
      obtain ⟨K2, hK2⟩ := p_sameS H.h32 H.h33 H.h17 s ⟨t.a, [p], t.c, t.s⟩ (by unfold maxLen; omega) (by unfold maxLen; omega)
      refine Wp.rgn (K := K2) (s' := ⟨[(0, filt [x]), (7, .iv (.int .i64 i)), (8, .ref 2472 0 0 0), (10, .ref 3880 0 0 0), (11, .ref 3944 0 0 0), (54, .iv (.bool (!sameS s ⟨t.a, [p], t.c, t.s⟩)))], hullHp s [.iv (.bool t.a), .iv (.sl 2 [rng p]), .iv (.bool t.c), .iv (.sl 1 (t.s.map st1))] ++ [(3880, .cells (cellsR p)), (3944, .cells (cellsR q))], 4648⟩) (fun n hn => by
        have e2 := hK2 n hn
        simp only [S.av, hp, List.map_cons, List.map_nil] at e2
        generalize evalF prog n = g at e2
        simp [evalRgn, Option.map_some, evalOps, step, wants, osem, M.run_bind, M.mapL, M.run, M.ok, M.fresh, M.write, M.look, M.lift, putD, Arb.set, ev, Arb.get, keepFr, bin, intBin, strBin, mk, params, cellsM, load, obRead, fadr, fld, isl, iarr, xarr, idx, len, valid, slc, bound, store, splice, nilc, un, eqs, eq0, evalFeet, footOf, M.foot, orderOk, apartAll, apart1, clash, meets, callM, fcallM, callee, fz1, fzC, fz, flat, flat1, flat0, flatI, Option.bind_some, putAll, M.bind, hullHp, hp, hq, e2]) ?_
      refine Wp.cond rfl ?_
      cases hsm : sameS s ⟨t.a, [p], t.c, t.s⟩ with
      | false =>
        refine Wp.seq ?_
        refine Wp.rgn (K := 0) (fun n _ => by simp [evalRgn, Option.map_some, evalOps, step, wants, osem, M.run_bind, M.mapL, M.run, M.ok, M.fresh, M.write, M.look, M.lift, putD, Arb.set, ev, Arb.get, keepFr, bin, intBin, strBin, mk, params, cellsM, load, obRead, fadr, fld, isl, iarr, xarr, idx, len, valid, slc, bound, store, splice, nilc, un, eqs, eq0, evalFeet, footOf, M.foot, orderOk, apartAll, apart1, clash, meets, callM, fcallM, callee, fz1, fzC, fz, flat, flat1, flat0, flatI, Option.bind_some, putAll, M.bind, hullHp]; rfl) ?_
        exact Wp.ret rfl
      | true =>
        refine Wp.skip (Wp.seq (Wp.seq ?_))
        refine Wp.rgn (K := 0) (s' := ⟨[(0, filt [x]), (7, .iv (.int .i64 i)), (8, .ref 2472 0 0 0), (10, .ref 3880 0 0 0), (11, .ref 3944 0 0 0), (59, .iv (.bool (decide (q.1 < p.1))))], hullHp s [.iv (.bool t.a), .iv (.sl 2 [rng p]), .iv (.bool t.c), .iv (.sl 1 (t.s.map st1))] ++ [(3880, .cells (cellsR p)), (3944, .cells (cellsR q))], 4968⟩) (fun n _ => by simp [evalRgn, Option.map_some, evalOps, step, wants, osem, M.run_bind, M.mapL, M.run, M.ok, M.fresh, M.write, M.look, M.lift, putD, Arb.set, ev, Arb.get, keepFr, bin, intBin, strBin, mk, params, cellsM, load, obRead, fadr, fld, isl, iarr, xarr, idx, len, valid, slc, bound, store, splice, nilc, un, eqs, eq0, evalFeet, footOf, M.foot, orderOk, apartAll, apart1, clash, meets, callM, fcallM, callee, fz1, fzC, fz, flat, flat1, flat0, flatI, Option.bind_some, putAll, M.bind, hullHp, hp, hq, cellsR]) ?_
        refine Wp.mono (Q := fun e s' => e = .norm ∧ ∃ p' q', (if decide (q.1 < p.1) then hull2 x s i q p else hull2 x s i p q) = hull2 x s i p' q' ∧ ∃ nx ex, (nx = 4968 ∧ ex = [(59, .iv (.bool false))] ∨ nx = 5224 ∧ ex = []) ∧
          s' = ⟨[(0, filt [x]), (7, .iv (.int .i64 i)), (8, .ref 2472 0 0 0), (10, .ref 3880 0 0 0), (11, .ref 3944 0 0 0)] ++ ex, hullHp s [.iv (.bool t.a), .iv (.sl 2 [rng p]), .iv (.bool t.c), .iv (.sl 1 (t.s.map st1))] ++ [(3880, .cells (cellsR p')), (3944, .cells (cellsR q'))], nx⟩) ?_ ?_
        · refine Wp.cond rfl ?_
          cases hlt : decide (q.1 < p.1) with
          | true =>
            refine Wp.rgn (K := 0) (s' := ⟨[(0, filt [x]), (7, .iv (.int .i64 i)), (8, .ref 2472 0 0 0), (10, .ref 3880 0 0 0), (11, .ref 3944 0 0 0)], hullHp s [.iv (.bool t.a), .iv (.sl 2 [rng p]), .iv (.bool t.c), .iv (.sl 1 (t.s.map st1))] ++ [(3880, .cells (cellsR q)), (3944, .cells (cellsR p))], 5224⟩) (fun n _ => by simp [evalRgn, Option.map_some, evalOps, step, wants, osem, M.run_bind, M.mapL, M.run, M.ok, M.fresh, M.write, M.look, M.lift, putD, Arb.set, ev, Arb.get, keepFr, bin, intBin, strBin, mk, params, cellsM, load, obRead, fadr, fld, isl, iarr, xarr, idx, len, valid, slc, bound, store, splice, nilc, un, eqs, eq0, evalFeet, footOf, M.foot, orderOk, apartAll, apart1, clash, meets, callM, fcallM, callee, fz1, fzC, fz, flat, flat1, flat0, flatI, Option.bind_some, putAll, M.bind, hullHp, cellsR]) ⟨rfl, q, p, rfl, 5224, [], .inr ⟨rfl, rfl⟩, rfl⟩
          | false =>
            exact Wp.skip ⟨rfl, p, q, rfl, 4968, [(59, .iv (.bool false))], .inl ⟨rfl, rfl⟩, rfl⟩
        · rintro e s' ⟨rfl, p', q', hpq, nx, ex, hnx, rfl⟩
          simp only [Ex.then, Bool.not_true, Bool.false_eq_true, if_false]
          rw [hpq]
          obtain ⟨K3, hK3⟩ := p_between H.h18 p' q'
          obtain ⟨K4, hK4⟩ := p_with H.h19 x ⟨s.a, [(p'.1, q'.2)], s.c, s.s⟩ hi
          unfold hull2
          rcases hnx with ⟨rfl, rfl⟩ | ⟨rfl, rfl⟩
          all_goals
            refine Wp.seq (Wp.seq ?_)
            refine Wp.rgn (K := K3) (s' := ⟨[(0, filt [x]), (5, .iv (.int .u64 (between p' q').1)), (6, .iv (.bool (between p' q').2)), (7, .iv (.int .i64 i)), (8, .ref 2472 0 0 0), (10, .ref 3880 0 0 0), (11, .ref 3944 0 0 0)], hullHp s [.iv (.bool t.a), .iv (.sl 2 [rng p]), .iv (.bool t.c), .iv (.sl 1 (t.s.map st1))] ++ [(3880, .cells (cellsR p')), (3944, .cells (cellsR q'))], _⟩) (fun n hn => by
              have e3 := hK3 n hn
              generalize evalF prog n = g at e3
              simp [evalRgn, Option.map_some, evalOps, step, wants, osem, M.run_bind, M.mapL, M.run, M.ok, M.fresh, M.write, M.look, M.lift, putD, Arb.set, ev, Arb.get, keepFr, bin, intBin, strBin, mk, params, cellsM, load, obRead, fadr, fld, isl, iarr, xarr, idx, len, valid, slc, bound, store, splice, nilc, un, eqs, eq0, evalFeet, footOf, M.foot, orderOk, apartAll, apart1, clash, meets, callM, fcallM, callee, fz1, fzC, fz, flat, flat1, flat0, flatI, Option.bind_some, putAll, M.bind, hullHp, cellsR, e3]
              rfl) ?_
            refine Wp.seq ?_
            refine Wp.rgn (K := 0) (s' := ⟨[(0, filt [x]), (5, .iv (.int .u64 (between p' q').1)), (7, .iv (.int .i64 i)), (8, .ref 2472 0 0 0), (10, .ref 3880 0 0 0), (11, .ref 3944 0 0 0), (77, .iv (.bool (!(between p' q').2 || IntKind.wrap .i64 (p'.2 + 1) == q'.1)))], hullHp s [.iv (.bool t.a), .iv (.sl 2 [rng p]), .iv (.bool t.c), .iv (.sl 1 (t.s.map st1))] ++ [(3880, .cells (cellsR p')), (3944, .cells (cellsR q'))], _⟩) (fun n hn => by
              cases hb : (between p' q').2 <;> simp [evalRgn, Option.map_some, evalOps, step, wants, osem, M.run_bind, M.mapL, M.run, M.ok, M.fresh, M.write, M.look, M.lift, putD, Arb.set, ev, Arb.get, keepFr, bin, intBin, strBin, mk, params, cellsM, load, obRead, fadr, fld, isl, iarr, xarr, idx, len, valid, slc, bound, store, splice, nilc, un, eqs, eq0, evalFeet, footOf, M.foot, orderOk, apartAll, apart1, clash, meets, callM, fcallM, callee, fz1, fzC, fz, flat, flat1, flat0, flatI, Option.bind_some, putAll, M.bind, hullHp, cellsR] <;> rfl) ?_
            refine Wp.cond rfl ?_
            cases hc : !(between p' q').2 || IntKind.wrap .i64 (p'.2 + 1) == q'.1 with
            | true =>
              refine Wp.seq ?_
              refine Wp.rgn (K := 0) (fun n _ => by simp [evalRgn, Option.map_some, evalOps, step, wants, osem, M.run_bind, M.mapL, M.run, M.ok, M.fresh, M.write, M.look, M.lift, putD, Arb.set, ev, Arb.get, keepFr, bin, intBin, strBin, mk, params, cellsM, load, obRead, fadr, fld, isl, iarr, xarr, idx, len, valid, slc, bound, store, splice, nilc, un, eqs, eq0, evalFeet, footOf, M.foot, orderOk, apartAll, apart1, clash, meets, callM, fcallM, callee, fz1, fzC, fz, flat, flat1, flat0, flatI, Option.bind_some, putAll, M.bind, hullHp]; rfl) ?_
              exact Wp.ret rfl
            | false =>
              refine Wp.skip (Wp.seq ?_)
              refine Wp.rgn (K := 0) (fun n _ => by simp [evalRgn, Option.map_some, evalOps, step, wants, osem, M.run_bind, M.mapL, M.run, M.ok, M.fresh, M.write, M.look, M.lift, putD, Arb.set, ev, Arb.get, keepFr, bin, intBin, strBin, mk, params, cellsM, load, obRead, fadr, fld, isl, iarr, xarr, idx, len, valid, slc, bound, store, splice, nilc, un, eqs, eq0, evalFeet, footOf, M.foot, orderOk, apartAll, apart1, clash, meets, callM, fcallM, callee, fz1, fzC, fz, flat, flat1, flat0, flatI, Option.bind_some, putAll, M.bind, hullHp, cellsR, setAll]; rfl) ?_
              refine Wp.seq ?_
              refine Wp.rgn (K := K4) (fun n hn => by
                have e4 := hK4 n hn
                simp only [B.av, S.av, List.map_cons, List.map_nil, rng] at e4
                generalize evalF prog n = g at e4
                simp [evalRgn, Option.map_some, evalOps, step, wants, osem, M.run_bind, M.mapL, M.run, M.ok, M.fresh, M.write, M.look, M.lift, putD, Arb.set, ev, Arb.get, keepFr, bin, intBin, strBin, mk, params, cellsM, load, obRead, fadr, fld, isl, iarr, xarr, idx, len, valid, slc, bound, store, splice, nilc, un, eqs, eq0, evalFeet, footOf, M.foot, orderOk, apartAll, apart1, clash, meets, callM, fcallM, callee, fz1, flat, flat1, flat0, flatI, Option.bind_some, putAll, M.bind, filt, B.enc_len, B.enc_take, B.enc_cs, B.cs_fzC, B.cs_fz, B.cs_len, setAll, e4, fzC_int, fzC_bool, fzC_sl, fzC_own]
                rfl) ?_
              exact Wp.ret rfl
end
end Arb

/-
  ENTRIES.
-/
set_option linter.unusedSimpArgs false
namespace Arb
open Go

def mxU (a b : Int) : Int := if b > a then b else a
/-- two entries, one way -/
def tryF (r : List B × Int × Bool) (sa sb slack : Int) : List B × Int × Bool :=
  if !r.2.2 || decide (slack < addG (mxU sa sb) r.2.1) || addG (mxU sa sb) r.2.1 == 18446744073709551615 then ([], 0, false) else (r.1, addG (mxU sa sb) r.2.1, true)
def perfH (a b : List B) : List B × Int × Bool := ((perfF a b).1, 0, (perfF a b).2)
def entriesF (a b : List B) (sa sb slack : Int) : List B × Int × Bool :=
  if (perfF a b).2 then tryF (perfH a b) sa sb slack else if (hullF a b).2.2 then tryF (hullF a b) sa sb slack else ([], 0, false)
def entry (i : Int) (f : List B) (s : Int) : List IV := [.int .i64 i, .sl 16 (f.map B.enc), .int .u64 s]

structure Lib6 (prog : Nat → Option IFn) : Prop extends Lib5 prog where
  h9 : prog 9 = some F9
  h21 : prog 21 = some F21
  h22 : prog 22 = some F22
  h36 : prog 36 = some F36

section
variable {prog : Nat → Option IFn}

theorem p_perf1 (H : Lib6 prog) (a b : List B) (ha : ∀ x ∈ a, x.fits) (hb : ∀ x ∈ b, x.fits) : Ans prog 21 [filt a, filt b] (.tup [filt (perfH a b).1, .iv (.int .u64 (perfH a b).2.1), .iv (.bool (perfH a b).2.2)]) := by
  obtain ⟨K1, hK1⟩ := p_perfect H.toLib4 a b ha hb
  refine Ans.of H.h21 rfl rfl (Wp.seq ?_)
  refine Wp.rgn (K := 0) (fun n _ => by simp [evalRgn, Option.map_some, evalOps, step, wants, osem, M.run_bind, M.mapL, M.run, M.ok, M.fresh, M.write, M.look, M.lift, putD, Arb.set, ev, Arb.get, keepFr, bin, intBin, strBin, mk, params, cellsM, load, obRead, fadr, fld, isl, iarr, xarr, idx, len, valid, slc, bound, store, splice, nilc, un, eqs, eq0, evalFeet, footOf, M.foot, orderOk, apartAll, apart1, clash, meets, callM, fcallM, callee, fz1, fzC, fz, flat, flat1, flat0, flatI, Option.bind_some, putAll, M.bind]; rfl) ?_
  refine Wp.seq ?_
  refine Wp.rgn (K := K1) (s' := ⟨[(7, filt (perfF a b).1), (8, .iv (.bool (perfF a b).2))], [(1000, .buf 0 16 [])], 1704⟩) (fun n hn => by
    have e1 := hK1 n hn
    simp only [filt] at e1
    generalize evalF prog n = g at e1
    simp [evalRgn, Option.map_some, evalOps, step, wants, osem, M.run_bind, M.mapL, M.run, M.ok, M.fresh, M.write, M.look, M.lift, putD, Arb.set, ev, Arb.get, keepFr, bin, intBin, strBin, mk, params, cellsM, load, obRead, fadr, fld, isl, iarr, xarr, idx, len, valid, slc, bound, store, splice, nilc, un, eqs, eq0, evalFeet, footOf, M.foot, orderOk, apartAll, apart1, clash, meets, callM, fcallM, callee, fz1, fzC, fz, flat, flat1, flat0, flatI, Option.bind_some, putAll, M.bind, filt, e1]) ?_
  refine Wp.seq ?_
  refine Wp.rgn (K := 0) (fun n _ => by simp [evalRgn, Option.map_some, evalOps, step, wants, osem, M.run_bind, M.mapL, M.run, M.ok, M.fresh, M.write, M.look, M.lift, putD, Arb.set, ev, Arb.get, keepFr, bin, intBin, strBin, mk, params, cellsM, load, obRead, fadr, fld, isl, iarr, xarr, idx, len, valid, slc, bound, store, splice, nilc, un, eqs, eq0, evalFeet, footOf, M.foot, orderOk, apartAll, apart1, clash, meets, callM, fcallM, callee, fz1, fzC, fz, flat, flat1, flat0, flatI, Option.bind_some, putAll, M.bind]; rfl) ?_
  exact Wp.ret rfl

set_option maxHeartbeats 4000000 in
theorem p_try (H : Lib6 prog) {h : Nat} {a b : List B} {r : List B × Int × Bool} (hh : Ans prog h [filt a, filt b] (.tup [filt r.1, .iv (.int .u64 r.2.1), .iv (.bool r.2.2)])) (ia ib sa sb slack : Int) :
    Ans prog 22 [.iv (.fn h []), .iv (.ptr (entry ia a sa)), .iv (.ptr (entry ib b sb)), .iv (.int .u64 slack)]
      (.tup [.agg ((entry 0 (tryF r sa sb slack).1 (tryF r sa sb slack).2.1).map .iv), .iv (.bool (tryF r sa sb slack).2.2)]) := by
  obtain ⟨K1, hK1⟩ := hh
  obtain ⟨K2, hK2⟩ := p_addG H.h36 (mxU sa sb) r.2.1
  refine Ans.of H.h22 rfl rfl (Wp.seq ?_)
  refine Wp.rgn (K := 0) (fun n _ => by simp [evalRgn, Option.map_some, evalOps, step, wants, osem, M.run_bind, M.mapL, M.run, M.ok, M.fresh, M.write, M.look, M.lift, putD, Arb.set, ev, Arb.get, keepFr, bin, intBin, strBin, mk, params, cellsM, load, obRead, fadr, fld, isl, iarr, xarr, idx, len, valid, slc, bound, store, splice, nilc, un, eqs, eq0, evalFeet, footOf, M.foot, orderOk, apartAll, apart1, clash, meets, callM, fcallM, callee, fz1, fzC, fz, flat, flat1, flat0, flatI, Option.bind_some, putAll, M.bind]; rfl) ?_
  refine Wp.seq ?_
  refine Wp.rgn (K := K1) (s' := ⟨[(1, .iv (.ptr (entry ia a sa))), (2, .iv (.ptr (entry ib b sb))), (3, .iv (.int .u64 slack)), (8, .ref 1000 0 0 0), (10, filt r.1), (11, .iv (.int .u64 r.2.1)), (12, .iv (.bool r.2.2))], [(1002, .buf 0 16 []), (1000, .cells [.iv (.int .i64 0), .own 1002 0 0 0, .iv (.int .u64 0)])], 2216⟩) (fun n hn => by
    have e1 := hK1 n hn
    simp only [filt] at e1
    generalize evalF prog n = g at e1
    simp [evalRgn, Option.map_some, evalOps, step, wants, osem, M.run_bind, M.mapL, M.run, M.ok, M.fresh, M.write, M.look, M.lift, putD, Arb.set, ev, Arb.get, keepFr, bin, intBin, strBin, mk, params, cellsM, load, obRead, fadr, fld, isl, iarr, xarr, idx, len, valid, slc, bound, store, splice, nilc, un, eqs, eq0, evalFeet, footOf, M.foot, orderOk, apartAll, apart1, clash, meets, callM, fcallM, callee, fz1, fzC, fz, flat, flat1, flat0, flatI, Option.bind_some, putAll, M.bind, filt, entry, e1]) ?_
  refine Wp.seq ?_
  refine Wp.rgn (K := K2) (s' := ⟨[(3, .iv (.int .u64 slack)), (8, .ref 1000 0 0 0), (10, filt r.1), (11, .iv (.int .u64 (addG (mxU sa sb) r.2.1))), (12, .iv (.bool r.2.2))], [(1002, .buf 0 16 []), (1000, .cells [.iv (.int .i64 0), .own 1002 0 0 0, .iv (.int .u64 0)])], 2984⟩) (fun n hn => by
    have e1 := hK2 n hn
    simp only [mxU] at e1 ⊢
    generalize evalF prog n = g at e1
    simp [evalRgn, Option.map_some, evalOps, step, wants, osem, M.run_bind, M.mapL, M.run, M.ok, M.fresh, M.write, M.look, M.lift, putD, Arb.set, ev, Arb.get, keepFr, bin, intBin, strBin, mk, params, cellsM, load, obRead, fadr, fld, isl, iarr, xarr, idx, len, valid, slc, bound, store, splice, nilc, un, eqs, eq0, evalFeet, footOf, M.foot, orderOk, apartAll, apart1, clash, meets, callM, fcallM, callee, fz1, fzC, fz, flat, flat1, flat0, flatI, Option.bind_some, putAll, M.bind, filt, entry, mxI, e1]) ?_
  unfold tryF
  generalize addG (mxU sa sb) r.2.1 = far
  refine Wp.seq (Wp.seq ?_)
  refine Wp.rgn (K := 0) (s' := ⟨[(8, .ref 1000 0 0 0), (10, filt r.1), (11, .iv (.int .u64 far)), (48, .iv (.bool (!r.2.2 || decide (slack < far) || far == 18446744073709551615)))], [(1002, .buf 0 16 []), (1000, .cells [.iv (.int .i64 0), .own 1002 0 0 0, .iv (.int .u64 0)])], 3688⟩) (fun n hn => by
    cases h1 : r.2.2 <;> cases h2 : decide (slack < far) <;> simp [evalRgn, Option.map_some, evalOps, step, wants, osem, M.run_bind, M.mapL, M.run, M.ok, M.fresh, M.write, M.look, M.lift, putD, Arb.set, ev, Arb.get, keepFr, bin, intBin, strBin, mk, params, cellsM, load, obRead, fadr, fld, isl, iarr, xarr, idx, len, valid, slc, bound, store, splice, nilc, un, eqs, eq0, evalFeet, footOf, M.foot, orderOk, apartAll, apart1, clash, meets, callM, fcallM, callee, fz1, fzC, fz, flat, flat1, flat0, flatI, Option.bind_some, putAll, M.bind, filt, h1, h2]) ?_
  refine Wp.cond rfl ?_
  cases hc : !r.2.2 || decide (slack < far) || far == 18446744073709551615 with
  | true =>
    refine Wp.seq ?_
    refine Wp.rgn (K := 0) (fun n _ => by simp [evalRgn, Option.map_some, evalOps, step, wants, osem, M.run_bind, M.mapL, M.run, M.ok, M.fresh, M.write, M.look, M.lift, putD, Arb.set, ev, Arb.get, keepFr, bin, intBin, strBin, mk, params, cellsM, load, obRead, fadr, fld, isl, iarr, xarr, idx, len, valid, slc, bound, store, splice, nilc, un, eqs, eq0, evalFeet, footOf, M.foot, orderOk, apartAll, apart1, clash, meets, callM, fcallM, callee, fz1, fzC, fz, flat, flat1, flat0, flatI, Option.bind_some, putAll, M.bind]; rfl) ?_
    exact Wp.ret rfl
  | false =>
    refine Wp.skip (Wp.seq ?_)
    refine Wp.rgn (K := 0) (fun n _ => by simp [evalRgn, Option.map_some, evalOps, step, wants, osem, M.run_bind, M.mapL, M.run, M.ok, M.fresh, M.write, M.look, M.lift, putD, Arb.set, ev, Arb.get, keepFr, bin, intBin, strBin, mk, params, cellsM, load, obRead, fadr, fld, isl, iarr, xarr, idx, len, valid, slc, bound, store, splice, nilc, un, eqs, eq0, evalFeet, footOf, M.foot, orderOk, apartAll, apart1, clash, meets, callM, fcallM, callee, fz1, fzC, fz, flat, flat1, flat0, flatI, Option.bind_some, putAll, M.bind, filt]; rfl) ?_
    exact Wp.ret rfl

def howN (i : Nat) : Nat := if i = 0 then 21 else 7
def howR (a b : List B) (i : Nat) : List B × Int × Bool := if i = 0 then perfH a b else hullF a b

end
end Arb

/-
  WHAT COMES IN, as plain lists.
-/
set_option linter.unusedSimpArgs false
namespace Arb
open Go

def in64 (n : Int) : Prop := -9223372036854775808 ≤ n ∧ n ≤ 9223372036854775807
structure S.ok (s : S) : Prop where
  li : s.i.length ≤ maxLen
  ls : s.s.length ≤ maxLen
  ri : ∀ p ∈ s.i, in64 p.1 ∧ in64 p.2
  rs : ∀ t ∈ s.s, t.size ≤ maxLen
def B.ok (b : B) : Prop := b.s0.ok ∧ b.s1.ok ∧ b.s2.ok ∧ b.s3.ok
theorem B.ok.at {b : B} (h : b.ok) {i : Nat} (hi : i < 4) : (b.get i).ok := by
  match i, hi with
  | 0, _ => exact h.1
  | 1, _ => exact h.2.1
  | 2, _ => exact h.2.2.1
  | 3, _ => exact h.2.2.2
theorem B.ok.fits {b : B} (h : b.ok) : b.fits := fun _ hi => ⟨(h.at hi).li, (h.at hi).ls⟩

theorem rows_map {α : Type} (f : α → List IV) (P : α → Prop) : ∀ rows : List (List IV), (∀ r ∈ rows, ∃ a, r = f a ∧ P a) → ∃ l : List α, rows = l.map f ∧ ∀ a ∈ l, P a
  | [], _ => ⟨[], rfl, fun a h => by cases h⟩
  | r :: rows, h => by
    obtain ⟨a, rfl, ha⟩ := h r (List.mem_cons_self ..)
    obtain ⟨l, rfl, hl⟩ := rows_map f P rows fun r' h' => h r' (List.mem_cons_of_mem _ h')
    exact ⟨a :: l, rfl, fun b hb => (List.mem_cons.1 hb).elim (fun e => e ▸ ha) (hl b)⟩
theorem FitsL.split : ∀ {ss ts : List Sh} {xs : List IV}, FitsL (ss ++ ts) xs → ∃ a b, xs = a ++ b ∧ FitsL ss a ∧ FitsL ts b
  | [], _, xs, h => ⟨[], xs, rfl, trivial, h⟩
  | _ :: _, _, [], h => h.elim
  | _ :: _, _, x :: xs, h => by
    obtain ⟨a, b, rfl, ha, hb⟩ := FitsL.split h.2
    exact ⟨x :: a, b, rfl, ⟨h.1, ha⟩, hb⟩
theorem wf64 {n : Int} (h : (Lit.int .i64 n).wf = true) : in64 n := by
  simp only [Lit.wf, Bool.and_eq_true, decide_eq_true_eq] at h
  rw [show IntKind.i64.min = -9223372036854775808 by decide, show IntKind.i64.max = 9223372036854775807 by decide] at h
  exact h

theorem fit_int {k : IntKind} {x : IV} (h : Fits (.int k) x) : ∃ n, x = .int k n ∧ (Lit.int k n).wf = true := h
theorem fit_str {x : IV} (h : Fits .str x) : ∃ s, x = .str s ∧ s.size ≤ maxLen := h
theorem fit_bool {x : IV} (h : Fits .bool x) : ∃ s, x = .bool s := h
theorem fit_sl {es : List Sh} {x : IV} (h : Fits (.sl es) x) : ∃ rows, x = .sl es.length rows ∧ rows.length ≤ maxLen ∧ ∀ r ∈ rows, FitsL es r := h
theorem FitsL.one {a : Sh} {ss : List Sh} : ∀ {xs : List IV}, FitsL (a :: ss) xs → ∃ x r, xs = x :: r ∧ Fits a x ∧ FitsL ss r
  | [], h => h.elim
  | x :: r, h => ⟨x, r, rfl, h.1, h.2⟩
theorem FitsL.none : ∀ {xs : List IV}, FitsL [] xs → xs = []
  | [], _ => rfl
  | _ :: _, h => h.elim
theorem fit_rng {r : List IV} (h : FitsL [.int .i64, .int .i64] r) : ∃ p, r = rng p ∧ (in64 p.1 ∧ in64 p.2) := by
  obtain ⟨x, r, rfl, hx, h⟩ := h.one
  obtain ⟨y, r, rfl, hy, h⟩ := h.one
  obtain rfl := h.none
  obtain ⟨n, rfl, hn⟩ := fit_int hx
  obtain ⟨m, rfl, hm⟩ := fit_int hy
  exact ⟨(n, m), rfl, wf64 hn, wf64 hm⟩
theorem fit_st1 {r : List IV} (h : FitsL [.str] r) : ∃ p, r = st1 p ∧ p.size ≤ maxLen := by
  obtain ⟨x, r, rfl, hx, h⟩ := h.one
  obtain rfl := h.none
  obtain ⟨n, rfl, hn⟩ := fit_str hx
  exact ⟨n, rfl, hn⟩
theorem fit_set {xs : List IV} (h : FitsL shSet xs) : ∃ s : S, xs = s.enc ∧ s.ok := by
  obtain ⟨a, _, rfl, ha, h⟩ := h.one
  obtain ⟨b, _, rfl, hb, h⟩ := h.one
  obtain ⟨c, _, rfl, hc, h⟩ := h.one
  obtain ⟨d, _, rfl, hd, h⟩ := h.one
  obtain rfl := h.none
  obtain ⟨va, rfl⟩ := fit_bool ha
  obtain ⟨vc, rfl⟩ := fit_bool hc
  obtain ⟨rows, rfl, hr1, hr2⟩ := fit_sl hb
  obtain ⟨strs, rfl, hs1, hs2⟩ := fit_sl hd
  obtain ⟨l, rfl, hl⟩ := rows_map rng (fun p => in64 p.1 ∧ in64 p.2) rows fun r hr => fit_rng (hr2 r hr)
  obtain ⟨t, rfl, ht⟩ := rows_map st1 (fun p => p.size ≤ maxLen) strs fun r hr => fit_st1 (hs2 r hr)
  exact ⟨⟨va, l, vc, t⟩, rfl, by rwa [List.length_map] at hr1, by rwa [List.length_map] at hs1, hl, ht⟩
theorem fit_box {xs : List IV} (h : FitsL shBox xs) : ∃ b : B, xs = b.enc ∧ b.ok := by
  obtain ⟨_, r1, rfl, h0, h⟩ := FitsL.split h
  obtain ⟨_, r2, rfl, h1, h⟩ := FitsL.split h
  obtain ⟨_, _, rfl, h2, h3⟩ := FitsL.split h
  obtain ⟨s0, rfl, k0⟩ := fit_set h0
  obtain ⟨s1, rfl, k1⟩ := fit_set h1
  obtain ⟨s2, rfl, k2⟩ := fit_set h2
  obtain ⟨s3, rfl, k3⟩ := fit_set h3
  exact ⟨⟨s0, s1, s2, s3⟩, rfl, k0, k1, k2, k3⟩
theorem fit_filter {x : IV} (h : Fits (.sl shBox) x) : ∃ l : List B, x = .sl 16 (l.map B.enc) ∧ l.length ≤ maxLen ∧ ∀ b ∈ l, b.ok := by
  obtain ⟨rows, rfl, h1, h2⟩ := fit_sl h
  obtain ⟨l, rfl, hl⟩ := rows_map B.enc B.ok rows fun r hr => fit_box (h2 r hr)
  exact ⟨l, rfl, by rwa [List.length_map] at h1, hl⟩
theorem sameS_iff {x y : S} : sameS x y = true ↔ x = y := by
  constructor
  · intro h
    simp only [sameS, Bool.and_eq_true, beq_iff_eq, decide_eq_true_eq] at h
    obtain ⟨h1, h2, h3, h4⟩ := h
    cases x; cases y; simp_all
  · rintro rfl; simp [sameS]
end Arb

/-
  MAY SETS BE GONE OVER?
-/
set_option linter.unusedSimpArgs false
namespace Arb
open Go

section
variable {prog : Nat → Option IFn}

def fewS (x : S) : Bool := decide (x.i.length ≤ 40) && decide (x.s.length ≤ 40) && x.s.all fun t => decide (t.size ≤ 100)

theorem p_few3 (h : prog 27 = some F27) (l : List S) (hl : l.length ≤ maxLen) : Ans prog 27 [sets l] (.iv (.bool (l.all fewS))) := by
  refine Ans.of h rfl rfl (Wp.seq ?_)
  refine Wp.rgn (K := 0) (fun n _ => by simp [evalRgn, Option.map_some, evalOps, step, wants, osem, M.run_bind, M.mapL, M.run, M.ok, M.fresh, M.write, M.look, M.lift, putD, Arb.set, ev, Arb.get, keepFr, bin, intBin, strBin, mk, params, cellsM, load, obRead, fadr, fld, isl, iarr, xarr, idx, len, valid, slc, bound, store, splice, nilc, un, eqs, eq0, evalFeet, footOf, M.foot, orderOk, apartAll, apart1, clash, meets, callM, fcallM, callee, fz1, fzC, fz, flat, flat1, flat0, flatI, Option.bind_some, putAll, M.bind]; rfl) ?_
  refine Wp.seq (Wp.seq ?_)
  refine Wp.rgn (K := 0) (fun n _ => by simp [evalRgn, Option.map_some, evalOps, step, wants, osem, M.run_bind, M.mapL, M.run, M.ok, M.fresh, M.write, M.look, M.lift, putD, Arb.set, ev, Arb.get, keepFr, bin, intBin, strBin, mk, params, cellsM, load, obRead, fadr, fld, isl, iarr, xarr, idx, len, valid, slc, bound, store, splice, nilc, un, eqs, eq0, evalFeet, footOf, M.foot, orderOk, apartAll, apart1, clash, meets, callM, fcallM, callee, fz1, fzC, fz, flat, flat1, flat0, flatI, Option.bind_some, putAll, M.bind]; rfl) ?_
  refine Wp.block ?_
  refine Wp.range l.length (fun i => ⟨[(0, sets l), (3, .iv (.int .i64 i))], [], 1128⟩) (fun i => (l.take i).all fewS = true) rfl (by simp) ?_ ?_
  · intro i hi hg
    obtain ⟨x, hx⟩ : ∃ x, l[i]? = some x := ⟨_, List.getElem?_eq_getElem hi⟩
    refine Wp.seq (Wp.seq ?_)
    refine Wp.rgn (K := 0) (fun n _ => by simp [evalRgn, Option.map_some, evalOps, step, wants, osem, M.run_bind, M.mapL, M.run, M.ok, M.fresh, M.write, M.look, M.lift, putD, Arb.set, ev, Arb.get, keepFr, bin, intBin, strBin, mk, params, cellsM, load, obRead, fadr, fld, isl, iarr, xarr, idx, len, valid, slc, bound, store, splice, nilc, un, eqs, eq0, evalFeet, footOf, M.foot, orderOk, apartAll, apart1, clash, meets, callM, fcallM, callee, fz1, fzC, fz, flat, flat1, flat0, flatI, Option.bind_some, putAll, M.bind, sets, hi]; rfl) ?_
    refine Wp.cond rfl (Wp.skip (Wp.seq (Wp.block (Wp.seq (Wp.seq ?_)))))
    refine Wp.rgn (K := 0) (s' := ⟨[(0, sets l), (3, .iv (.int .i64 i)), (26, .iv (.bool (decide ((40 : Int) < x.i.length) || decide ((40 : Int) < x.s.length))))], [], 2408⟩) (fun n hn => by
      cases h1 : decide ((40 : Int) < x.i.length) <;> simp [evalRgn, Option.map_some, evalOps, step, wants, osem, M.run_bind, M.mapL, M.run, M.ok, M.fresh, M.write, M.look, M.lift, putD, Arb.set, ev, Arb.get, keepFr, bin, intBin, strBin, mk, params, cellsM, load, obRead, fadr, fld, isl, iarr, xarr, idx, len, valid, slc, bound, store, splice, nilc, un, eqs, eq0, evalFeet, footOf, M.foot, orderOk, apartAll, apart1, clash, meets, callM, fcallM, callee, fz1, fzC, fz, flat, flat1, flat0, flatI, Option.bind_some, putAll, M.bind, sets, hx, S.enc, h1]) ?_
    refine Wp.cond rfl ?_
    cases hb : decide ((40 : Int) < x.i.length) || decide ((40 : Int) < x.s.length) with
    | true =>
      refine Wp.seq ?_
      refine Wp.rgn (K := 0) (fun n _ => by simp [evalRgn, Option.map_some, evalOps, step, wants, osem, M.run_bind, M.mapL, M.run, M.ok, M.fresh, M.write, M.look, M.lift, putD, Arb.set, ev, Arb.get, keepFr, bin, intBin, strBin, mk, params, cellsM, load, obRead, fadr, fld, isl, iarr, xarr, idx, len, valid, slc, bound, store, splice, nilc, un, eqs, eq0, evalFeet, footOf, M.foot, orderOk, apartAll, apart1, clash, meets, callM, fcallM, callee, fz1, fzC, fz, flat, flat1, flat0, flatI, Option.bind_some, putAll, M.bind]; rfl) ?_
      refine Wp.ret ?_
      have : l.all fewS = false := all_false hx (by
        simp only [Bool.or_eq_true, decide_eq_true_eq] at hb
        simp only [fewS, Bool.and_eq_false_iff, decide_eq_false_iff_not]
        omega)
      rw [this]; rfl
    | false =>
      simp only [Bool.or_eq_false_iff, decide_eq_false_iff_not] at hb
      refine Wp.skip (Wp.seq ?_)
      refine Wp.rgn (K := 0) (fun n _ => by simp [evalRgn, Option.map_some, evalOps, step, wants, osem, M.run_bind, M.mapL, M.run, M.ok, M.fresh, M.write, M.look, M.lift, putD, Arb.set, ev, Arb.get, keepFr, bin, intBin, strBin, mk, params, cellsM, load, obRead, fadr, fld, isl, iarr, xarr, idx, len, valid, slc, bound, store, splice, nilc, un, eqs, eq0, evalFeet, footOf, M.foot, orderOk, apartAll, apart1, clash, meets, callM, fcallM, callee, fz1, fzC, fz, flat, flat1, flat0, flatI, Option.bind_some, putAll, M.bind]; rfl) ?_
      refine Wp.block ?_
      refine Wp.range x.s.length (fun k => ⟨[(0, sets l), (3, .iv (.int .i64 i)), (4, .iv (.int .i64 k))], [], 2472⟩) (fun k => (x.s.take k).all (fun t => decide (t.size ≤ 100)) = true) rfl (by simp) ?_ ?_
      · intro k hk hgk
        obtain ⟨t, ht⟩ : ∃ t, x.s[k]? = some t := ⟨_, List.getElem?_eq_getElem hk⟩
        refine Wp.seq (Wp.seq ?_)
        refine Wp.rgn (K := 0) (fun n _ => by simp [evalRgn, Option.map_some, evalOps, step, wants, osem, M.run_bind, M.mapL, M.run, M.ok, M.fresh, M.write, M.look, M.lift, putD, Arb.set, ev, Arb.get, keepFr, bin, intBin, strBin, mk, params, cellsM, load, obRead, fadr, fld, isl, iarr, xarr, idx, len, valid, slc, bound, store, splice, nilc, un, eqs, eq0, evalFeet, footOf, M.foot, orderOk, apartAll, apart1, clash, meets, callM, fcallM, callee, fz1, fzC, fz, flat, flat1, flat0, flatI, Option.bind_some, putAll, M.bind, sets, hx, S.enc, hk]; rfl) ?_
        refine Wp.cond rfl (Wp.skip (Wp.seq (Wp.block (Wp.seq ?_))))
        refine Wp.rgn (K := 0) (s' := ⟨[(0, sets l), (3, .iv (.int .i64 i)), (4, .iv (.int .i64 k)), (46, .iv (.bool (decide ((100 : Int) < t.size))))], [], 3624⟩) (fun n hn => by
          simp [evalRgn, Option.map_some, evalOps, step, wants, osem, M.run_bind, M.mapL, M.run, M.ok, M.fresh, M.write, M.look, M.lift, putD, Arb.set, ev, Arb.get, keepFr, bin, intBin, strBin, mk, params, cellsM, load, obRead, fadr, fld, isl, iarr, xarr, idx, len, valid, slc, bound, store, splice, nilc, un, eqs, eq0, evalFeet, footOf, M.foot, orderOk, apartAll, apart1, clash, meets, callM, fcallM, callee, fz1, fzC, fz, flat, flat1, flat0, flatI, Option.bind_some, putAll, M.bind, sets, hx, S.enc, ht, st1]) ?_
        refine Wp.cond rfl ?_
        cases hb2 : decide ((100 : Int) < t.size) with
        | true =>
          refine Wp.seq ?_
          refine Wp.rgn (K := 0) (fun n _ => by simp [evalRgn, Option.map_some, evalOps, step, wants, osem, M.run_bind, M.mapL, M.run, M.ok, M.fresh, M.write, M.look, M.lift, putD, Arb.set, ev, Arb.get, keepFr, bin, intBin, strBin, mk, params, cellsM, load, obRead, fadr, fld, isl, iarr, xarr, idx, len, valid, slc, bound, store, splice, nilc, un, eqs, eq0, evalFeet, footOf, M.foot, orderOk, apartAll, apart1, clash, meets, callM, fcallM, callee, fz1, fzC, fz, flat, flat1, flat0, flatI, Option.bind_some, putAll, M.bind]; rfl) ?_
          refine Wp.ret ?_
          have : l.all fewS = false := all_false hx (by
            simp only [fewS, Bool.and_eq_false_iff]
            exact .inr (all_false ht (by simp only [decide_eq_true_eq, decide_eq_false_iff_not] at hb2 ⊢; omega)))
          rw [this]; rfl
        | false =>
          refine Wp.skip ?_
          refine Wp.rgn (K := 0) (fun n _ => by simp [evalRgn, Option.map_some, evalOps, step, wants, osem, M.run_bind, M.mapL, M.run, M.ok, M.fresh, M.write, M.look, M.lift, putD, Arb.set, ev, Arb.get, keepFr, bin, intBin, strBin, mk, params, cellsM, load, obRead, fadr, fld, isl, iarr, xarr, idx, len, valid, slc, bound, store, splice, nilc, un, eqs, eq0, evalFeet, footOf, M.foot, orderOk, apartAll, apart1, clash, meets, callM, fcallM, callee, fz1, fzC, fz, flat, flat1, flat0, flatI, Option.bind_some, putAll, M.bind]; rfl) ?_
          refine ⟨by simp [again, keepFr, get, nrm, sets, wrap_succ hk (show x.s.length ≤ maxLen by unfold maxLen; omega)], ?_⟩
          rw [take_succ_all ht, hgk]
          simp only [decide_eq_false_iff_not, Bool.true_and, decide_eq_true_eq] at hb2 ⊢
          omega
      · intro hall
        refine Wp.seq (Wp.seq ?_)
        refine Wp.rgn (K := 0) (fun n _ => by simp [evalRgn, Option.map_some, evalOps, step, wants, osem, M.run_bind, M.mapL, M.run, M.ok, M.fresh, M.write, M.look, M.lift, putD, Arb.set, ev, Arb.get, keepFr, bin, intBin, strBin, mk, params, cellsM, load, obRead, fadr, fld, isl, iarr, xarr, idx, len, valid, slc, bound, store, splice, nilc, un, eqs, eq0, evalFeet, footOf, M.foot, orderOk, apartAll, apart1, clash, meets, callM, fcallM, callee, fz1, fzC, fz, flat, flat1, flat0, flatI, Option.bind_some, putAll, M.bind, sets, hx, S.enc]; rfl) ?_
        refine Wp.cond rfl (Wp.exit ?_)
        simp only [Ex.then, Ex.inBlock, if_true]
        refine Wp.rgn (K := 0) (fun n _ => by simp [evalRgn, Option.map_some, evalOps, step, wants, osem, M.run_bind, M.mapL, M.run, M.ok, M.fresh, M.write, M.look, M.lift, putD, Arb.set, ev, Arb.get, keepFr, bin, intBin, strBin, mk, params, cellsM, load, obRead, fadr, fld, isl, iarr, xarr, idx, len, valid, slc, bound, store, splice, nilc, un, eqs, eq0, evalFeet, footOf, M.foot, orderOk, apartAll, apart1, clash, meets, callM, fcallM, callee, fz1, fzC, fz, flat, flat1, flat0, flatI, Option.bind_some, putAll, M.bind]; rfl) ?_
        refine ⟨by simp [again, keepFr, get, nrm, sets, wrap_succ hi hl], ?_⟩
        rw [take_succ_all hx, hg]
        rw [List.take_length] at hall
        simp only [fewS, hall, Bool.and_true, Bool.true_and, Bool.and_eq_true, decide_eq_true_eq]
        omega
  · intro hg
    refine Wp.seq (Wp.seq ?_)
    refine Wp.rgn (K := 0) (fun n _ => by simp [evalRgn, Option.map_some, evalOps, step, wants, osem, M.run_bind, M.mapL, M.run, M.ok, M.fresh, M.write, M.look, M.lift, putD, Arb.set, ev, Arb.get, keepFr, bin, intBin, strBin, mk, params, cellsM, load, obRead, fadr, fld, isl, iarr, xarr, idx, len, valid, slc, bound, store, splice, nilc, un, eqs, eq0, evalFeet, footOf, M.foot, orderOk, apartAll, apart1, clash, meets, callM, fcallM, callee, fz1, fzC, fz, flat, flat1, flat0, flatI, Option.bind_some, putAll, M.bind, sets]; rfl) ?_
    refine Wp.cond rfl (Wp.exit ?_)
    simp only [Ex.then, Ex.inBlock, if_true]
    refine Wp.seq ?_
    refine Wp.rgn (K := 0) (fun n _ => by simp [evalRgn, Option.map_some, evalOps, step, wants, osem, M.run_bind, M.mapL, M.run, M.ok, M.fresh, M.write, M.look, M.lift, putD, Arb.set, ev, Arb.get, keepFr, bin, intBin, strBin, mk, params, cellsM, load, obRead, fadr, fld, isl, iarr, xarr, idx, len, valid, slc, bound, store, splice, nilc, un, eqs, eq0, evalFeet, footOf, M.foot, orderOk, apartAll, apart1, clash, meets, callM, fcallM, callee, fz1, fzC, fz, flat, flat1, flat0, flatI, Option.bind_some, putAll, M.bind]; rfl) ?_
    refine Wp.ret ?_
    rw [List.take_length] at hg
    rw [hg]; rfl

def fewB (b : B) : Bool := fewS b.s0 && (fewS b.s1 && (fewS b.s2 && fewS b.s3))

theorem p_few4 (h27 : prog 27 = some F27) (h : prog 14 = some F14) (l : List B) (hl : l.length ≤ maxLen) : Ans prog 14 [filt l] (.iv (.bool (l.all fewB))) := by
  refine Ans.of h rfl rfl (Wp.seq ?_)
  refine Wp.rgn (K := 0) (fun n _ => by simp [evalRgn, Option.map_some, evalOps, step, wants, osem, M.run_bind, M.mapL, M.run, M.ok, M.fresh, M.write, M.look, M.lift, putD, Arb.set, ev, Arb.get, keepFr, bin, intBin, strBin, mk, params, cellsM, load, obRead, fadr, fld, isl, iarr, xarr, idx, len, valid, slc, bound, store, splice, nilc, un, eqs, eq0, evalFeet, footOf, M.foot, orderOk, apartAll, apart1, clash, meets, callM, fcallM, callee, fz1, fzC, fz, flat, flat1, flat0, flatI, Option.bind_some, putAll, M.bind]; rfl) ?_
  refine Wp.seq (Wp.seq ?_)
  refine Wp.rgn (K := 0) (fun n _ => by simp [evalRgn, Option.map_some, evalOps, step, wants, osem, M.run_bind, M.mapL, M.run, M.ok, M.fresh, M.write, M.look, M.lift, putD, Arb.set, ev, Arb.get, keepFr, bin, intBin, strBin, mk, params, cellsM, load, obRead, fadr, fld, isl, iarr, xarr, idx, len, valid, slc, bound, store, splice, nilc, un, eqs, eq0, evalFeet, footOf, M.foot, orderOk, apartAll, apart1, clash, meets, callM, fcallM, callee, fz1, fzC, fz, flat, flat1, flat0, flatI, Option.bind_some, putAll, M.bind]; rfl) ?_
  refine Wp.block ?_
  refine Wp.range l.length (fun i => ⟨[(0, filt l), (3, .iv (.int .i64 i))], [], 1128⟩) (fun i => (l.take i).all fewB = true) rfl (by simp) ?_ ?_
  · intro i hi hg
    obtain ⟨b, hb⟩ : ∃ b, l[i]? = some b := ⟨_, List.getElem?_eq_getElem hi⟩
    refine Wp.seq (Wp.seq ?_)
    refine Wp.rgn (K := 0) (fun n _ => by simp [evalRgn, Option.map_some, evalOps, step, wants, osem, M.run_bind, M.mapL, M.run, M.ok, M.fresh, M.write, M.look, M.lift, putD, Arb.set, ev, Arb.get, keepFr, bin, intBin, strBin, mk, params, cellsM, load, obRead, fadr, fld, isl, iarr, xarr, idx, len, valid, slc, bound, store, splice, nilc, un, eqs, eq0, evalFeet, footOf, M.foot, orderOk, apartAll, apart1, clash, meets, callM, fcallM, callee, fz1, fzC, fz, flat, flat1, flat0, flatI, Option.bind_some, putAll, M.bind, filt, hi]; rfl) ?_
    refine Wp.cond rfl (Wp.skip (Wp.seq (Wp.block (Wp.seq ?_))))
    obtain ⟨K, hK⟩ := p_few3 h27 [b.s0, b.s1, b.s2, b.s3] (by simp [maxLen])
    refine Wp.rgn (K := K) (s' := ⟨[(0, filt l), (3, .iv (.int .i64 i)), (32, .iv (.bool (!fewB b)))], [(2664, .buf 0 4 [b.s0.enc, b.s1.enc, b.s2.enc, b.s3.enc])], 2856⟩) (fun n hn => by
      have hc := hK n hn
      simp [sets, S.enc] at hc
      simp [evalRgn, Option.map_some, evalOps, step, wants, osem, M.run_bind, M.mapL, M.run, M.ok, M.fresh, M.write, M.look, M.lift, putD, Arb.set, ev, Arb.get, keepFr, bin, intBin, strBin, mk, params, cellsM, load, obRead, fadr, fld, isl, iarr, xarr, idx, len, valid, slc, bound, store, splice, nilc, un, eqs, eq0, evalFeet, footOf, M.foot, orderOk, apartAll, apart1, clash, meets, callM, fcallM, callee, fz1, fzC, fz, flat, flat1, flat0, flatI, Option.bind_some, putAll, M.bind, filt, hb, B.enc, S.enc, setAll, hc, fewB]) ?_
    refine Wp.cond rfl ?_
    cases hbb : fewB b with
    | false =>
      refine Wp.seq ?_
      refine Wp.rgn (K := 0) (fun n _ => by simp [evalRgn, Option.map_some, evalOps, step, wants, osem, M.run_bind, M.mapL, M.run, M.ok, M.fresh, M.write, M.look, M.lift, putD, Arb.set, ev, Arb.get, keepFr, bin, intBin, strBin, mk, params, cellsM, load, obRead, fadr, fld, isl, iarr, xarr, idx, len, valid, slc, bound, store, splice, nilc, un, eqs, eq0, evalFeet, footOf, M.foot, orderOk, apartAll, apart1, clash, meets, callM, fcallM, callee, fz1, fzC, fz, flat, flat1, flat0, flatI, Option.bind_some, putAll, M.bind]; rfl) ?_
      refine Wp.ret ?_
      rw [all_false hb hbb]; rfl
    | true =>
      refine Wp.skip ?_
      refine Wp.rgn (K := 0) (fun n _ => by simp [evalRgn, Option.map_some, evalOps, step, wants, osem, M.run_bind, M.mapL, M.run, M.ok, M.fresh, M.write, M.look, M.lift, putD, Arb.set, ev, Arb.get, keepFr, bin, intBin, strBin, mk, params, cellsM, load, obRead, fadr, fld, isl, iarr, xarr, idx, len, valid, slc, bound, store, splice, nilc, un, eqs, eq0, evalFeet, footOf, M.foot, orderOk, apartAll, apart1, clash, meets, callM, fcallM, callee, fz1, fzC, fz, flat, flat1, flat0, flatI, Option.bind_some, putAll, M.bind]; rfl) ?_
      refine ⟨by simp [again, keepFr, get, nrm, filt, wrap_succ hi hl], ?_⟩
      rw [take_succ_all hb, hg, hbb]; rfl
  · intro hg
    refine Wp.seq (Wp.seq ?_)
    refine Wp.rgn (K := 0) (fun n _ => by simp [evalRgn, Option.map_some, evalOps, step, wants, osem, M.run_bind, M.mapL, M.run, M.ok, M.fresh, M.write, M.look, M.lift, putD, Arb.set, ev, Arb.get, keepFr, bin, intBin, strBin, mk, params, cellsM, load, obRead, fadr, fld, isl, iarr, xarr, idx, len, valid, slc, bound, store, splice, nilc, un, eqs, eq0, evalFeet, footOf, M.foot, orderOk, apartAll, apart1, clash, meets, callM, fcallM, callee, fz1, fzC, fz, flat, flat1, flat0, flatI, Option.bind_some, putAll, M.bind, filt]; rfl) ?_
    refine Wp.cond rfl (Wp.exit ?_)
    simp only [Ex.then, Ex.inBlock, if_true]
    refine Wp.seq ?_
    refine Wp.rgn (K := 0) (fun n _ => by simp [evalRgn, Option.map_some, evalOps, step, wants, osem, M.run_bind, M.mapL, M.run, M.ok, M.fresh, M.write, M.look, M.lift, putD, Arb.set, ev, Arb.get, keepFr, bin, intBin, strBin, mk, params, cellsM, load, obRead, fadr, fld, isl, iarr, xarr, idx, len, valid, slc, bound, store, splice, nilc, un, eqs, eq0, evalFeet, footOf, M.foot, orderOk, apartAll, apart1, clash, meets, callM, fcallM, callee, fz1, fzC, fz, flat, flat1, flat0, flatI, Option.bind_some, putAll, M.bind]; rfl) ?_
    refine Wp.ret ?_
    rw [List.take_length] at hg
    rw [hg]; rfl

def few (l : List B) : Bool := decide (l.length ≤ 20) && l.all fewB

theorem p_few6 (h27 : prog 27 = some F27) (h14 : prog 14 = some F14) (h : prog 5 = some F5) (l : List B) (hl : l.length ≤ maxLen) : Ans prog 5 [filt l] (.iv (.bool (few l))) := by
  refine Ans.of h rfl rfl (Wp.seq ?_)
  refine Wp.rgn (K := 0) (fun n _ => by simp [evalRgn, Option.map_some, evalOps, step, wants, osem, M.run_bind, M.mapL, M.run, M.ok, M.fresh, M.write, M.look, M.lift, putD, Arb.set, ev, Arb.get, keepFr, bin, intBin, strBin, mk, params, cellsM, load, obRead, fadr, fld, isl, iarr, xarr, idx, len, valid, slc, bound, store, splice, nilc, un, eqs, eq0, evalFeet, footOf, M.foot, orderOk, apartAll, apart1, clash, meets, callM, fcallM, callee, fz1, fzC, fz, flat, flat1, flat0, flatI, Option.bind_some, putAll, M.bind]; rfl) ?_
  refine Wp.seq ?_
  obtain ⟨K, hK⟩ := p_few4 h27 h14 l hl
  refine Wp.rgn (K := K) (s' := ⟨[(2, .iv (.bool (few l)))], [], 1576⟩) (fun n hn => by
    have hc := hK n hn
    simp only [filt] at hc
    cases hd : decide (l.length ≤ 20) <;> have hd' : decide ((l.length : Int) ≤ 20) = decide (l.length ≤ 20) := decide_eq_decide.2 (by omega)
    · simp [evalRgn, Option.map_some, evalOps, step, wants, osem, M.run_bind, M.mapL, M.run, M.ok, M.fresh, M.write, M.look, M.lift, putD, Arb.set, ev, Arb.get, keepFr, bin, intBin, strBin, mk, params, cellsM, load, obRead, fadr, fld, isl, iarr, xarr, idx, len, valid, slc, bound, store, splice, nilc, un, eqs, eq0, evalFeet, footOf, M.foot, orderOk, apartAll, apart1, clash, meets, callM, fcallM, callee, fz1, fzC, fz, flat, flat1, flat0, flatI, Option.bind_some, putAll, M.bind, filt, few, hd, hd']
    · simp [evalRgn, Option.map_some, evalOps, step, wants, osem, M.run_bind, M.mapL, M.run, M.ok, M.fresh, M.write, M.look, M.lift, putD, Arb.set, ev, Arb.get, keepFr, bin, intBin, strBin, mk, params, cellsM, load, obRead, fadr, fld, isl, iarr, xarr, idx, len, valid, slc, bound, store, splice, nilc, un, eqs, eq0, evalFeet, footOf, M.foot, orderOk, apartAll, apart1, clash, meets, callM, fcallM, callee, fz1, fzC, fz, flat, flat1, flat0, flatI, Option.bind_some, putAll, M.bind, filt, few, hd, hd', hc]) ?_
  exact Wp.ret rfl
end
end Arb

/-
  WITHOUT SLACK ONLY WHAT IS PERFECT IS MERGED.
-/
set_option linter.unusedSimpArgs false
namespace Arb
open Go

theorem between_ge {p q : Int × Int} (hp : in64 p.2) (hq : in64 q.1) (hb : (between p q).2 = true) (hn : IntKind.wrap .i64 (p.2 + 1) ≠ q.1) : 1 ≤ (between p q).1 ∧ (between p q).1 < 9223372036854775808 := by
  unfold between at hb ⊢
  split at hb
  · cases hb
  · rename_i hc
    rw [if_neg hc]
    simp only [Bool.or_eq_true, decide_eq_true_eq, not_or] at hc
    unfold in64 at hp hq
    have hlt : p.2 < q.1 := by omega
    rw [IntWalk.i64_in _ (by omega)] at hn
    simp only [IntKind.wrap_u64]
    rw [show (q.1 % 18446744073709551616 - p.2 % 18446744073709551616) % 18446744073709551616 = q.1 - p.2 by omega]
    rw [show (q.1 - p.2).tdiv 2 = (q.1 - p.2) / 2 by exact Int.tdiv_eq_ediv_of_nonneg (by omega)]
    omega

theorem hull2_ge {x : B} {s : S} {i : Nat} {p q : Int × Int} (hp : in64 p.2) (hq : in64 q.1) (h : (hull2 x s i p q).2.2 = true) : 1 ≤ (hull2 x s i p q).2.1 ∧ (hull2 x s i p q).2.1 < 9223372036854775808 := by
  unfold hull2 at h ⊢
  split at h
  · cases h
  · rename_i hc
    rw [if_neg hc]
    simp only [Bool.or_eq_true, Bool.not_eq_true', beq_iff_eq, not_or, Bool.not_eq_false] at hc
    exact between_ge hp hq hc.1 hc.2
theorem hullF_ge {a b : List B} (ha : ∀ x ∈ a, x.ok) (hb : ∀ x ∈ b, x.ok) (h : (hullF a b).2.2 = true) : 1 ≤ (hullF a b).2.1 ∧ (hullF a b).2.1 < 9223372036854775808 := by
  unfold hullF at h ⊢
  split at h
  · cases h
  · rename_i x y i hs
    obtain ⟨rfl, rfl, -, -, hi, -, -, -⟩ := sole_some hs
    have hx := (ha x (by simp)).at hi
    have hy := (hb y (by simp)).at hi
    unfold hull1 at h ⊢
    split at h
    · rename_i p q hp hq
      have h1 := hx.ri p (by rw [hp]; simp)
      have h2 := hy.ri q (by rw [hq]; simp)
      split at h
      · cases h
      · rename_i hc
        rw [if_neg hc]
        split at h
        · rename_i hd
          rw [if_pos hd]
          exact hull2_ge h2.2 h1.1 h
        · rename_i hd
          rw [if_neg hd]
          exact hull2_ge h1.2 h2.1 h
    · cases h
structure Lib7 (prog : Nat → Option IFn) : Prop extends Lib6 prog where
  h5 : prog 5 = some F5
  h11 : prog 11 = some F11
  h14 : prog 14 = some F14
  h25 : prog 25 = some F25
  h27 : prog 27 = some F27
  h41 : prog 41 = some F41

section
variable {prog : Nat → Option IFn}

theorem Ev.run {f : Nat} {args : List AV} {p : AV × Hp} (h : Ev prog f args [] p) (hp : p.1 = .iv (.bool true)) : ∃ n hp', evalF prog n f args [] = some (.iv (.bool true), hp') := by
  obtain ⟨K, h⟩ := h
  exact ⟨K, p.2, by rw [h K (Nat.le_refl _), ← hp]⟩
end
end Arb

/-
  SORTING BY INSERTION GIVES THE SAME ELEMENTS, RISING.
-/
set_option linter.unusedSimpArgs false
namespace Arb
open Go

section
variable {α : Type} {lt : α → α → Bool}

/-- into a falling list -/
def insV (lt : α → α → Bool) (x : α) : List α → List α
  | [] => [x]
  | y :: r => if lt x y then y :: insV lt x r else x :: y :: r

theorem sink_ins (x : α) : ∀ (v rest : List α), sink lt v.length (v.reverse ++ x :: rest) = (insV lt x v).reverse ++ rest
  | [], rest => rfl
  | y :: v, rest => by
    have h1 : (v.reverse ++ y :: x :: rest)[v.length + 1]? = some x := by
      rw [List.getElem?_append_right (by simp)]; simp
    have h2 : (v.reverse ++ y :: x :: rest)[v.length]? = some y := by
      rw [List.getElem?_append_right (by simp)]; simp
    rw [show (y :: v).reverse ++ x :: rest = v.reverse ++ y :: x :: rest by simp, List.length_cons, sink, h1, h2]
    simp only [insV]
    split
    · have h3 : ((v.reverse ++ y :: x :: rest).set (v.length + 1) y).set v.length x = v.reverse ++ x :: y :: rest := by
        rw [List.set_append_right _ _ (by simp), List.set_append_right _ _ (by simp)]
        simp
      rw [h3, sink_ins x v (y :: rest)]
      simp
    · simp

theorem sinks_fold (l : List α) : ∀ k, k < l.length → sinks lt l k = ((l.take (k + 1)).foldl (fun v x => insV lt x v) []).reverse ++ l.drop (k + 1)
  | 0, h => by
    match l, h with
    | x :: r, _ => simp [sinks, insV]
  | k + 1, h => by
    rw [sinks, sinks_fold l k (by omega)]
    obtain ⟨x, hx⟩ : ∃ x, l[k + 1]? = some x := ⟨_, List.getElem?_eq_getElem h⟩
    rw [drop_cons hx, List.take_add_one (i := k + 1), hx]
    generalize hv : (l.take (k + 1)).foldl (fun v x => insV lt x v) [] = v
    have hl : v.length = k + 1 := by
      have hlen : ∀ (m v : List α), (m.foldl (fun v x => insV lt x v) v).length = v.length + m.length := by
        intro m
        induction m with
        | nil => intro v; rfl
        | cons a m ih =>
          intro v
          rw [List.foldl_cons, ih]
          have : ∀ v : List α, (insV lt a v).length = v.length + 1 := by
            intro v
            induction v with
            | nil => rfl
            | cons b v ih2 => unfold insV; split <;> simp [ih2]
          rw [this, List.length_cons]; omega
      rw [← hv, hlen, List.length_take, List.length_nil]; omega
    have := sink_ins (lt := lt) x v (l.drop (k + 1 + 1))
    rw [hl] at this
    rw [this]
    simp only [Option.toList_some, List.foldl_append, List.foldl_cons, List.foldl_nil, hv]

theorem isort_fold (l : List α) : isort lt l = (l.foldl (fun v x => insV lt x v) []).reverse := by
  by_cases h : l.length = 0
  · obtain rfl := List.eq_nil_of_length_eq_zero h
    rfl
  · rw [isort, sinks_fold l (l.length - 1) (by omega), show l.length - 1 + 1 = l.length by omega, List.take_length, List.drop_length, List.append_nil]

theorem insV_mem {x a : α} : ∀ {v : List α}, a ∈ insV lt x v ↔ a = x ∨ a ∈ v
  | [] => by simp [insV]
  | y :: v => by
    unfold insV
    split
    · simp only [List.mem_cons, insV_mem]
      constructor
      · rintro (h | h | h) <;> simp [h]
      · rintro (h | h | h) <;> simp [h]
    · simp only [List.mem_cons]
theorem foldV_mem {a : α} : ∀ (l v : List α), a ∈ l.foldl (fun v x => insV lt x v) v ↔ a ∈ l ∨ a ∈ v
  | [], v => by simp
  | x :: l, v => by
    rw [List.foldl_cons, foldV_mem l, insV_mem, List.mem_cons]
    constructor
    · rintro (h | h | h) <;> simp [h]
    · rintro ((h | h) | h) <;> simp [h]
theorem isort_mem {a : α} {l : List α} : a ∈ isort lt l ↔ a ∈ l := by rw [isort_fold, List.mem_reverse, foldV_mem]; simp

structure Weak (lt : α → α → Bool) : Prop where
  asymm : ∀ a b, lt a b = true → lt b a = false
  ntrans : ∀ a b c, lt a b = false → lt b c = false → lt a c = false

theorem insV_desc (W : Weak lt) (x : α) : ∀ {v : List α}, v.Pairwise (fun a b => lt a b = false) → (insV lt x v).Pairwise fun a b => lt a b = false
  | [], _ => by simp [insV]
  | y :: v, h => by
    rw [List.pairwise_cons] at h
    unfold insV
    split
    · rename_i hxy
      rw [List.pairwise_cons]
      refine ⟨fun b hb => ?_, insV_desc W x h.2⟩
      rcases insV_mem.1 hb with rfl | hb
      · exact W.asymm _ _ hxy
      · exact h.1 b hb
    · rename_i hxy
      have hxy : lt x y = false := by simpa using hxy
      rw [List.pairwise_cons]
      refine ⟨fun b hb => ?_, List.pairwise_cons.2 h⟩
      rcases List.mem_cons.1 hb with rfl | hb
      · exact hxy
      · exact W.ntrans _ _ _ hxy (h.1 b hb)
theorem isort_asc (W : Weak lt) (l : List α) : (isort lt l).Pairwise fun a b => lt b a = false := by
  rw [isort_fold, List.pairwise_reverse]
  have : ∀ (l v : List α), v.Pairwise (fun a b => lt a b = false) → (l.foldl (fun v x => insV lt x v) v).Pairwise fun a b => lt a b = false := by
    intro l
    induction l with
    | nil => exact fun v h => h
    | cons x l ih => exact fun v h => ih _ (insV_desc W x h)
  exact this l [] List.Pairwise.nil
end
end Arb

/-
  RANGES IN THEIR NORMAL FORM: the same numbers, and one form alone.
-/
set_option linter.unusedSimpArgs false
namespace Arb
open Go

def inR (l : List (Int × Int)) (n : Int) : Prop := ∃ p ∈ l, p.1 ≤ n ∧ n ≤ p.2
def normal (l : List (Int × Int)) : Prop := (∀ p ∈ l, p.1 ≤ p.2) ∧ l.Pairwise fun p q => p.2 + 1 < q.1

theorem inR_cons {p : Int × Int} {l : List (Int × Int)} {n : Int} : inR (p :: l) n ↔ (p.1 ≤ n ∧ n ≤ p.2) ∨ inR l n := by
  simp [inR]
theorem inR_append {a b : List (Int × Int)} {n : Int} : inR (a ++ b) n ↔ inR a n ∨ inR b n := by
  simp only [inR, List.mem_append]
  constructor
  · rintro ⟨p, h | h, hp⟩
    · exact .inl ⟨p, h, hp⟩
    · exact .inr ⟨p, h, hp⟩
  · rintro (⟨p, h, hp⟩ | ⟨p, h, hp⟩)
    · exact ⟨p, .inl h, hp⟩
    · exact ⟨p, .inr h, hp⟩
theorem inR_nil {n : Int} : ¬ inR [] n := by simp [inR]
theorem normal_tail {p : Int × Int} {l : List (Int × Int)} (h : normal (p :: l)) : normal l := ⟨fun q hq => h.1 q (List.mem_cons_of_mem _ hq), (List.pairwise_cons.1 h.2).2⟩
theorem normal_above {p : Int × Int} {l : List (Int × Int)} (h : normal (p :: l)) {n : Int} (hn : inR l n) : p.2 + 1 < n := by
  obtain ⟨q, hq, h1, h2⟩ := hn
  have := (List.pairwise_cons.1 h.2).1 q hq
  omega

theorem normal_one : ∀ {l t : List (Int × Int)}, normal l → normal t → (∀ n, inR l n ↔ inR t n) → l = t
  | [], [], _, _, _ => rfl
  | [], q :: t, _, ht, h => by
    have := ht.1 q (List.mem_cons_self ..)
    exact (inR_nil ((h q.1).2 (inR_cons.2 (.inl ⟨Int.le_refl _, this⟩)))).elim
  | p :: l, [], hl, _, h => by
    have := hl.1 p (List.mem_cons_self ..)
    exact (inR_nil ((h p.1).1 (inR_cons.2 (.inl ⟨Int.le_refl _, this⟩)))).elim
  | p :: l, q :: t, hl, ht, h => by
    have hp := hl.1 p (List.mem_cons_self ..)
    have hq := ht.1 q (List.mem_cons_self ..)
    have lo1 : q.1 ≤ p.1 := by
      rcases inR_cons.1 ((h p.1).1 (inR_cons.2 (.inl ⟨Int.le_refl _, hp⟩))) with h1 | h1
      · exact h1.1
      · have := normal_above ht h1; omega
    have lo2 : p.1 ≤ q.1 := by
      rcases inR_cons.1 ((h q.1).2 (inR_cons.2 (.inl ⟨Int.le_refl _, hq⟩))) with h1 | h1
      · exact h1.1
      · have := normal_above hl h1; omega
    have hi1 : q.2 ≤ p.2 := by
      by_cases hlt : p.2 < q.2
      · rcases inR_cons.1 ((h (p.2 + 1)).2 (inR_cons.2 (.inl ⟨by omega, by omega⟩))) with h1 | h1
        · omega
        · have := normal_above hl h1; omega
      · omega
    have hi2 : p.2 ≤ q.2 := by
      by_cases hlt : q.2 < p.2
      · rcases inR_cons.1 ((h (q.2 + 1)).1 (inR_cons.2 (.inl ⟨by omega, by omega⟩))) with h1 | h1
        · omega
        · have := normal_above ht h1; omega
      · omega
    have e : p = q := Prod.ext (by omega) (by omega)
    subst e
    rw [normal_one (normal_tail hl) (normal_tail ht) fun n => ?_]
    constructor
    · intro hn
      have := normal_above hl hn
      rcases inR_cons.1 ((h n).1 (inR_cons.2 (.inr hn))) with h1 | h1
      · omega
      · exact h1
    · intro hn
      have := normal_above ht hn
      rcases inR_cons.1 ((h n).2 (inR_cons.2 (.inr hn))) with h1 | h1
      · omega
      · exact h1

/-! ### how it is made -/
def in64s (l : List (Int × Int)) : Prop := ∀ p ∈ l, in64 p.1 ∧ in64 p.2

theorem joinB_snoc (o : List (Int × Int)) (p r : Int × Int) : joinB (o ++ [p]) r = (p.2 == 9223372036854775807 || decide (r.1 ≤ IntKind.wrap .i64 (p.2 + 1))) := by
  unfold joinB
  rw [List.length_append, List.length_singleton, Nat.add_sub_cancel, List.getElem?_append_right (Nat.le_refl _)]
  simp
theorem hiR_snoc (o : List (Int × Int)) (p r : Int × Int) : hiR (o ++ [p]) r = o ++ [(p.1, if r.2 > p.2 then r.2 else p.2)] := by
  unfold hiR
  rw [List.length_append, List.length_singleton, Nat.add_sub_cancel, List.getElem?_append_right (Nat.le_refl _), Nat.sub_self]
  simp only [List.getElem?_cons_zero]
  rw [List.set_append_right _ _ (Nat.le_refl _)]
  simp

theorem addR_step {o : List (Int × Int)} {r : Int × Int} (ho : normal o) (h64 : in64s o) (hr : in64 r.1 ∧ in64 r.2) (hlo : ∀ p ∈ o, p.1 ≤ r.1) :
    normal (addR o r) ∧ in64s (addR o r) ∧ (∀ p ∈ addR o r, p.1 ≤ r.1) ∧ ∀ n, inR (addR o r) n ↔ inR o n ∨ (r.1 ≤ n ∧ n ≤ r.2) := by
  unfold addR
  split
  · rename_i hd
    have hd := of_decide_eq_true hd
    exact ⟨ho, h64, hlo, fun n => ⟨.inl, fun h => h.elim id fun h => by omega⟩⟩
  · rename_i hd
    have hd : ¬ r.2 < r.1 := fun h => hd (decide_eq_true h)
    rcases List.eq_nil_or_concat o with rfl | ⟨o', p, rfl⟩
    · rw [if_neg (by simp [joinB])]
      refine ⟨⟨fun q hq => ?_, by simp⟩, fun q hq => ?_, fun q hq => ?_, fun n => ?_⟩
      · simp at hq; subst hq; omega
      · simp at hq; subst hq; exact hr
      · simp at hq; subst hq; omega
      · simp [inR]
    · rw [List.concat_eq_append] at *
      rw [joinB_snoc, hiR_snoc]
      have hp := ho.1 p (by simp)
      have hp64 := h64 p (by simp)
      have hplo := hlo p (by simp)
      have hpw := List.pairwise_append.1 ho.2
      unfold in64 at hp64 hr
      split
      · rename_i hj
        have hj : p.2 = 9223372036854775807 ∨ r.1 ≤ p.2 + 1 := by
          simp only [Bool.or_eq_true, beq_iff_eq, decide_eq_true_eq] at hj
          rcases hj with hj | hj
          · exact .inl hj
          · by_cases hm : p.2 = 9223372036854775807
            · exact .inl hm
            · rw [IntWalk.i64_in _ (by omega)] at hj; exact .inr hj
        refine ⟨⟨fun q hq => ?_, ?_⟩, fun q hq => ?_, fun q hq => ?_, fun n => ?_⟩
        · rcases List.mem_append.1 hq with hq | hq
          · exact ho.1 q (by simp [hq])
          · simp at hq; subst hq; simp only; split <;> omega
        · refine List.pairwise_append.2 ⟨hpw.1, by simp, fun a ha b hb => ?_⟩
          simp at hb; subst hb
          exact hpw.2.2 a ha p (by simp)
        · rcases List.mem_append.1 hq with hq | hq
          · exact h64 q (by simp [hq])
          · simp at hq; subst hq; unfold in64; simp only; split <;> omega
        · rcases List.mem_append.1 hq with hq | hq
          · exact hlo q (by simp [hq])
          · simp at hq; subst hq; exact hplo
        · rw [inR_append, inR_append, inR_cons, inR_cons]
          simp only [inR_nil, or_false]
          constructor
          · rintro (h | h)
            · exact .inl (.inl h)
            · split at h
              · by_cases hn : n ≤ p.2
                · exact .inl (.inr ⟨h.1, hn⟩)
                · exact .inr ⟨by omega, h.2⟩
              · exact .inl (.inr h)
          · rintro ((h | h) | h)
            · exact .inl h
            · refine .inr ?_; split <;> omega
            · refine .inr ?_; split <;> omega
      · rename_i hj
        have hj : p.2 + 1 < r.1 := by
          simp only [Bool.or_eq_true, beq_iff_eq, decide_eq_true_eq, not_or] at hj
          have h1 := hj.1
          have h2 := hj.2
          rw [IntWalk.i64_in _ (by omega)] at h2
          omega
        have hall : ∀ a ∈ o' ++ [p], a.2 + 1 < r.1 := by
          intro a ha
          rcases List.mem_append.1 ha with ha | ha
          · have h1 := hpw.2.2 a ha p (by simp)
            omega
          · simp at ha; subst ha; exact hj
        refine ⟨⟨fun q hq => ?_, ?_⟩, fun q hq => ?_, fun q hq => ?_, fun n => ?_⟩
        · rcases List.mem_append.1 hq with hq | hq
          · exact ho.1 q hq
          · simp at hq; subst hq; omega
        · refine List.pairwise_append.2 ⟨ho.2, by simp, fun a ha b hb => ?_⟩
          simp at hb; subst hb
          exact hall a ha
        · rcases List.mem_append.1 hq with hq | hq
          · exact h64 q hq
          · simp at hq; subst hq; exact hr
        · rcases List.mem_append.1 hq with hq | hq
          · exact hlo q hq
          · simp at hq; subst hq; omega
        · rw [inR_append, inR_cons]
          simp only [inR_nil, or_false]

theorem foldR_all : ∀ (l o : List (Int × Int)), normal o → in64s o → in64s l → l.Pairwise (fun a b => a.1 ≤ b.1) → (∀ p ∈ o, ∀ r ∈ l, p.1 ≤ r.1) →
    normal (l.foldl addR o) ∧ in64s (l.foldl addR o) ∧ ∀ n, inR (l.foldl addR o) n ↔ inR o n ∨ inR l n
  | [], o, ho, h64, _, _, _ => ⟨ho, h64, fun n => by simp [inR_nil]⟩
  | r :: l, o, ho, h64, hl, hs, hlo => by
    obtain ⟨h1, h2, h3, h4⟩ := addR_step ho h64 (hl r (List.mem_cons_self ..)) fun p hp => hlo p hp r (List.mem_cons_self ..)
    rw [List.pairwise_cons] at hs
    obtain ⟨k1, k2, k3⟩ := foldR_all l (addR o r) h1 h2 (fun p hp => hl p (List.mem_cons_of_mem _ hp)) hs.2 fun p hp q hq => Int.le_trans (h3 p hp) (hs.1 q hq)
    refine ⟨k1, k2, fun n => ?_⟩
    rw [List.foldl_cons, k3, h4, inR_cons, or_assoc]

theorem weakR : Weak ltR := by
  constructor
  · intro a b
    unfold ltR cmpI
    simp only [decide_eq_true_eq, decide_eq_false_iff_not]
    split <;> split <;> (try split) <;> omega
  · intro a b c
    unfold ltR cmpI
    simp only [decide_eq_false_iff_not]
    split <;> split <;> split <;> (try split) <;> (try split) <;> (try split) <;> omega
theorem ltR_false {a b : Int × Int} (h : ltR b a = false) : a.1 ≤ b.1 := by
  unfold ltR cmpI at h
  simp only [decide_eq_false_iff_not] at h
  split at h
  · omega
  · omega

theorem normR_all {l : List (Int × Int)} (hl : in64s l) : normal (normR l) ∧ in64s (normR l) ∧ ∀ n, inR (normR l) n ↔ inR l n := by
  have hm : in64s (isort ltR l) := fun p hp => hl p (isort_mem.1 hp)
  obtain ⟨h1, h2, h3⟩ := foldR_all (isort ltR l) [] ⟨fun p hp => (by cases hp), List.Pairwise.nil⟩ (fun p hp => (by cases hp)) hm ((isort_asc weakR l).imp fun h => ltR_false h) (fun p hp => (by cases hp))
  refine ⟨h1, h2, fun n => ?_⟩
  unfold normR
  rw [h3]
  simp [inR, isort_mem]
end Arb

/-
  RISING LISTS OF STRINGS; THE UNION OF TWO SETS HAS THE VALUES OF BOTH.
-/
set_option linter.unusedSimpArgs false
namespace Arb
open Go

theorem u8_lt {a b : UInt8} : a < b ↔ a.toNat < b.toNat := UInt8.lt_iff_toNat_lt
theorem u8_eq {a b : UInt8} : a = b ↔ a.toNat = b.toNat := UInt8.toNat_inj.symm
theorem bl_cons {a b : UInt8} {x y : List UInt8} : Op.bytesLess (a :: x) (b :: y) = true ↔ a.toNat < b.toNat ∨ (a.toNat = b.toNat ∧ Op.bytesLess x y = true) := by
  simp only [Op.bytesLess, Bool.or_eq_true, decide_eq_true_eq, Bool.and_eq_true, beq_iff_eq, u8_lt, u8_eq]
theorem bl_irr : ∀ x : List UInt8, ¬ Op.bytesLess x x = true
  | [] => by simp [Op.bytesLess]
  | a :: x => by rw [bl_cons]; exact fun h => h.elim (Nat.lt_irrefl _) fun h => bl_irr x h.2
theorem bl_trans : ∀ x y z : List UInt8, Op.bytesLess x y = true → Op.bytesLess y z = true → Op.bytesLess x z = true
  | _, [], _, h, _ => by simp [Op.bytesLess] at h
  | _, _ :: _, [], _, h => by simp [Op.bytesLess] at h
  | [], _ :: _, _ :: _, _, _ => by simp [Op.bytesLess]
  | a :: x, b :: y, c :: z, h, k => by
    rw [bl_cons] at h k ⊢
    rcases h with h | ⟨h, h'⟩ <;> rcases k with k | ⟨k, k'⟩
    · exact .inl (by omega)
    · exact .inl (by omega)
    · exact .inl (by omega)
    · exact .inr ⟨by omega, bl_trans x y z h' k'⟩
theorem bl_tri : ∀ x y : List UInt8, ¬ Op.bytesLess x y = true → ¬ Op.bytesLess y x = true → x = y
  | [], [], _, _ => rfl
  | [], _ :: _, h, _ => by simp [Op.bytesLess] at h
  | _ :: _, [], _, h => by simp [Op.bytesLess] at h
  | a :: x, b :: y, h, k => by
    rw [bl_cons] at h k
    have e : a.toNat = b.toNat := by omega
    rw [u8_eq.2 e, bl_tri x y (fun h' => h (.inr ⟨e, h'⟩)) (fun h' => k (.inr ⟨e.symm, h'⟩))]

theorem sless_irr (x : ByteArray) : ¬ sless x x = true := bl_irr _
theorem sless_trans {x y z : ByteArray} (h : sless x y = true) (k : sless y z = true) : sless x z = true := bl_trans _ _ _ h k
theorem sless_tri {x y : ByteArray} (h : ¬ sless x y = true) (k : ¬ sless y x = true) : x = y := by
  have := bl_tri _ _ h k
  rw [ByteArray.toList_eq, ByteArray.toList_eq] at this
  cases x; cases y
  simp only [Array.toList_inj] at this
  rw [this]
theorem sless_asymm {x y : ByteArray} (h : sless x y = true) : ¬ sless y x = true := fun k => sless_irr x (sless_trans h k)
theorem weakT : Weak ltT := by
  constructor
  · intro a b h
    exact Bool.eq_false_iff.2 (sless_asymm h)
  · intro a b c h k
    have h := Bool.eq_false_iff.1 h
    have k := Bool.eq_false_iff.1 k
    refine Bool.eq_false_iff.2 fun hac => ?_
    by_cases hba : sless b a = true
    · exact k (sless_trans hba hac)
    · have := sless_tri h hba
      subst this
      exact k hac

def rise (l : List ByteArray) : Prop := l.Pairwise fun a b => sless a b = true
theorem rise_one : ∀ {l t : List ByteArray}, rise l → rise t → (∀ s, s ∈ l ↔ s ∈ t) → l = t
  | [], [], _, _, _ => rfl
  | [], q :: t, _, _, h => by have := (h q).2 (List.mem_cons_self ..); cases this
  | p :: l, [], _, _, h => by have := (h p).1 (List.mem_cons_self ..); cases this
  | p :: l, q :: t, hl, ht, h => by
    have hl' := List.pairwise_cons.1 hl
    have ht' := List.pairwise_cons.1 ht
    have e : p = q := by
      rcases List.mem_cons.1 ((h p).1 (List.mem_cons_self ..)) with h1 | h1
      · exact h1
      · rcases List.mem_cons.1 ((h q).2 (List.mem_cons_self ..)) with h2 | h2
        · exact h2.symm
        · exact (sless_asymm (ht'.1 p h1) (hl'.1 q h2)).elim
    subst e
    rw [rise_one hl'.2 ht'.2 fun s => ?_]
    constructor
    · intro hs
      rcases List.mem_cons.1 ((h s).1 (List.mem_cons_of_mem _ hs)) with h1 | h1
      · subst h1; exact (sless_irr _ (hl'.1 _ hs)).elim
      · exact h1
    · intro hs
      rcases List.mem_cons.1 ((h s).2 (List.mem_cons_of_mem _ hs)) with h1 | h1
      · subst h1; exact (sless_irr _ (ht'.1 _ hs)).elim
      · exact h1

theorem compTo_all {l : List ByteArray} (hs : l.Pairwise fun a b => ltT b a = false) : ∀ j, j ≤ l.length → rise (compTo l j) ∧ ∀ s, s ∈ compTo l j ↔ s ∈ l.take j
  | 0, _ => ⟨List.Pairwise.nil, fun s => by simp [compTo]⟩
  | j + 1, hj => by
    obtain ⟨h1, h2⟩ := compTo_all hs j (by omega)
    obtain ⟨x, hx⟩ : ∃ x, l[j]? = some x := ⟨_, List.getElem?_eq_getElem hj⟩
    have hxj := (List.getElem?_eq_some_iff.1 hx).2
    rw [compTo, hx, List.take_add_one, hx]
    simp only [Option.toList_some]
    have hget := List.pairwise_iff_getElem.1 hs
    split
    · rename_i hc
      refine ⟨h1, fun s => ?_⟩
      rw [h2, List.mem_append, List.mem_singleton]
      refine ⟨.inl, fun h => h.elim id fun h => ?_⟩
      subst h
      have := List.getElem?_eq_some_iff.1 hc.2
      obtain ⟨hlt, he⟩ := this
      rw [← he]
      exact List.mem_take_iff_getElem.2 ⟨j - 1, by omega, rfl⟩
    · rename_i hc
      refine ⟨List.pairwise_append.2 ⟨h1, by simp, fun a ha b hb => ?_⟩, fun s => ?_⟩
      · rw [List.mem_singleton] at hb
        subst hb
        obtain ⟨k, hk, hka⟩ := List.mem_take_iff_getElem.1 ((h2 a).1 ha)
        have hkj : k < j := by omega
        have g1 := hget k j (by omega) hj hkj
        rw [hka, hxj] at g1
        have g1 := Bool.eq_false_iff.1 g1
        refine Classical.byContradiction fun hno => ?_
        have e : a = b := sless_tri hno g1
        subst e
        refine hc ⟨by omega, ?_⟩
        rw [List.getElem?_eq_getElem (by omega), Option.some.injEq]
        by_cases hk1 : k = j - 1
        · subst hk1; exact hka
        · have g2 := Bool.eq_false_iff.1 (hget k (j - 1) (by omega) (by omega) (by omega))
          have g3 := Bool.eq_false_iff.1 (hget (j - 1) j (by omega) hj (by omega))
          rw [hka] at g2
          rw [hxj] at g3
          exact sless_tri g2 g3
      · rw [List.mem_append, List.mem_append, h2]
theorem comp_all {l : List ByteArray} (hs : l.Pairwise fun a b => ltT b a = false) : rise (comp l) ∧ ∀ s, s ∈ comp l ↔ s ∈ l := by
  have := compTo_all hs l.length (Nat.le_refl _)
  rw [List.take_length] at this
  exact this
theorem joinT_all (a b : List ByteArray) : rise (joinT a b) ∧ ∀ s, s ∈ joinT a b ↔ s ∈ a ∨ s ∈ b := by
  obtain ⟨h1, h2⟩ := comp_all (isort_asc weakT (a ++ b))
  refine ⟨h1, fun s => ?_⟩
  unfold joinT
  rw [h2, isort_mem, List.mem_append]

theorem hasT_iff {l : List ByteArray} {t : ByteArray} : hasT l t = true ↔ t ∈ l := by rw [hasT, decide_eq_true_eq, idxFrom_mem]
theorem pickS_mem {a b : List ByteArray} {i : Bool} {s : ByteArray} : s ∈ pickS a b i ↔ s ∈ a ∧ (hasT b s == i) = true := by
  unfold pickS; rw [List.mem_filter]
theorem pickS_rise {a b : List ByteArray} {i : Bool} (h : rise a) : rise (pickS a b i) := List.Pairwise.filter _ h

/-- is a string in a set? -/
def hasStr (x : S) (t : ByteArray) : Bool := hasT x.s t != x.c
theorem orT_rise {x y : S} (hx : rise x.s) (hy : rise y.s) : rise (orT x y) := by
  unfold orT
  split
  · exact pickS_rise hx
  · split
    · exact pickS_rise hx
    · split
      · exact pickS_rise hy
      · exact (joinT_all _ _).1
theorem or_str (x y : S) (t : ByteArray) : hasStr (orS x y) t = (hasStr x t || hasStr y t) := by
  have e : hasT (orT x y) t = if x.c && y.c then hasT x.s t && hasT y.s t else if x.c then hasT x.s t && !hasT y.s t else if y.c then hasT y.s t && !hasT x.s t else hasT x.s t || hasT y.s t := by
    rw [Bool.eq_iff_iff, hasT_iff]
    unfold orT
    split
    · rw [pickS_mem, Bool.and_eq_true, hasT_iff]; simp
    · split
      · rw [pickS_mem, Bool.and_eq_true, hasT_iff]; simp
      · split
        · rw [pickS_mem, Bool.and_eq_true, hasT_iff]; simp
        · rw [(joinT_all _ _).2, Bool.or_eq_true, hasT_iff, hasT_iff]
  unfold hasStr
  rw [show (orS x y).s = orT x y from rfl, show (orS x y).c = (x.c || y.c) from rfl, e]
  cases x.c <;> cases y.c <;> cases hasT x.s t <;> cases hasT y.s t <;> rfl
end Arb

/-
  RIGHT SETS; MERGERS OF TWO, WHICHEVER IS THE FIRST.
-/
set_option linter.unusedSimpArgs false
namespace Arb
open Go

theorem normal_adj : ∀ {l : List (Int × Int)}, (∀ (i : Nat) p, l[i]? = some p → p.1 ≤ p.2) → (∀ (i : Nat) p r, l[i]? = some p → l[i + 1]? = some r → p.2 + 1 < r.1) → normal l
  | [], _, _ => ⟨fun p hp => (by cases hp), List.Pairwise.nil⟩
  | p :: l, h1, h2 => by
    have ih : normal l := normal_adj (fun i q h => h1 (i + 1) q (by simpa using h)) fun i q r h h' => h2 (i + 1) q r (by simpa using h) (by simpa using h')
    refine ⟨fun q hq => ?_, List.pairwise_cons.2 ⟨fun q hq => ?_, ih.2⟩⟩
    · rcases List.mem_cons.1 hq with rfl | hq
      · exact h1 0 q rfl
      · exact ih.1 q hq
    · match l, hq, ih with
      | r :: l', hq, ih =>
        have h3 := h2 0 p r rfl rfl
        rcases List.mem_cons.1 hq with rfl | hq
        · exact h3
        · have := (List.pairwise_cons.1 ih.2).1 q hq
          have := ih.1 r (List.mem_cons_self ..)
          omega
theorem rise_adj : ∀ {l : List ByteArray}, (∀ (i : Nat) p r, l[i]? = some p → l[i + 1]? = some r → sless p r = true) → rise l
  | [], _ => List.Pairwise.nil
  | p :: l, h2 => by
    have ih : rise l := rise_adj fun i q r h h' => h2 (i + 1) q r (by simpa using h) (by simpa using h')
    refine List.pairwise_cons.2 ⟨fun q hq => ?_, ih⟩
    match l, hq, ih with
    | r :: l', hq, ih =>
      have h3 := h2 0 p r rfl rfl
      rcases List.mem_cons.1 hq with rfl | hq
      · exact h3
      · exact sless_trans h3 ((List.pairwise_cons.1 ih).1 q hq)

structure S.fine (x : S) : Prop where
  i : normal x.i
  s : rise x.s
  len : ∀ t ∈ x.s, t.size ≤ 8
theorem pair_get {α : Type} {R : α → α → Prop} {l : List α} (h : l.Pairwise R) {i : Nat} {p r : α} (hp : l[i]? = some p) (hr : l[i + 1]? = some r) : R p r := by
  obtain ⟨h1, rfl⟩ := List.getElem?_eq_some_iff.1 hp
  obtain ⟨h2, rfl⟩ := List.getElem?_eq_some_iff.1 hr
  exact List.pairwise_iff_getElem.1 h _ _ _ _ (Nat.lt_succ_self i)
theorem rightS_iff {x : S} (h64 : in64s x.i) : rightS x = true ↔ x.fine := by
  unfold rightS
  simp only [Bool.and_eq_true, List.all_eq_true, List.mem_range, Bool.not_eq_true']
  constructor
  · rintro ⟨h1, h2⟩
    have hlt : ∀ {α : Type} {l : List α} {i : Nat} {p : α}, l[i]? = some p → i < l.length := fun h => (List.getElem?_eq_some_iff.1 h).1
    refine ⟨normal_adj (fun i p hp => ?_) (fun i p r hp hr => ?_), rise_adj (fun i p r hp hr => ?_), fun t ht => ?_⟩
    · have := h1 i (hlt hp)
      cases i with
      | zero => simp only [badR, hp, decide_eq_false_iff_not] at this; omega
      | succ j =>
        obtain ⟨q, hq⟩ : ∃ q, x.i[j]? = some q := ⟨_, List.getElem?_eq_getElem (by have := hlt hp; omega)⟩
        simp only [badR, hp, hq, Bool.or_eq_false_iff, decide_eq_false_iff_not] at this
        omega
    · have := h1 (i + 1) (hlt hr)
      simp only [badR, hp, hr, Bool.or_eq_false_iff, decide_eq_false_iff_not] at this
      have h3 := h64 p (List.mem_of_getElem? hp)
      have h4 := h64 r (List.mem_of_getElem? hr)
      unfold in64 at h3 h4
      have h5 := this.2.2
      rw [IntWalk.i64_in _ (by omega)] at h5
      have h5 : r.1 - 1 ≠ p.2 := by simpa using h5
      omega
    · have := h2 (i + 1) (hlt hr)
      simp only [badT, hp, hr, Bool.or_eq_false_iff, Bool.not_eq_false'] at this
      exact this.2
    · obtain ⟨i, hi, he⟩ := List.getElem_of_mem ht
      have ht' : x.s[i]? = some t := by rw [List.getElem?_eq_getElem hi, he]
      have := h2 i hi
      cases i with
      | zero => simp only [badT, ht', decide_eq_false_iff_not] at this; omega
      | succ j =>
        obtain ⟨q, hq⟩ : ∃ q, x.s[j]? = some q := ⟨_, List.getElem?_eq_getElem (by omega)⟩
        simp only [badT, ht', hq, Bool.or_eq_false_iff, decide_eq_false_iff_not] at this
        omega
  · rintro ⟨hn, hr, hl⟩
    refine ⟨fun i hi => ?_, fun i hi => ?_⟩
    · obtain ⟨r, hr⟩ : ∃ q, x.i[i]? = some q := ⟨_, List.getElem?_eq_getElem hi⟩
      have h1 := hn.1 r (List.mem_of_getElem? hr)
      cases i with
      | zero => simp only [badR, hr, decide_eq_false_iff_not]; omega
      | succ j =>
        obtain ⟨q, hq⟩ : ∃ q, x.i[j]? = some q := ⟨_, List.getElem?_eq_getElem (by omega)⟩
        have h2 := pair_get hn.2 hq hr
        have h3 := h64 q (List.mem_of_getElem? hq)
        have h4 := h64 r (List.mem_of_getElem? hr)
        unfold in64 at h3 h4
        simp only [badR, hr, hq, Bool.or_eq_false_iff, decide_eq_false_iff_not]
        rw [IntWalk.i64_in _ (by omega)]
        refine ⟨by omega, by omega, ?_⟩
        simp; omega
    · obtain ⟨r, hr'⟩ : ∃ q, x.s[i]? = some q := ⟨_, List.getElem?_eq_getElem hi⟩
      have h1 := hl r (List.mem_of_getElem? hr')
      cases i with
      | zero => simp only [badT, hr', decide_eq_false_iff_not]; omega
      | succ j =>
        obtain ⟨q, hq⟩ : ∃ q, x.s[j]? = some q := ⟨_, List.getElem?_eq_getElem (by omega)⟩
        have h2 := pair_get hr hq hr'
        simp only [badT, hr', hq, Bool.or_eq_false_iff, decide_eq_false_iff_not, Bool.not_eq_false']
        exact ⟨by omega, h2⟩
theorem right1_fine {b : B} (hb : b.ok) (h : right1 b = true) {i : Nat} (hi : i < 4) : (b.get i).fine := by
  have hk := (hb.at hi).ri
  refine (rightS_iff hk).1 ?_
  simp only [right1, allB, Bool.and_eq_true] at h
  match i, hi with
  | 0, _ => exact h.1.1
  | 1, _ => exact h.1.2.1
  | 2, _ => exact h.1.2.2.1
  | 3, _ => exact h.1.2.2.2
/-! ### whichever is the first -/
end Arb

/-
  WHAT MERGERS THERE ARE; never both.
-/
set_option linter.unusedSimpArgs false
namespace Arb
open Go

theorem perfF_some {a b : List B} (h : (perfF a b).2 = true) : ∃ x y i, sole a b = some (x, y, i) ∧ smallS (orS (x.get i) (y.get i)) = true ∧ grew (x.get i) (y.get i) (orS (x.get i) (y.get i)) = false ∧ perfF a b = ([x.put i (orS (x.get i) (y.get i))], true) := by
  cases hs : sole a b with
  | none => simp [perfF, hs] at h
  | some q =>
    obtain ⟨x, y, i⟩ := q
    refine ⟨x, y, i, rfl, ?_⟩
    unfold perfF at h ⊢
    rw [hs] at h ⊢
    simp only at h ⊢
    split at h
    · cases h
    · rename_i hc
      rw [if_neg hc]
      simp only [Bool.or_eq_true, Bool.not_eq_true', not_or, Bool.not_eq_false, Bool.not_eq_true] at hc
      exact ⟨hc.1, hc.2, rfl⟩
theorem hull2_no {x : B} {s : S} {i : Nat} {p q : Int × Int} (h : (hull2 x s i p q).2.2 = false) : hull2 x s i p q = ([], 0, false) := by
  unfold hull2 at h ⊢
  split at h
  · rename_i hc; rw [if_pos hc]
  · cases h
theorem hullF_no {a b : List B} (h : (hullF a b).2.2 = false) : hullF a b = ([], 0, false) := by
  cases hs : sole a b with
  | none => simp [hullF, hs]
  | some q =>
    obtain ⟨x, y, i⟩ := q
    unfold hullF at h ⊢
    rw [hs] at h ⊢
    simp only at h ⊢
    unfold hull1 at h ⊢
    split
    · split at h
      · rename_i hp hq _ _ _ _ hp' hq'
        rw [hp] at hp'
        rw [hq] at hq'
        cases hp'
        cases hq'
        split at h
        · rename_i hc; rw [if_pos hc]
        · rename_i hc
          rw [if_neg hc]
          split at h
          · rename_i hd; rw [if_pos hd]; exact hull2_no h
          · rename_i hd; rw [if_neg hd]; exact hull2_no h
      · rename_i hno
        rename_i hp hq _ _
        exact (hno _ _ hp hq).elim
    · rfl
theorem hull2_some {x : B} {s : S} {i : Nat} {p q : Int × Int} (h : (hull2 x s i p q).2.2 = true) : (between p q).2 = true ∧ IntKind.wrap .i64 (p.2 + 1) ≠ q.1 ∧ hull2 x s i p q = ([x.put i ⟨s.a, [(p.1, q.2)], s.c, s.s⟩], (between p q).1, true) := by
  unfold hull2 at h ⊢
  split at h
  · cases h
  · rename_i hc
    rw [if_neg hc]
    simp only [Bool.or_eq_true, Bool.not_eq_true', beq_iff_eq, not_or, Bool.not_eq_false] at hc
    exact ⟨hc.1, hc.2, rfl⟩
/-- the hull of two boxes: p is the lower range -/
structure Hulls (a b : List B) (x y : B) (i : Nat) (p q : Int × Int) : Prop where
  sole : Arb.sole a b = some (x, y, i)
  at' : (x.get i).i = [p] ∧ (y.get i).i = [q] ∨ (x.get i).i = [q] ∧ (y.get i).i = [p]
  ea : (x.get i).a = (y.get i).a
  ec : (x.get i).c = (y.get i).c
  es : (x.get i).s = (y.get i).s
  ok : (between p q).2 = true
  far : IntKind.wrap .i64 (p.2 + 1) ≠ q.1
  eq : hullF a b = ([x.put i ⟨(x.get i).a, [(p.1, q.2)], (x.get i).c, (x.get i).s⟩], (between p q).1, true)
theorem hullF_some {a b : List B} (h : (hullF a b).2.2 = true) : ∃ x y i p q, Hulls a b x y i p q := by
  cases hs : sole a b with
  | none => simp [hullF, hs] at h
  | some q =>
    obtain ⟨x, y, i⟩ := q
    have he : hullF a b = hull1 x (x.get i) (y.get i) i := by unfold hullF; rw [hs]
    rw [he] at h
    by_cases hn : (x.get i).i.length ≠ 1 ∨ (y.get i).i.length ≠ 1
    · rw [hull1_ne hn] at h; cases h
    · obtain ⟨p, hp⟩ : ∃ p, (x.get i).i = [p] := List.length_eq_one_iff.1 (by omega)
      obtain ⟨q, hq⟩ : ∃ q, (y.get i).i = [q] := List.length_eq_one_iff.1 (by omega)
      have he2 : hull1 x (x.get i) (y.get i) i = if !sameS (x.get i) ⟨(y.get i).a, [p], (y.get i).c, (y.get i).s⟩ then ([], 0, false) else if decide (q.1 < p.1) then hull2 x (x.get i) i q p else hull2 x (x.get i) i p q := by unfold hull1; rw [hp, hq]
      rw [he2] at h he
      split at h
      · cases h
      · rename_i hc
        rw [if_neg hc] at he
        have e : x.get i = ⟨(y.get i).a, [p], (y.get i).c, (y.get i).s⟩ := sameS_iff.1 (by simpa using hc)
        split at h
        · rename_i hd
          rw [if_pos hd] at he
          obtain ⟨h1, h2, h3⟩ := hull2_some h
          exact ⟨x, y, i, q, p, hs, .inr ⟨hp, hq⟩, by rw [e], by rw [e], by rw [e], h1, h2, by rw [he, h3]⟩
        · rename_i hd
          rw [if_neg hd] at he
          obtain ⟨h1, h2, h3⟩ := hull2_some h
          exact ⟨x, y, i, p, q, hs, .inl ⟨hp, hq⟩, by rw [e], by rw [e], by rw [e], h1, h2, by rw [he, h3]⟩
theorem between_true {p q : Int × Int} (h : (between p q).2 = true) : p.1 ≤ p.2 ∧ q.1 ≤ q.2 ∧ p.2 < q.1 := by
  unfold between at h
  split at h
  · cases h
  · rename_i hc
    simp only [Bool.or_eq_true, decide_eq_true_eq, not_or] at hc
    omega
theorem not_both {a b : List B} (ha : ∀ x ∈ a, x.ok) (hb : ∀ x ∈ b, x.ok) : ((perfF a b).2 && (hullF a b).2.2) = false := by
  cases hh : (hullF a b).2.2 with
  | false => rw [Bool.and_false]
  | true =>
    rw [Bool.and_true]
    refine Bool.eq_false_iff.2 fun hp => ?_
    obtain ⟨x, y, i, p, q, H⟩ := hullF_some hh
    obtain ⟨x', y', i', hs, -, hg, -⟩ := perfF_some hp
    rw [H.sole] at hs
    cases hs
    obtain ⟨rfl, rfl, h1, h2, hi, -, -, -⟩ := sole_some H.sole
    have kx := ((ha x (by simp)).at hi).ri
    have ky := ((hb y (by simp)).at hi).ri
    obtain ⟨b1, b2, b3⟩ := between_true H.ok
    have hpq : in64s [p, q] := by
      intro r hr
      rcases H.at' with ⟨e1, e2⟩ | ⟨e1, e2⟩
      · rw [e1] at kx; rw [e2] at ky
        simp at hr
        rcases hr with rfl | rfl
        · exact kx _ (by simp)
        · exact ky _ (by simp)
      · rw [e1] at kx; rw [e2] at ky
        simp at hr
        rcases hr with rfl | rfl
        · exact ky _ (by simp)
        · exact kx _ (by simp)
    have hp64 := hpq p (by simp)
    have hq64 := hpq q (by simp)
    unfold in64 at hp64 hq64
    have hfar := H.far
    rw [IntWalk.i64_in _ (by omega)] at hfar
    have hnorm : normal [p, q] := ⟨fun r hr => by simp at hr; rcases hr with rfl | rfl <;> omega, by simp; omega⟩
    have hk : in64s ((x.get i).i ++ (y.get i).i) := fun r hr => (List.mem_append.1 hr).elim (kx r) (ky r)
    obtain ⟨n1, -, n3⟩ := normR_all hk
    have e : normR ((x.get i).i ++ (y.get i).i) = [p, q] := by
      refine normal_one n1 hnorm fun n => ?_
      rw [n3]
      rcases H.at' with ⟨e1, e2⟩ | ⟨e1, e2⟩
      · rw [e1, e2]; rfl
      · rw [e1, e2, inR_append, Or.comm, ← inR_append]; rfl
    have hl1 : (x.get i).i.length = 1 := by rcases H.at' with ⟨e1, e2⟩ | ⟨e1, e2⟩ <;> rw [e1] <;> rfl
    have hl2 : (y.get i).i.length = 1 := by rcases H.at' with ⟨e1, e2⟩ | ⟨e1, e2⟩ <;> rw [e2] <;> rfl
    have hl3 : (orS (x.get i) (y.get i)).i.length = 2 := by show (normR _).length = 2; rw [e]; rfl
    unfold grew at hg
    rw [hl1, hl2, hl3] at hg
    revert hg
    decide
section
variable {prog : Nat → Option IFn}

end
end Arb

/-
  VALUES; WHICH EVENTS A FILTER HAS.
-/
set_option linter.unusedSimpArgs false
namespace Arb
open Go

structure V where
  k : Int
  n : Int
  s : ByteArray
def V.enc (v : V) : List IV := [.int .i64 v.k, .int .i64 v.n, .str v.s]
def V.av (v : V) : AV := .agg [.iv (.int .i64 v.k), .iv (.int .i64 v.n), .iv (.str v.s)]
structure E where
  v0 : V
  v1 : V
  v2 : V
  v3 : V
def E.get (e : E) : Nat → V
  | 0 => e.v0
  | 1 => e.v1
  | 2 => e.v2
  | _ => e.v3
def E.enc (e : E) : List IV := e.v0.enc ++ (e.v1.enc ++ (e.v2.enc ++ e.v3.enc))
def E.cs (e : E) : List AV := e.enc.map .iv
def E.av (e : E) : AV := .agg e.cs
theorem E.cs_at (e : E) {i : Nat} (h : i < 4) : (e.cs.drop (i * 3)).take 3 = [.iv (.int .i64 (e.get i).k), .iv (.int .i64 (e.get i).n), .iv (.str (e.get i).s)] := by
  match i, h with
  | 0, _ => rfl
  | 1, _ => rfl
  | 2, _ => rfl
  | 3, _ => rfl
theorem E.cs_len (e : E) : e.cs.length = 12 := rfl
theorem E.cs_nrm (e : E) (n0 : Nat) (h : Hp) : e.cs.map (nrm n0 h 8) = e.cs := nrm_ivs n0 h e.enc
theorem E.enc_all (e : E) : e.enc.all notNil = true := by simp [E.enc, V.enc, notNil]
theorem E.cs_fzC (e : E) (w : Bool) : M.mapL (fzC w) e.cs = .ret e.cs := fzC_plain w e.enc e.enc_all
theorem E.cs_nilc (e : E) (s : Nat) : nilc s e.cs = .ret e.cs := nilc_plain e.enc s (by simp [E.enc, V.enc, notNil])

def rightV (v : V) : Bool :=
  if v.k == 0 then v.n == 0 && v.s == ⟨#[]⟩ else if v.k == 1 then v.s == ⟨#[]⟩ else if v.k == 2 then v.n == 0 && decide (v.s.size ≤ 8) else false
def hasI (l : List (Int × Int)) (n : Int) : Bool := l.any fun p => decide (p.1 ≤ n) && decide (n ≤ p.2)
def hasV (x : S) (v : V) : Bool := if !rightV v then false else if v.k == 0 then x.a else if v.k == 1 then hasI x.i v.n else hasT x.s v.s != x.c
theorem take_succ_any {α : Type} {l : List α} {i : Nat} {x : α} {f : α → Bool} (hx : l[i]? = some x) : (l.take (i + 1)).any f = ((l.take i).any f || f x) := by
  rw [List.take_add_one, hx]; simp
theorem any_true {α : Type} {l : List α} {i : Nat} {x : α} {f : α → Bool} (hx : l[i]? = some x) (h : f x = true) : l.any f = true := by
  rw [List.any_eq_true]
  exact ⟨x, List.mem_of_getElem? hx, h⟩

section
variable {prog : Nat → Option IFn}

set_option maxHeartbeats 1000000 in
theorem p_rightV (h : prog 43 = some F43) (v : V) : Ans prog 43 [v.av] (.iv (.bool (rightV v))) := by
  refine Ans.of h rfl rfl (Wp.seq ?_)
  refine Wp.rgn (K := 0) (fun n _ => by simp [evalRgn, Option.map_some, evalOps, step, wants, osem, M.run_bind, M.mapL, M.run, M.ok, M.fresh, M.write, M.look, M.lift, putD, Arb.set, ev, Arb.get, keepFr, bin, intBin, strBin, mk, params, cellsM, load, obRead, fadr, fld, isl, iarr, xarr, idx, len, valid, slc, bound, store, splice, nilc, un, eqs, eq0, evalFeet, footOf, M.foot, orderOk, apartAll, apart1, clash, meets, callM, fcallM, callee, fz1, fzC, fz, flat, flat1, flat0, flatI, Option.bind_some, putAll, M.bind, V.av]; rfl) ?_
  refine Wp.seq (Wp.seq ?_)
  refine Wp.rgn (K := 0) (fun n _ => by simp [evalRgn, Option.map_some, evalOps, step, wants, osem, M.run_bind, M.mapL, M.run, M.ok, M.fresh, M.write, M.look, M.lift, putD, Arb.set, ev, Arb.get, keepFr, bin, intBin, strBin, mk, params, cellsM, load, obRead, fadr, fld, isl, iarr, xarr, idx, len, valid, slc, bound, store, splice, nilc, un, eqs, eq0, evalFeet, footOf, M.foot, orderOk, apartAll, apart1, clash, meets, callM, fcallM, callee, fz1, fzC, fz, flat, flat1, flat0, flatI, Option.bind_some, putAll, M.bind]; rfl) ?_
  refine Wp.block (Wp.seq ?_)
  refine Wp.rgn (K := 0) (fun n _ => by simp [evalRgn, Option.map_some, evalOps, step, wants, osem, M.run_bind, M.mapL, M.run, M.ok, M.fresh, M.write, M.look, M.lift, putD, Arb.set, ev, Arb.get, keepFr, bin, intBin, strBin, mk, params, cellsM, load, obRead, fadr, fld, isl, iarr, xarr, idx, len, valid, slc, bound, store, splice, nilc, un, eqs, eq0, evalFeet, footOf, M.foot, orderOk, apartAll, apart1, clash, meets, callM, fcallM, callee, fz1, fzC, fz, flat, flat1, flat0, flatI, Option.bind_some, putAll, M.bind]; rfl) ?_
  unfold rightV
  refine Wp.cond rfl ?_
  cases h0 : v.k == 0 with
  | true =>
    refine Wp.seq ?_
    refine Wp.rgn (K := 0) (s' := ⟨[(2, .iv (.bool (v.n == 0 && v.s == ⟨#[]⟩)))], [(1000, .cells [.iv (.int .i64 v.k), .iv (.int .i64 v.n), .iv (.str v.s)])], _⟩) (fun n _ => by
      cases h1 : v.n == 0 <;> simp [evalRgn, Option.map_some, evalOps, step, wants, osem, M.run_bind, M.mapL, M.run, M.ok, M.fresh, M.write, M.look, M.lift, putD, Arb.set, ev, Arb.get, keepFr, bin, intBin, strBin, mk, params, cellsM, load, obRead, fadr, fld, isl, iarr, xarr, idx, len, valid, slc, bound, store, splice, nilc, un, eqs, eq0, evalFeet, footOf, M.foot, orderOk, apartAll, apart1, clash, meets, callM, fcallM, callee, fz1, fzC, fz, flat, flat1, flat0, flatI, Option.bind_some, putAll, M.bind, h1] <;> rfl) ?_
    exact Wp.ret rfl
  | false =>
    refine Wp.seq ?_
    refine Wp.rgn (K := 0) (fun n _ => by simp [evalRgn, Option.map_some, evalOps, step, wants, osem, M.run_bind, M.mapL, M.run, M.ok, M.fresh, M.write, M.look, M.lift, putD, Arb.set, ev, Arb.get, keepFr, bin, intBin, strBin, mk, params, cellsM, load, obRead, fadr, fld, isl, iarr, xarr, idx, len, valid, slc, bound, store, splice, nilc, un, eqs, eq0, evalFeet, footOf, M.foot, orderOk, apartAll, apart1, clash, meets, callM, fcallM, callee, fz1, fzC, fz, flat, flat1, flat0, flatI, Option.bind_some, putAll, M.bind]; rfl) ?_
    refine Wp.cond rfl ?_
    cases h1 : v.k == 1 with
    | true =>
      refine Wp.seq ?_
      refine Wp.rgn (K := 0) (fun n _ => by simp [evalRgn, Option.map_some, evalOps, step, wants, osem, M.run_bind, M.mapL, M.run, M.ok, M.fresh, M.write, M.look, M.lift, putD, Arb.set, ev, Arb.get, keepFr, bin, intBin, strBin, mk, params, cellsM, load, obRead, fadr, fld, isl, iarr, xarr, idx, len, valid, slc, bound, store, splice, nilc, un, eqs, eq0, evalFeet, footOf, M.foot, orderOk, apartAll, apart1, clash, meets, callM, fcallM, callee, fz1, fzC, fz, flat, flat1, flat0, flatI, Option.bind_some, putAll, M.bind]; rfl) ?_
      exact Wp.ret rfl
    | false =>
      refine Wp.seq ?_
      refine Wp.rgn (K := 0) (fun n _ => by simp [evalRgn, Option.map_some, evalOps, step, wants, osem, M.run_bind, M.mapL, M.run, M.ok, M.fresh, M.write, M.look, M.lift, putD, Arb.set, ev, Arb.get, keepFr, bin, intBin, strBin, mk, params, cellsM, load, obRead, fadr, fld, isl, iarr, xarr, idx, len, valid, slc, bound, store, splice, nilc, un, eqs, eq0, evalFeet, footOf, M.foot, orderOk, apartAll, apart1, clash, meets, callM, fcallM, callee, fz1, fzC, fz, flat, flat1, flat0, flatI, Option.bind_some, putAll, M.bind]; rfl) ?_
      refine Wp.cond rfl ?_
      cases h2 : v.k == 2 with
      | true =>
        refine Wp.seq ?_
        refine Wp.rgn (K := 0) (s' := ⟨[(2, .iv (.bool (v.n == 0 && decide (v.s.size ≤ 8))))], [(1000, .cells [.iv (.int .i64 v.k), .iv (.int .i64 v.n), .iv (.str v.s)])], _⟩) (fun n _ => by
          have e : decide ((v.s.size : Int) ≤ 8) = decide (v.s.size ≤ 8) := decide_eq_decide.2 (by omega)
          cases h1 : v.n == 0 <;> simp [evalRgn, Option.map_some, evalOps, step, wants, osem, M.run_bind, M.mapL, M.run, M.ok, M.fresh, M.write, M.look, M.lift, putD, Arb.set, ev, Arb.get, keepFr, bin, intBin, strBin, mk, params, cellsM, load, obRead, fadr, fld, isl, iarr, xarr, idx, len, valid, slc, bound, store, splice, nilc, un, eqs, eq0, evalFeet, footOf, M.foot, orderOk, apartAll, apart1, clash, meets, callM, fcallM, callee, fz1, fzC, fz, flat, flat1, flat0, flatI, Option.bind_some, putAll, M.bind, h1, e] <;> rfl) ?_
        exact Wp.ret rfl
      | false =>
        refine Wp.skip ?_
        simp only [Ex.then, Ex.inBlock]
        refine Wp.seq ?_
        refine Wp.rgn (K := 0) (fun n _ => by simp [evalRgn, Option.map_some, evalOps, step, wants, osem, M.run_bind, M.mapL, M.run, M.ok, M.fresh, M.write, M.look, M.lift, putD, Arb.set, ev, Arb.get, keepFr, bin, intBin, strBin, mk, params, cellsM, load, obRead, fadr, fld, isl, iarr, xarr, idx, len, valid, slc, bound, store, splice, nilc, un, eqs, eq0, evalFeet, footOf, M.foot, orderOk, apartAll, apart1, clash, meets, callM, fcallM, callee, fz1, fzC, fz, flat, flat1, flat0, flatI, Option.bind_some, putAll, M.bind]; rfl) ?_
        exact Wp.ret rfl

theorem p_hasI (h : prog 48 = some F48) (l : List (Int × Int)) (m : Int) (hl : l.length ≤ maxLen) : Ans prog 48 [.iv (.sl 2 (l.map rng)), .iv (.int .i64 m)] (.iv (.bool (hasI l m))) := by
  refine Ans.of h rfl rfl (Wp.seq ?_)
  refine Wp.rgn (K := 0) (fun n _ => by simp [evalRgn, Option.map_some, evalOps, step, wants, osem, M.run_bind, M.mapL, M.run, M.ok, M.fresh, M.write, M.look, M.lift, putD, Arb.set, ev, Arb.get, keepFr, bin, intBin, strBin, mk, params, cellsM, load, obRead, fadr, fld, isl, iarr, xarr, idx, len, valid, slc, bound, store, splice, nilc, un, eqs, eq0, evalFeet, footOf, M.foot, orderOk, apartAll, apart1, clash, meets, callM, fcallM, callee, fz1, fzC, fz, flat, flat1, flat0, flatI, Option.bind_some, putAll, M.bind]; rfl) ?_
  refine Wp.seq (Wp.seq ?_)
  refine Wp.rgn (K := 0) (fun n _ => by simp [evalRgn, Option.map_some, evalOps, step, wants, osem, M.run_bind, M.mapL, M.run, M.ok, M.fresh, M.write, M.look, M.lift, putD, Arb.set, ev, Arb.get, keepFr, bin, intBin, strBin, mk, params, cellsM, load, obRead, fadr, fld, isl, iarr, xarr, idx, len, valid, slc, bound, store, splice, nilc, un, eqs, eq0, evalFeet, footOf, M.foot, orderOk, apartAll, apart1, clash, meets, callM, fcallM, callee, fz1, fzC, fz, flat, flat1, flat0, flatI, Option.bind_some, putAll, M.bind]; rfl) ?_
  refine Wp.block ?_
  refine Wp.range l.length (fun i => ⟨[(0, .iv (.sl 2 (l.map rng))), (1, .iv (.int .i64 m)), (5, .iv (.int .i64 i))], [], 1128⟩) (fun i => hasI (l.take i) m = false) (by simp [keepFr, get]) (by simp [hasI]) ?_ ?_
  · intro i hi hg
    obtain ⟨p, hp⟩ : ∃ x, l[i]? = some x := ⟨_, List.getElem?_eq_getElem hi⟩
    refine Wp.seq (Wp.seq ?_)
    refine Wp.rgn (K := 0) (fun n _ => by simp [evalRgn, Option.map_some, evalOps, step, wants, osem, M.run_bind, M.mapL, M.run, M.ok, M.fresh, M.write, M.look, M.lift, putD, Arb.set, ev, Arb.get, keepFr, bin, intBin, strBin, mk, params, cellsM, load, obRead, fadr, fld, isl, iarr, xarr, idx, len, valid, slc, bound, store, splice, nilc, un, eqs, eq0, evalFeet, footOf, M.foot, orderOk, apartAll, apart1, clash, meets, callM, fcallM, callee, fz1, fzC, fz, flat, flat1, flat0, flatI, Option.bind_some, putAll, M.bind, hi]; rfl) ?_
    refine Wp.cond rfl (Wp.skip (Wp.seq (Wp.block (Wp.seq ?_))))
    refine Wp.rgn (K := 0) (s' := ⟨[(0, .iv (.sl 2 (l.map rng))), (1, .iv (.int .i64 m)), (5, .iv (.int .i64 i)), (27, .iv (.bool (decide (p.1 ≤ m) && decide (m ≤ p.2))))], [], 2408⟩) (fun n _ => by
      cases h1 : decide (p.1 ≤ m) <;> simp [evalRgn, Option.map_some, evalOps, step, wants, osem, M.run_bind, M.mapL, M.run, M.ok, M.fresh, M.write, M.look, M.lift, putD, Arb.set, ev, Arb.get, keepFr, bin, intBin, strBin, mk, params, cellsM, load, obRead, fadr, fld, isl, iarr, xarr, idx, len, valid, slc, bound, store, splice, nilc, un, eqs, eq0, evalFeet, footOf, M.foot, orderOk, apartAll, apart1, clash, meets, callM, fcallM, callee, fz1, fzC, fz, flat, flat1, flat0, flatI, Option.bind_some, putAll, M.bind, hp, rng, h1]) ?_
    refine Wp.cond rfl ?_
    cases hb : decide (p.1 ≤ m) && decide (m ≤ p.2) with
    | true =>
      refine Wp.seq ?_
      refine Wp.rgn (K := 0) (fun n _ => by simp [evalRgn, Option.map_some, evalOps, step, wants, osem, M.run_bind, M.mapL, M.run, M.ok, M.fresh, M.write, M.look, M.lift, putD, Arb.set, ev, Arb.get, keepFr, bin, intBin, strBin, mk, params, cellsM, load, obRead, fadr, fld, isl, iarr, xarr, idx, len, valid, slc, bound, store, splice, nilc, un, eqs, eq0, evalFeet, footOf, M.foot, orderOk, apartAll, apart1, clash, meets, callM, fcallM, callee, fz1, fzC, fz, flat, flat1, flat0, flatI, Option.bind_some, putAll, M.bind]; rfl) ?_
      refine Wp.ret ?_
      rw [show hasI l m = true from any_true hp hb]; rfl
    | false =>
      refine Wp.skip ?_
      refine Wp.rgn (K := 0) (fun n _ => by simp [evalRgn, Option.map_some, evalOps, step, wants, osem, M.run_bind, M.mapL, M.run, M.ok, M.fresh, M.write, M.look, M.lift, putD, Arb.set, ev, Arb.get, keepFr, bin, intBin, strBin, mk, params, cellsM, load, obRead, fadr, fld, isl, iarr, xarr, idx, len, valid, slc, bound, store, splice, nilc, un, eqs, eq0, evalFeet, footOf, M.foot, orderOk, apartAll, apart1, clash, meets, callM, fcallM, callee, fz1, fzC, fz, flat, flat1, flat0, flatI, Option.bind_some, putAll, M.bind]; rfl) ?_
      refine ⟨by simp [again, keepFr, get, nrm, wrap_succ hi hl], ?_⟩
      unfold hasI at hg ⊢
      rw [take_succ_any hp, hg, hb]; rfl
  · intro hg
    rw [List.take_length] at hg
    refine Wp.seq (Wp.seq ?_)
    refine Wp.rgn (K := 0) (fun n _ => by simp [evalRgn, Option.map_some, evalOps, step, wants, osem, M.run_bind, M.mapL, M.run, M.ok, M.fresh, M.write, M.look, M.lift, putD, Arb.set, ev, Arb.get, keepFr, bin, intBin, strBin, mk, params, cellsM, load, obRead, fadr, fld, isl, iarr, xarr, idx, len, valid, slc, bound, store, splice, nilc, un, eqs, eq0, evalFeet, footOf, M.foot, orderOk, apartAll, apart1, clash, meets, callM, fcallM, callee, fz1, fzC, fz, flat, flat1, flat0, flatI, Option.bind_some, putAll, M.bind]; rfl) ?_
    refine Wp.cond rfl (Wp.exit ?_)
    simp only [Ex.then, Ex.inBlock, if_true]
    refine Wp.seq ?_
    refine Wp.rgn (K := 0) (fun n _ => by simp [evalRgn, Option.map_some, evalOps, step, wants, osem, M.run_bind, M.mapL, M.run, M.ok, M.fresh, M.write, M.look, M.lift, putD, Arb.set, ev, Arb.get, keepFr, bin, intBin, strBin, mk, params, cellsM, load, obRead, fadr, fld, isl, iarr, xarr, idx, len, valid, slc, bound, store, splice, nilc, un, eqs, eq0, evalFeet, footOf, M.foot, orderOk, apartAll, apart1, clash, meets, callM, fcallM, callee, fz1, fzC, fz, flat, flat1, flat0, flatI, Option.bind_some, putAll, M.bind]; rfl) ?_
    refine Wp.ret ?_
    rw [hg]; rfl

theorem hasT_any (l : List ByteArray) (t : ByteArray) : hasT l t = l.any (fun x => x == t) := by
  rw [Bool.eq_iff_iff, hasT_iff, List.any_eq_true]
  constructor
  · exact fun h => ⟨t, h, by rw [ba_beq]; simp⟩
  · rintro ⟨x, hx, he⟩
    rw [ba_beq, decide_eq_true_eq] at he
    exact he ▸ hx
theorem p_hasT (h : prog 49 = some F49) (l : List ByteArray) (m : ByteArray) (hl : l.length ≤ maxLen) : Ans prog 49 [.iv (.sl 1 (l.map st1)), .iv (.str m)] (.iv (.bool (hasT l m))) := by
  rw [hasT_any]
  refine Ans.of h rfl rfl (Wp.seq ?_)
  refine Wp.rgn (K := 0) (fun n _ => by simp [evalRgn, Option.map_some, evalOps, step, wants, osem, M.run_bind, M.mapL, M.run, M.ok, M.fresh, M.write, M.look, M.lift, putD, Arb.set, ev, Arb.get, keepFr, bin, intBin, strBin, mk, params, cellsM, load, obRead, fadr, fld, isl, iarr, xarr, idx, len, valid, slc, bound, store, splice, nilc, un, eqs, eq0, evalFeet, footOf, M.foot, orderOk, apartAll, apart1, clash, meets, callM, fcallM, callee, fz1, fzC, fz, flat, flat1, flat0, flatI, Option.bind_some, putAll, M.bind]; rfl) ?_
  refine Wp.seq (Wp.seq ?_)
  refine Wp.rgn (K := 0) (fun n _ => by simp [evalRgn, Option.map_some, evalOps, step, wants, osem, M.run_bind, M.mapL, M.run, M.ok, M.fresh, M.write, M.look, M.lift, putD, Arb.set, ev, Arb.get, keepFr, bin, intBin, strBin, mk, params, cellsM, load, obRead, fadr, fld, isl, iarr, xarr, idx, len, valid, slc, bound, store, splice, nilc, un, eqs, eq0, evalFeet, footOf, M.foot, orderOk, apartAll, apart1, clash, meets, callM, fcallM, callee, fz1, fzC, fz, flat, flat1, flat0, flatI, Option.bind_some, putAll, M.bind]; rfl) ?_
  refine Wp.block ?_
  refine Wp.range l.length (fun i => ⟨[(0, .iv (.sl 1 (l.map st1))), (1, .iv (.str m)), (5, .iv (.int .i64 i))], [], 1128⟩) (fun i => (l.take i).any (fun x => x == m) = false) (by simp [keepFr, get]) (by simp) ?_ ?_
  · intro i hi hg
    obtain ⟨p, hp⟩ : ∃ x, l[i]? = some x := ⟨_, List.getElem?_eq_getElem hi⟩
    refine Wp.seq (Wp.seq ?_)
    refine Wp.rgn (K := 0) (fun n _ => by simp [evalRgn, Option.map_some, evalOps, step, wants, osem, M.run_bind, M.mapL, M.run, M.ok, M.fresh, M.write, M.look, M.lift, putD, Arb.set, ev, Arb.get, keepFr, bin, intBin, strBin, mk, params, cellsM, load, obRead, fadr, fld, isl, iarr, xarr, idx, len, valid, slc, bound, store, splice, nilc, un, eqs, eq0, evalFeet, footOf, M.foot, orderOk, apartAll, apart1, clash, meets, callM, fcallM, callee, fz1, fzC, fz, flat, flat1, flat0, flatI, Option.bind_some, putAll, M.bind, hi]; rfl) ?_
    refine Wp.cond rfl (Wp.skip (Wp.seq (Wp.block (Wp.seq ?_))))
    refine Wp.rgn (K := 0) (fun n _ => by simp [evalRgn, Option.map_some, evalOps, step, wants, osem, M.run_bind, M.mapL, M.run, M.ok, M.fresh, M.write, M.look, M.lift, putD, Arb.set, ev, Arb.get, keepFr, bin, intBin, strBin, mk, params, cellsM, load, obRead, fadr, fld, isl, iarr, xarr, idx, len, valid, slc, bound, store, splice, nilc, un, eqs, eq0, evalFeet, footOf, M.foot, orderOk, apartAll, apart1, clash, meets, callM, fcallM, callee, fz1, fzC, fz, flat, flat1, flat0, flatI, Option.bind_some, putAll, M.bind, hp, st1]; rfl) ?_
    refine Wp.cond rfl ?_
    cases hb : p == m with
    | true =>
      refine Wp.seq ?_
      refine Wp.rgn (K := 0) (fun n _ => by simp [evalRgn, Option.map_some, evalOps, step, wants, osem, M.run_bind, M.mapL, M.run, M.ok, M.fresh, M.write, M.look, M.lift, putD, Arb.set, ev, Arb.get, keepFr, bin, intBin, strBin, mk, params, cellsM, load, obRead, fadr, fld, isl, iarr, xarr, idx, len, valid, slc, bound, store, splice, nilc, un, eqs, eq0, evalFeet, footOf, M.foot, orderOk, apartAll, apart1, clash, meets, callM, fcallM, callee, fz1, fzC, fz, flat, flat1, flat0, flatI, Option.bind_some, putAll, M.bind]; rfl) ?_
      refine Wp.ret ?_
      rw [show l.any (fun x => x == m) = true from any_true hp hb]; rfl
    | false =>
      refine Wp.skip ?_
      refine Wp.rgn (K := 0) (fun n _ => by simp [evalRgn, Option.map_some, evalOps, step, wants, osem, M.run_bind, M.mapL, M.run, M.ok, M.fresh, M.write, M.look, M.lift, putD, Arb.set, ev, Arb.get, keepFr, bin, intBin, strBin, mk, params, cellsM, load, obRead, fadr, fld, isl, iarr, xarr, idx, len, valid, slc, bound, store, splice, nilc, un, eqs, eq0, evalFeet, footOf, M.foot, orderOk, apartAll, apart1, clash, meets, callM, fcallM, callee, fz1, fzC, fz, flat, flat1, flat0, flatI, Option.bind_some, putAll, M.bind]; rfl) ?_
      refine ⟨by simp [again, keepFr, get, nrm, wrap_succ hi hl], ?_⟩
      rw [take_succ_any hp, hg, hb]; rfl
  · intro hg
    rw [List.take_length] at hg
    refine Wp.seq (Wp.seq ?_)
    refine Wp.rgn (K := 0) (fun n _ => by simp [evalRgn, Option.map_some, evalOps, step, wants, osem, M.run_bind, M.mapL, M.run, M.ok, M.fresh, M.write, M.look, M.lift, putD, Arb.set, ev, Arb.get, keepFr, bin, intBin, strBin, mk, params, cellsM, load, obRead, fadr, fld, isl, iarr, xarr, idx, len, valid, slc, bound, store, splice, nilc, un, eqs, eq0, evalFeet, footOf, M.foot, orderOk, apartAll, apart1, clash, meets, callM, fcallM, callee, fz1, fzC, fz, flat, flat1, flat0, flatI, Option.bind_some, putAll, M.bind]; rfl) ?_
    refine Wp.cond rfl (Wp.exit ?_)
    simp only [Ex.then, Ex.inBlock, if_true]
    refine Wp.seq ?_
    refine Wp.rgn (K := 0) (fun n _ => by simp [evalRgn, Option.map_some, evalOps, step, wants, osem, M.run_bind, M.mapL, M.run, M.ok, M.fresh, M.write, M.look, M.lift, putD, Arb.set, ev, Arb.get, keepFr, bin, intBin, strBin, mk, params, cellsM, load, obRead, fadr, fld, isl, iarr, xarr, idx, len, valid, slc, bound, store, splice, nilc, un, eqs, eq0, evalFeet, footOf, M.foot, orderOk, apartAll, apart1, clash, meets, callM, fcallM, callee, fz1, fzC, fz, flat, flat1, flat0, flatI, Option.bind_some, putAll, M.bind]; rfl) ?_
    refine Wp.ret ?_
    rw [hg]; rfl
end
end Arb

/-
  WHICH EVENTS A FILTER HAS.
-/
set_option linter.unusedSimpArgs false
namespace Arb
open Go

section
variable {prog : Nat → Option IFn}

structure Has3 (prog : Nat → Option IFn) : Prop where
  h35 : prog 35 = some F35
  h43 : prog 43 = some F43
  h48 : prog 48 = some F48
  h49 : prog 49 = some F49

set_option maxHeartbeats 1000000 in
theorem p_hasV (H : Has3 prog) (x : S) (v : V) (hi : x.i.length ≤ maxLen) (hs : x.s.length ≤ maxLen) : Ans prog 35 [x.av, v.av] (.iv (.bool (hasV x v))) := by
  obtain ⟨K1, hK1⟩ := p_rightV H.h43 v
  refine Ans.of H.h35 rfl rfl (Wp.seq ?_)
  refine Wp.rgn (K := 0) (fun n _ => by simp [evalRgn, Option.map_some, evalOps, step, wants, osem, M.run_bind, M.mapL, M.run, M.ok, M.fresh, M.write, M.look, M.lift, putD, Arb.set, ev, Arb.get, keepFr, bin, intBin, strBin, mk, params, cellsM, load, obRead, fadr, fld, isl, iarr, xarr, idx, len, valid, slc, bound, store, splice, nilc, un, eqs, eq0, evalFeet, footOf, M.foot, orderOk, apartAll, apart1, clash, meets, callM, fcallM, callee, fz1, fzC, fz, flat, flat1, flat0, flatI, Option.bind_some, putAll, M.bind, S.av, V.av]; rfl) ?_
  refine Wp.seq (Wp.seq ?_)
  refine Wp.rgn (K := K1) (s' := ⟨[(2, .ref 1000 0 0 0), (3, .ref 1064 0 0 0), (7, .iv (.bool (!rightV v)))], [(1000, .cells [.iv (.bool x.a), .iv (.sl 2 (x.i.map rng)), .iv (.bool x.c), .iv (.sl 1 (x.s.map st1))]), (1064, .cells [.iv (.int .i64 v.k), .iv (.int .i64 v.n), .iv (.str v.s)])], 1384⟩) (fun n hn => by
    have e1 := hK1 n hn
    simp only [V.av] at e1
    generalize evalF prog n = g at e1
    simp [evalRgn, Option.map_some, evalOps, step, wants, osem, M.run_bind, M.mapL, M.run, M.ok, M.fresh, M.write, M.look, M.lift, putD, Arb.set, ev, Arb.get, keepFr, bin, intBin, strBin, mk, params, cellsM, load, obRead, fadr, fld, isl, iarr, xarr, idx, len, valid, slc, bound, store, splice, nilc, un, eqs, eq0, evalFeet, footOf, M.foot, orderOk, apartAll, apart1, clash, meets, callM, fcallM, callee, fz1, fzC, fz, flat, flat1, flat0, flatI, Option.bind_some, putAll, M.bind, e1]) ?_
  unfold hasV
  refine Wp.cond rfl ?_
  cases hr : rightV v with
  | false =>
    refine Wp.seq ?_
    refine Wp.rgn (K := 0) (fun n _ => by simp [evalRgn, Option.map_some, evalOps, step, wants, osem, M.run_bind, M.mapL, M.run, M.ok, M.fresh, M.write, M.look, M.lift, putD, Arb.set, ev, Arb.get, keepFr, bin, intBin, strBin, mk, params, cellsM, load, obRead, fadr, fld, isl, iarr, xarr, idx, len, valid, slc, bound, store, splice, nilc, un, eqs, eq0, evalFeet, footOf, M.foot, orderOk, apartAll, apart1, clash, meets, callM, fcallM, callee, fz1, fzC, fz, flat, flat1, flat0, flatI, Option.bind_some, putAll, M.bind]; rfl) ?_
    exact Wp.ret rfl
  | true =>
    refine Wp.skip (Wp.seq (Wp.seq ?_))
    refine Wp.rgn (K := 0) (fun n _ => by simp [evalRgn, Option.map_some, evalOps, step, wants, osem, M.run_bind, M.mapL, M.run, M.ok, M.fresh, M.write, M.look, M.lift, putD, Arb.set, ev, Arb.get, keepFr, bin, intBin, strBin, mk, params, cellsM, load, obRead, fadr, fld, isl, iarr, xarr, idx, len, valid, slc, bound, store, splice, nilc, un, eqs, eq0, evalFeet, footOf, M.foot, orderOk, apartAll, apart1, clash, meets, callM, fcallM, callee, fz1, fzC, fz, flat, flat1, flat0, flatI, Option.bind_some, putAll, M.bind]; rfl) ?_
    refine Wp.block (Wp.seq ?_)
    refine Wp.rgn (K := 0) (fun n _ => by simp [evalRgn, Option.map_some, evalOps, step, wants, osem, M.run_bind, M.mapL, M.run, M.ok, M.fresh, M.write, M.look, M.lift, putD, Arb.set, ev, Arb.get, keepFr, bin, intBin, strBin, mk, params, cellsM, load, obRead, fadr, fld, isl, iarr, xarr, idx, len, valid, slc, bound, store, splice, nilc, un, eqs, eq0, evalFeet, footOf, M.foot, orderOk, apartAll, apart1, clash, meets, callM, fcallM, callee, fz1, fzC, fz, flat, flat1, flat0, flatI, Option.bind_some, putAll, M.bind]; rfl) ?_
    refine Wp.cond rfl ?_
    cases h0 : v.k == 0 with
    | true =>
      refine Wp.seq ?_
      refine Wp.rgn (K := 0) (fun n _ => by simp [evalRgn, Option.map_some, evalOps, step, wants, osem, M.run_bind, M.mapL, M.run, M.ok, M.fresh, M.write, M.look, M.lift, putD, Arb.set, ev, Arb.get, keepFr, bin, intBin, strBin, mk, params, cellsM, load, obRead, fadr, fld, isl, iarr, xarr, idx, len, valid, slc, bound, store, splice, nilc, un, eqs, eq0, evalFeet, footOf, M.foot, orderOk, apartAll, apart1, clash, meets, callM, fcallM, callee, fz1, fzC, fz, flat, flat1, flat0, flatI, Option.bind_some, putAll, M.bind]; rfl) ?_
      exact Wp.ret rfl
    | false =>
      refine Wp.seq ?_
      refine Wp.rgn (K := 0) (fun n _ => by simp [evalRgn, Option.map_some, evalOps, step, wants, osem, M.run_bind, M.mapL, M.run, M.ok, M.fresh, M.write, M.look, M.lift, putD, Arb.set, ev, Arb.get, keepFr, bin, intBin, strBin, mk, params, cellsM, load, obRead, fadr, fld, isl, iarr, xarr, idx, len, valid, slc, bound, store, splice, nilc, un, eqs, eq0, evalFeet, footOf, M.foot, orderOk, apartAll, apart1, clash, meets, callM, fcallM, callee, fz1, fzC, fz, flat, flat1, flat0, flatI, Option.bind_some, putAll, M.bind]; rfl) ?_
      refine Wp.cond rfl ?_
      cases h1 : v.k == 1 with
      | true =>
        obtain ⟨K2, hK2⟩ := p_hasI H.h48 x.i v.n hi
        refine Wp.seq ?_
        refine Wp.rgn (K := K2) (fun n hn => by
          have e1 := hK2 n hn
          generalize evalF prog n = g at e1
          simp [evalRgn, Option.map_some, evalOps, step, wants, osem, M.run_bind, M.mapL, M.run, M.ok, M.fresh, M.write, M.look, M.lift, putD, Arb.set, ev, Arb.get, keepFr, bin, intBin, strBin, mk, params, cellsM, load, obRead, fadr, fld, isl, iarr, xarr, idx, len, valid, slc, bound, store, splice, nilc, un, eqs, eq0, evalFeet, footOf, M.foot, orderOk, apartAll, apart1, clash, meets, callM, fcallM, callee, fz1, fzC, fz, flat, flat1, flat0, flatI, Option.bind_some, putAll, M.bind, e1]
          rfl) ?_
        exact Wp.ret rfl
      | false =>
        refine Wp.skip ?_
        simp only [Ex.then, Ex.inBlock]
        obtain ⟨K3, hK3⟩ := p_hasT H.h49 x.s v.s hs
        refine Wp.seq ?_
        refine Wp.rgn (K := K3) (fun n hn => rgn_quiet' rfl (by
          have e1 := hK3 n hn
          generalize evalF prog n = g at e1
          simp [evalRgn, Option.map_some, evalOps, step, wants, osem, M.run_bind, M.mapL, M.run, M.ok, M.fresh, M.write, M.look, M.lift, putD, Arb.set, ev, Arb.get, keepFr, bin, intBin, strBin, mk, params, cellsM, load, obRead, fadr, fld, isl, iarr, xarr, idx, len, valid, slc, bound, store, splice, nilc, un, eqs, eq0, evalFeet, footOf, M.foot, orderOk, apartAll, apart1, clash, meets, callM, fcallM, callee, fz1, fzC, fz, flat, flat1, flat0, flatI, Option.bind_some, putAll, M.bind, e1]
          rfl)) ?_
        refine Wp.ret ?_
        simp [FinS, F35, resAll, resM, outA, ev, get, M.run, shut, fzA, fz1, fzC, fz, M.run_bind, M.bind]
        cases hasT x.s v.s <;> cases x.c <;> rfl

end
end Arb

/-
  HOW FAR AN EVENT IS, as it is computed.
-/
set_option linter.unusedSimpArgs false
namespace Arb
open Go

def apartI (a b : Int) : Int := if b < a then IntKind.wrap .u64 (IntKind.wrap .u64 a - IntKind.wrap .u64 b) else IntKind.wrap .u64 (IntKind.wrap .u64 b - IntKind.wrap .u64 a)
def mnU (a b : Int) : Int := if b < a then b else a
def nearTo (n : Int) : List (Int × Int) → Int → Int
  | [], m => m
  | p :: r, m => nearTo n r (if decide (p.1 ≤ p.2) then mnU m (mnU (apartI p.1 n) (apartI p.2 n)) else m)
def distV (x : S) (v : V) : Int := if hasV x v then 0 else if v.k != 1 || !rightV v then far else nearTo v.n x.i far
def distTo (b : B) (e : E) : Nat → Int
  | 0 => 0
  | i + 1 => addF (distTo b e i) (distV (b.get i) (e.get i))
def distB (b : B) (e : E) : Int := distTo b e 4
section
variable {prog : Nat → Option IFn}

theorem p_apart (h : prog 44 = some F44) (a b : Int) : Ans prog 44 [.iv (.int .i64 a), .iv (.int .i64 b)] (.iv (.int .u64 (apartI a b))) := by
  refine Ans.of h rfl rfl (Wp.seq ?_)
  refine Wp.rgn (K := 0) (fun n _ => by simp [evalRgn, Option.map_some, evalOps, step, wants, osem, M.run_bind, M.mapL, M.run, M.ok, M.fresh, M.write, M.look, M.lift, putD, Arb.set, ev, Arb.get, keepFr, bin, intBin, strBin, mk, params, cellsM, load, obRead, fadr, fld, isl, iarr, xarr, idx, len, valid, slc, bound, store, splice, nilc, un, eqs, eq0, evalFeet, footOf, M.foot, orderOk, apartAll, apart1, clash, meets, callM, fcallM, callee, fz1, fzC, fz, flat, flat1, flat0, flatI, Option.bind_some, putAll, M.bind]; rfl) ?_
  refine Wp.seq (Wp.seq ?_)
  refine Wp.rgn (K := 0) (fun n _ => by simp [evalRgn, Option.map_some, evalOps, step, wants, osem, M.run_bind, M.mapL, M.run, M.ok, M.fresh, M.write, M.look, M.lift, putD, Arb.set, ev, Arb.get, keepFr, bin, intBin, strBin, mk, params, cellsM, load, obRead, fadr, fld, isl, iarr, xarr, idx, len, valid, slc, bound, store, splice, nilc, un, eqs, eq0, evalFeet, footOf, M.foot, orderOk, apartAll, apart1, clash, meets, callM, fcallM, callee, fz1, fzC, fz, flat, flat1, flat0, flatI, Option.bind_some, putAll, M.bind]; rfl) ?_
  refine Wp.cond rfl ?_
  unfold apartI
  cases hd : decide (a > b) with
  | true =>
    rw [if_pos (of_decide_eq_true hd)]
    refine Wp.rgn (K := 0) (fun n _ => by simp [evalRgn, Option.map_some, evalOps, step, wants, osem, M.run_bind, M.mapL, M.run, M.ok, M.fresh, M.write, M.look, M.lift, putD, Arb.set, ev, Arb.get, keepFr, bin, intBin, strBin, mk, params, cellsM, load, obRead, fadr, fld, isl, iarr, xarr, idx, len, valid, slc, bound, store, splice, nilc, un, eqs, eq0, evalFeet, footOf, M.foot, orderOk, apartAll, apart1, clash, meets, callM, fcallM, callee, fz1, fzC, fz, flat, flat1, flat0, flatI, Option.bind_some, putAll, M.bind]; rfl) ?_
    simp only [Ex.then]
    refine Wp.seq ?_
    refine Wp.rgn (K := 0) (fun n _ => by simp [evalRgn, Option.map_some, evalOps, step, wants, osem, M.run_bind, M.mapL, M.run, M.ok, M.fresh, M.write, M.look, M.lift, putD, Arb.set, ev, Arb.get, keepFr, bin, intBin, strBin, mk, params, cellsM, load, obRead, fadr, fld, isl, iarr, xarr, idx, len, valid, slc, bound, store, splice, nilc, un, eqs, eq0, evalFeet, footOf, M.foot, orderOk, apartAll, apart1, clash, meets, callM, fcallM, callee, fz1, fzC, fz, flat, flat1, flat0, flatI, Option.bind_some, putAll, M.bind]; rfl) ?_
    exact Wp.ret rfl
  | false =>
    rw [if_neg (of_decide_eq_false hd)]
    refine Wp.skip ?_
    simp only [Ex.then]
    refine Wp.seq ?_
    refine Wp.rgn (K := 0) (fun n _ => by simp [evalRgn, Option.map_some, evalOps, step, wants, osem, M.run_bind, M.mapL, M.run, M.ok, M.fresh, M.write, M.look, M.lift, putD, Arb.set, ev, Arb.get, keepFr, bin, intBin, strBin, mk, params, cellsM, load, obRead, fadr, fld, isl, iarr, xarr, idx, len, valid, slc, bound, store, splice, nilc, un, eqs, eq0, evalFeet, footOf, M.foot, orderOk, apartAll, apart1, clash, meets, callM, fcallM, callee, fz1, fzC, fz, flat, flat1, flat0, flatI, Option.bind_some, putAll, M.bind]; rfl) ?_
    exact Wp.ret rfl

structure Dist (prog : Nat → Option IFn) : Prop extends Has3 prog where
  h28 : prog 28 = some F28
  h29 : prog 29 = some F29
  h44 : prog 44 = some F44

end
end Arb

/-
  HOW FAR AN EVENT IS: of a merger's at most so much farther from the nearer one of both.
-/
set_option linter.unusedSimpArgs false
namespace Arb
open Go

theorem addF_eq {a b : Int} (ha : 0 ≤ a ∧ a ≤ far) (hb : 0 ≤ b ∧ b ≤ far) : addF a b = min (a + b) far := by
  unfold addF far at *
  rw [IntKind.wrap_u64]
  split <;> omega
structure S.num (x : S) : Prop where
  r : in64s x.i
  le : ∀ p ∈ x.i, p.1 ≤ p.2

/-! ### two sets, and one for both -/
/-! ### boxes -/
def E.ok (e : E) : Prop := ∀ i, i < 4 → in64 (e.get i).n
def B.num (b : B) : Prop := ∀ i, i < 4 → (b.get i).num
end Arb

/-
  A MERGER OF TWO, AND HOW FAR IT REACHES.
-/
set_option linter.unusedSimpArgs false
namespace Arb
open Go

structure Merged (a b : List B) (x y z : B) (d : Int) : Prop where
  ha : a = [x]
  hb : b = [y]
  xn : x.num
  yn : y.num
  zn : z.num
  zo : z.ok
  d0 : 0 ≤ d
  d1 : d < 9223372036854775808
  near : ∀ e : E, e.ok → mnU (distB x e) (distB y e) ≤ distB z e + d

theorem addG_eq {a b : Int} (ha : 0 ≤ a ∧ a ≤ far) (hb : 0 ≤ b ∧ b ≤ far) : addG a b = min (a + b) far := by
  unfold addG far at *
  rw [IntKind.wrap_u64, IntKind.wrap_u64]
  split <;> omega
theorem tryF_some {r : List B × Int × Bool} {sa sb slack : Int} (h : (tryF r sa sb slack).2.2 = true) : r.2.2 = true ∧ addG (mxU sa sb) r.2.1 ≤ slack ∧ addG (mxU sa sb) r.2.1 ≠ far ∧ tryF r sa sb slack = (r.1, addG (mxU sa sb) r.2.1, true) := by
  unfold tryF at h ⊢
  split at h
  · cases h
  · rename_i hc
    rw [if_neg hc]
    simp only [Bool.or_eq_true, Bool.not_eq_true', beq_iff_eq, not_or, Bool.not_eq_false, decide_eq_true_eq] at hc
    exact ⟨hc.1.1, by omega, hc.2, rfl⟩
end Arb

/-
  MergeSlack, MergeThree: THE WALKS.
-/
set_option linter.unusedSimpArgs false
namespace Arb
open Go

theorem wfu {n : Int} (h : (Lit.int .u64 n).wf = true) : 0 ≤ n ∧ n ≤ far := by
  simp only [Lit.wf, Bool.and_eq_true, decide_eq_true_eq] at h
  rw [show IntKind.u64.min = 0 by decide, show IntKind.u64.max = 18446744073709551615 by decide] at h
  exact h
theorem arg_u64 {x : AV} (h : ArgIs false [.int .u64] x) : ∃ n, x = .iv (.int .u64 n) ∧ 0 ≤ n ∧ n ≤ far := by
  obtain ⟨xs, h, y, rfl, rfl⟩ := h
  obtain ⟨n, rfl, hn⟩ := fit_int h.1
  exact ⟨n, rfl, wfu hn⟩
structure Lib8 (prog : Nat → Option IFn) : Prop extends Lib7 prog, Dist prog where
  h6 : prog 6 = some F6
  h8 : prog 8 = some F8
  h15 : prog 15 = some F15
  h20 : prog 20 = some F20
  h34 : prog 34 = some F34

section
variable {prog : Nat → Option IFn}

end
end Arb

/-
  MergeThree: THE WALK.
-/
set_option linter.unusedSimpArgs false
namespace Arb
open Go

section
variable {prog : Nat → Option IFn}

end
end Arb
