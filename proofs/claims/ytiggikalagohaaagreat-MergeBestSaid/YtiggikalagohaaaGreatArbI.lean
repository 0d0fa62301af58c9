/-
  THE FUNCTIONS THAT THE PLAIN PROOFS NAME ARE THE PROGRAM'S; awake() is true.
-/
import Derived.Test.YtiggikalagohaaaGreatArbA
import Derived.Test.YtiggikalagohaaaGreatArbB
import Derived.Test.YtiggikalagohaaaGreatArbC
import Derived.Test.YtiggikalagohaaaGreatArbD
import Derived.Test.YtiggikalagohaaaGreatArbE
import Derived.Test.YtiggikalagohaaaGreatArbF
import Derived.Test.YtiggikalagohaaaGreatArbG
import Derived.Test.YtiggikalagohaaaGreatArbH
set_option linter.unusedSimpArgs false
namespace Arb
open Go

theorem lib1 : Lib1 (get Tied.fns) := ⟨rfl, rfl, rfl, rfl, rfl, rfl, rfl, rfl, rfl, rfl, rfl, rfl⟩
theorem lib2 : Lib2 (get Tied.fns) := ⟨rfl, rfl, rfl, rfl, rfl, rfl, rfl, rfl, rfl, rfl, rfl, rfl, rfl⟩
theorem lib3 : Lib3 (get Tied.fns) := ⟨lib2, rfl, rfl, rfl, rfl, rfl, rfl, rfl, rfl, rfl⟩
theorem lib4 : Lib4 (get Tied.fns) := ⟨lib1, lib3, rfl, rfl, rfl⟩
theorem lib5 : Lib5 (get Tied.fns) := ⟨lib4, rfl, rfl⟩
theorem lib6 : Lib6 (get Tied.fns) := ⟨lib5, rfl, rfl, rfl, rfl⟩
theorem lib7 : Lib7 (get Tied.fns) := ⟨lib6, rfl, rfl, rfl, rfl, rfl, rfl⟩

def isT : Option AV → Bool
  | some (.iv (.bool true)) => true
  | _ => false
theorem isT_eq {x : Option AV} (h : isT x = true) : x = some (.iv (.bool true)) := by
  unfold isT at h
  split at h
  · rfl
  · cases h
theorem awake_run : isT ((evalF (get Tied.fns) 60 4 [] []).bind shut) = true := by kernel_rfl
theorem awake_true : Ans (get Tied.fns) 4 [] (.iv (.bool true)) := by
  have h := isT_eq awake_run
  cases he : evalF (get Tied.fns) 60 4 [] [] with
  | none => rw [he] at h; cases h
  | some p =>
    rw [he] at h
    exact (Ev.at he).ans h
end Arb

/-
  A NUMBER'S DIGITS; A STRING THAT NO SET NAMES: some string.
-/
set_option linter.unusedSimpArgs false
namespace Arb
open Go

section
variable {prog : Nat → Option IFn}

/-- what a call answers, some value -/
theorem Ans.ofx {f : Nat} {fn : IFn} (hf : prog f = some fn) (hcl : fn.cl = none) {args : List AV} (hn : args.length = fn.np) (P : AV → Prop) (h : Wp prog fn.body ⟨params args 0, [], 1000⟩ (fun e s => ∃ y, P y ∧ FinS fn.res y e s)) : ∃ y, P y ∧ Ans prog f args y := by
  obtain ⟨K, ex, s', h, y, hy, q⟩ := h
  exact ⟨y, hy, Ans.of hf hcl hn ⟨K, ex, s', h, q⟩⟩

theorem strB_size (l : List Int) : (strB l).size = l.length := by simp [strB, ByteArray.size]

set_option maxHeartbeats 2000000 in
theorem p_digits (h : prog 114 = some F114) : ∀ u : Nat, u ≤ 100000 → ∃ s : ByteArray, s.size ≤ u + 1 ∧ Ans prog 114 [.iv (.int .u64 u)] (.iv (.str s)) := by
  intro u
  induction u using Nat.strongRecOn with
  | _ u ih =>
    intro hu
    have hx : ∃ y, (∃ s : ByteArray, s.size ≤ u + 1 ∧ y = .iv (.str s)) ∧ Ans prog 114 [.iv (.int .u64 u)] y := by
      refine Ans.ofx h rfl rfl _ (Wp.seq ?_)
      refine Wp.rgn (K := 0) (fun n _ => by simp [evalRgn, Option.map_some, evalOps, step, wants, osem, M.run_bind, M.mapL, M.run, M.ok, M.fresh, M.write, M.look, M.lift, putD, Arb.set, ev, Arb.get, keepFr, bin, intBin, strBin, mk, params, cellsM, load, obRead, fadr, fld, isl, iarr, xarr, idx, len, valid, slc, bound, store, splice, nilc, un, eqs, eq0, evalFeet, footOf, M.foot, orderOk, apartAll, apart1, clash, meets, callM, fcallM, callee, fz1, fzC, fz, flat, flat1, flat0, flatI, Option.bind_some, putAll, M.bind]; rfl) ?_
      refine Wp.seq (Wp.seq ?_)
      refine Wp.rgn (K := 0) (fun n _ => by simp [evalRgn, Option.map_some, evalOps, step, wants, osem, M.run_bind, M.mapL, M.run, M.ok, M.fresh, M.write, M.look, M.lift, putD, Arb.set, ev, Arb.get, keepFr, bin, intBin, strBin, mk, params, cellsM, load, obRead, fadr, fld, isl, iarr, xarr, idx, len, valid, slc, bound, store, splice, nilc, un, eqs, eq0, evalFeet, footOf, M.foot, orderOk, apartAll, apart1, clash, meets, callM, fcallM, callee, fz1, fzC, fz, flat, flat1, flat0, flatI, Option.bind_some, putAll, M.bind]; rfl) ?_
      refine Wp.cond rfl ?_
      cases hd : decide ((u : Int) < 10) with
      | true =>
        refine Wp.seq ?_
        refine Wp.rgn (K := 0) (fun n _ => by simp [evalRgn, Option.map_some, evalOps, step, wants, osem, M.run_bind, M.mapL, M.run, M.ok, M.fresh, M.write, M.look, M.lift, putD, Arb.set, ev, Arb.get, keepFr, bin, intBin, strBin, mk, params, cellsM, load, obRead, fadr, fld, isl, iarr, xarr, idx, len, valid, slc, bound, store, splice, nilc, un, eqs, eq0, evalFeet, footOf, M.foot, orderOk, apartAll, apart1, clash, meets, callM, fcallM, callee, fz1, fzC, fz, flat, flat1, flat0, flatI, Option.bind_some, putAll, M.bind, setAll, elems, bytesOf]; rfl) ?_
        exact Wp.ret ⟨_, ⟨_, by rw [strB_size]; simp, rfl⟩, rfl⟩
      | false =>
        have hd := of_decide_eq_false hd
        obtain ⟨s, hs, K, hK⟩ := ih (u / 10) (by omega) (by omega)
        have hw2 : ((u / 10 : Nat) : Int) = (u : Int) / 10 := by omega
        have hw : IntKind.wrap .u64 ((u : Int) / 10) = (u : Int) / 10 := by rw [IntKind.wrap_u64]; omega
        refine Wp.skip (Wp.seq ?_)
        have hsz : ∀ x : Int, s.size + (strB [x]).size ≤ 4611686018427387904 := fun x => by rw [strB_size, List.length_singleton]; omega
        refine Wp.rgn (K := K) (fun n hn => by
          have e1 := hK n hn
          rw [hw2] at e1
          generalize evalF prog n = g at e1
          simp [evalRgn, Option.map_some, evalOps, step, wants, osem, M.run_bind, M.mapL, M.run, M.ok, M.fresh, M.write, M.look, M.lift, putD, Arb.set, ev, Arb.get, keepFr, bin, intBin, strBin, mk, params, cellsM, load, obRead, fadr, fld, isl, iarr, xarr, idx, len, valid, slc, bound, store, splice, nilc, un, eqs, eq0, evalFeet, footOf, M.foot, orderOk, apartAll, apart1, clash, meets, callM, fcallM, callee, fz1, fzC, fz, flat, flat1, flat0, flatI, Option.bind_some, putAll, M.bind, setAll, elems, bytesOf, hw, e1, hsz]
          rfl) ?_
        refine Wp.ret ⟨_, ⟨_, ?_, rfl⟩, rfl⟩
        rw [ByteArray.size_append, strB_size]; simp; omega
    obtain ⟨y, ⟨s, hs, rfl⟩, hy⟩ := hx
    exact ⟨s, hs, hy⟩

theorem p_decimal (h114 : prog 114 = some F114) (h : prog 113 = some F113) (u : Nat) (hu : u ≤ 100000) : ∃ s : ByteArray, s.size ≤ u + 1 ∧ Ans prog 113 [.iv (.int .i64 u)] (.iv (.str s)) := by
  obtain ⟨s, hs, K, hK⟩ := p_digits h114 u hu
  have hw : IntKind.wrap .u64 (u : Int) = u := by rw [IntKind.wrap_u64]; omega
  have hno : ¬ (u : Int) < 0 := by omega
  refine ⟨s, hs, Ans.of h rfl rfl (Wp.seq ?_)⟩
  refine Wp.rgn (K := 0) (fun n _ => by simp [evalRgn, Option.map_some, evalOps, step, wants, osem, M.run_bind, M.mapL, M.run, M.ok, M.fresh, M.write, M.look, M.lift, putD, Arb.set, ev, Arb.get, keepFr, bin, intBin, strBin, mk, params, cellsM, load, obRead, fadr, fld, isl, iarr, xarr, idx, len, valid, slc, bound, store, splice, nilc, un, eqs, eq0, evalFeet, footOf, M.foot, orderOk, apartAll, apart1, clash, meets, callM, fcallM, callee, fz1, fzC, fz, flat, flat1, flat0, flatI, Option.bind_some, putAll, M.bind]; rfl) ?_
  refine Wp.seq (Wp.seq ?_)
  refine Wp.rgn (K := 0) (s' := ⟨[(0, .iv (.int .i64 u)), (5, .iv (.bool false))], [], 1192⟩) (fun n _ => by simp [evalRgn, Option.map_some, evalOps, step, wants, osem, M.run_bind, M.mapL, M.run, M.ok, M.fresh, M.write, M.look, M.lift, putD, Arb.set, ev, Arb.get, keepFr, bin, intBin, strBin, mk, params, cellsM, load, obRead, fadr, fld, isl, iarr, xarr, idx, len, valid, slc, bound, store, splice, nilc, un, eqs, eq0, evalFeet, footOf, M.foot, orderOk, apartAll, apart1, clash, meets, callM, fcallM, callee, fz1, fzC, fz, flat, flat1, flat0, flatI, Option.bind_some, putAll, M.bind, hno]) ?_
  refine Wp.cond rfl (Wp.skip (Wp.seq ?_))
  refine Wp.rgn (K := K) (fun n hn => by
    have e1 := hK n hn
    generalize evalF prog n = g at e1
    simp [evalRgn, Option.map_some, evalOps, step, wants, osem, M.run_bind, M.mapL, M.run, M.ok, M.fresh, M.write, M.look, M.lift, putD, Arb.set, ev, Arb.get, keepFr, bin, intBin, strBin, mk, params, cellsM, load, obRead, fadr, fld, isl, iarr, xarr, idx, len, valid, slc, bound, store, splice, nilc, un, eqs, eq0, evalFeet, footOf, M.foot, orderOk, apartAll, apart1, clash, meets, callM, fcallM, callee, fz1, fzC, fz, flat, flat1, flat0, flatI, Option.bind_some, putAll, M.bind, hw, e1]
    rfl) ?_
  exact Wp.ret rfl

set_option maxHeartbeats 2000000 in
theorem p_fresh (h49 : prog 49 = some F49) (h114 : prog 114 = some F114) (h113 : prog 113 = some F113) (h : prog 111 = some F111) (l : List S) (s : ByteArray) (hl : l.length ≤ maxLen) (hs : s.size ≤ 1000) (hL : ∀ x ∈ l, x.s.length ≤ maxLen) :
    ∃ y, (∃ t : ByteArray, y = .iv (.str t)) ∧ Ans prog 111 [sets l, .iv (.str s)] y := by
  refine Ans.ofx h rfl rfl _ (Wp.seq ?_)
  refine Wp.rgn (K := 0) (fun n _ => by simp [evalRgn, Option.map_some, evalOps, step, wants, osem, M.run_bind, M.mapL, M.run, M.ok, M.fresh, M.write, M.look, M.lift, putD, Arb.set, ev, Arb.get, keepFr, bin, intBin, strBin, mk, params, cellsM, load, obRead, fadr, fld, isl, iarr, xarr, idx, len, valid, slc, bound, store, splice, nilc, un, eqs, eq0, evalFeet, footOf, M.foot, orderOk, apartAll, apart1, clash, meets, callM, fcallM, callee, fz1, fzC, fz, flat, flat1, flat0, flatI, Option.bind_some, putAll, M.bind]; rfl) ?_
  refine Wp.seq (Wp.seq ?_)
  refine Wp.rgn (K := 0) (fun n _ => by simp [evalRgn, Option.map_some, evalOps, step, wants, osem, M.run_bind, M.mapL, M.run, M.ok, M.fresh, M.write, M.look, M.lift, putD, Arb.set, ev, Arb.get, keepFr, bin, intBin, strBin, mk, params, cellsM, load, obRead, fadr, fld, isl, iarr, xarr, idx, len, valid, slc, bound, store, splice, nilc, un, eqs, eq0, evalFeet, footOf, M.foot, orderOk, apartAll, apart1, clash, meets, callM, fcallM, callee, fz1, fzC, fz, flat, flat1, flat0, flatI, Option.bind_some, putAll, M.bind]; rfl) ?_
  refine Wp.block ?_
  refine Wp.range 100000 (fun i => ⟨[(0, sets l), (1, .iv (.str s)), (5, .iv (.int .i64 i))], [], 1128⟩) (fun _ => True) rfl trivial ?_ ?_
  · intro i hi _
    have hi' : (i : Int) < 100000 := by omega
    have hwi : IntKind.wrap .i64 ((i : Int) + 1) = (i : Int) + 1 := IntWalk.i64_in _ (by omega)
    obtain ⟨d, hd, K, hK⟩ := p_decimal h114 h113 i (by omega)
    have hsz : s.size + d.size ≤ 4611686018427387904 := by omega
    refine Wp.seq (Wp.seq ?_)
    refine Wp.rgn (K := 0) (fun n _ => by simp [evalRgn, Option.map_some, evalOps, step, wants, osem, M.run_bind, M.mapL, M.run, M.ok, M.fresh, M.write, M.look, M.lift, putD, Arb.set, ev, Arb.get, keepFr, bin, intBin, strBin, mk, params, cellsM, load, obRead, fadr, fld, isl, iarr, xarr, idx, len, valid, slc, bound, store, splice, nilc, un, eqs, eq0, evalFeet, footOf, M.foot, orderOk, apartAll, apart1, clash, meets, callM, fcallM, callee, fz1, fzC, fz, flat, flat1, flat0, flatI, Option.bind_some, putAll, M.bind, hi']; rfl) ?_
    refine Wp.cond rfl (Wp.skip (Wp.seq (Wp.block (Wp.seq ?_))))
    refine Wp.rgn (K := K) (s' := ⟨[(0, sets l), (1, .iv (.str s)), (5, .iv (.int .i64 i)), (6, .iv (.str (s ++ d)))], [], 1576⟩) (fun n hn => by
      have e1 := hK n hn
      generalize evalF prog n = g at e1
      simp [evalRgn, Option.map_some, evalOps, step, wants, osem, M.run_bind, M.mapL, M.run, M.ok, M.fresh, M.write, M.look, M.lift, putD, Arb.set, ev, Arb.get, keepFr, bin, intBin, strBin, mk, params, cellsM, load, obRead, fadr, fld, isl, iarr, xarr, idx, len, valid, slc, bound, store, splice, nilc, un, eqs, eq0, evalFeet, footOf, M.foot, orderOk, apartAll, apart1, clash, meets, callM, fcallM, callee, fz1, fzC, fz, flat, flat1, flat0, flatI, Option.bind_some, putAll, M.bind, hsz, e1]) ?_
    refine Wp.seq ?_
    refine Wp.rgn (K := 0) (fun n _ => by simp [evalRgn, Option.map_some, evalOps, step, wants, osem, M.run_bind, M.mapL, M.run, M.ok, M.fresh, M.write, M.look, M.lift, putD, Arb.set, ev, Arb.get, keepFr, bin, intBin, strBin, mk, params, cellsM, load, obRead, fadr, fld, isl, iarr, xarr, idx, len, valid, slc, bound, store, splice, nilc, un, eqs, eq0, evalFeet, footOf, M.foot, orderOk, apartAll, apart1, clash, meets, callM, fcallM, callee, fz1, fzC, fz, flat, flat1, flat0, flatI, Option.bind_some, putAll, M.bind]; rfl) ?_
    refine Wp.seq (Wp.seq ?_)
    refine Wp.rgn (K := 0) (fun n _ => by simp [evalRgn, Option.map_some, evalOps, step, wants, osem, M.run_bind, M.mapL, M.run, M.ok, M.fresh, M.write, M.look, M.lift, putD, Arb.set, ev, Arb.get, keepFr, bin, intBin, strBin, mk, params, cellsM, load, obRead, fadr, fld, isl, iarr, xarr, idx, len, valid, slc, bound, store, splice, nilc, un, eqs, eq0, evalFeet, footOf, M.foot, orderOk, apartAll, apart1, clash, meets, callM, fcallM, callee, fz1, fzC, fz, flat, flat1, flat0, flatI, Option.bind_some, putAll, M.bind]; rfl) ?_
    refine Wp.block ?_
    generalize s ++ d = t
    refine Wp.range l.length (fun j => ⟨[(0, sets l), (1, .iv (.str s)), (5, .iv (.int .i64 i)), (6, .iv (.str t)), (7, .iv (.bool ((l.take j).any fun x => hasT x.s t))), (8, .iv (.int .i64 j))], [], 1704⟩) (fun _ => True) (by simp [keepFr, get]) trivial ?_ ?_
    · intro j hj _
      obtain ⟨x, hx⟩ : ∃ x, l[j]? = some x := ⟨_, List.getElem?_eq_getElem hj⟩
      obtain ⟨K2, hK2⟩ := p_hasT h49 x.s t (hL x (List.mem_of_getElem? hx))
      rw [take_succ_any hx]
      generalize ((l.take j).any fun x => hasT x.s t) = fo
      refine Wp.seq (Wp.seq ?_)
      refine Wp.rgn (K := 0) (fun n _ => by simp [evalRgn, Option.map_some, evalOps, step, wants, osem, M.run_bind, M.mapL, M.run, M.ok, M.fresh, M.write, M.look, M.lift, putD, Arb.set, ev, Arb.get, keepFr, bin, intBin, strBin, mk, params, cellsM, load, obRead, fadr, fld, isl, iarr, xarr, idx, len, valid, slc, bound, store, splice, nilc, un, eqs, eq0, evalFeet, footOf, M.foot, orderOk, apartAll, apart1, clash, meets, callM, fcallM, callee, fz1, fzC, fz, flat, flat1, flat0, flatI, Option.bind_some, putAll, M.bind, sets, hj]; rfl) ?_
      refine Wp.cond rfl (Wp.skip (Wp.seq (Wp.block ?_)))
      refine Wp.rgn (K := K2) (s' := ⟨[(0, sets l), (1, .iv (.str s)), (5, .iv (.int .i64 i)), (6, .iv (.str t)), (7, .iv (.bool (fo || hasT x.s t))), (8, .iv (.int .i64 j))], [], 2664⟩) (fun n hn => by
        have e1 := hK2 n hn
        generalize evalF prog n = g at e1
        cases fo <;> simp [evalRgn, Option.map_some, evalOps, step, wants, osem, M.run_bind, M.mapL, M.run, M.ok, M.fresh, M.write, M.look, M.lift, putD, Arb.set, ev, Arb.get, keepFr, bin, intBin, strBin, mk, params, cellsM, load, obRead, fadr, fld, isl, iarr, xarr, idx, len, valid, slc, bound, store, splice, nilc, un, eqs, eq0, evalFeet, footOf, M.foot, orderOk, apartAll, apart1, clash, meets, callM, fcallM, callee, fz1, fzC, fz, flat, flat1, flat0, flatI, Option.bind_some, putAll, M.bind, sets, hx, S.enc, e1]) ?_
      simp only [Ex.then, Ex.inBlock]
      refine Wp.rgn (K := 0) (fun n _ => by simp [evalRgn, Option.map_some, evalOps, step, wants, osem, M.run_bind, M.mapL, M.run, M.ok, M.fresh, M.write, M.look, M.lift, putD, Arb.set, ev, Arb.get, keepFr, bin, intBin, strBin, mk, params, cellsM, load, obRead, fadr, fld, isl, iarr, xarr, idx, len, valid, slc, bound, store, splice, nilc, un, eqs, eq0, evalFeet, footOf, M.foot, orderOk, apartAll, apart1, clash, meets, callM, fcallM, callee, fz1, fzC, fz, flat, flat1, flat0, flatI, Option.bind_some, putAll, M.bind]; rfl) ?_
      exact ⟨by simp [again, keepFr, get, nrm, sets, wrap_succ hj hl], trivial⟩
    · intro _
      refine Wp.seq (Wp.seq ?_)
      refine Wp.rgn (K := 0) (fun n _ => by simp [evalRgn, Option.map_some, evalOps, step, wants, osem, M.run_bind, M.mapL, M.run, M.ok, M.fresh, M.write, M.look, M.lift, putD, Arb.set, ev, Arb.get, keepFr, bin, intBin, strBin, mk, params, cellsM, load, obRead, fadr, fld, isl, iarr, xarr, idx, len, valid, slc, bound, store, splice, nilc, un, eqs, eq0, evalFeet, footOf, M.foot, orderOk, apartAll, apart1, clash, meets, callM, fcallM, callee, fz1, fzC, fz, flat, flat1, flat0, flatI, Option.bind_some, putAll, M.bind, sets]; rfl) ?_
      refine Wp.cond rfl (Wp.exit ?_)
      simp only [Ex.then, Ex.inBlock, if_true]
      refine Wp.seq ?_
      refine Wp.rgn (K := 0) (fun n _ => by simp [evalRgn, Option.map_some, evalOps, step, wants, osem, M.run_bind, M.mapL, M.run, M.ok, M.fresh, M.write, M.look, M.lift, putD, Arb.set, ev, Arb.get, keepFr, bin, intBin, strBin, mk, params, cellsM, load, obRead, fadr, fld, isl, iarr, xarr, idx, len, valid, slc, bound, store, splice, nilc, un, eqs, eq0, evalFeet, footOf, M.foot, orderOk, apartAll, apart1, clash, meets, callM, fcallM, callee, fz1, fzC, fz, flat, flat1, flat0, flatI, Option.bind_some, putAll, M.bind]; rfl) ?_
      refine Wp.cond rfl ?_
      cases hf : l.any fun x => hasT x.s t with
      | false =>
        refine Wp.seq ?_
        refine Wp.rgn (K := 0) (fun n _ => by simp [evalRgn, Option.map_some, evalOps, step, wants, osem, M.run_bind, M.mapL, M.run, M.ok, M.fresh, M.write, M.look, M.lift, putD, Arb.set, ev, Arb.get, keepFr, bin, intBin, strBin, mk, params, cellsM, load, obRead, fadr, fld, isl, iarr, xarr, idx, len, valid, slc, bound, store, splice, nilc, un, eqs, eq0, evalFeet, footOf, M.foot, orderOk, apartAll, apart1, clash, meets, callM, fcallM, callee, fz1, fzC, fz, flat, flat1, flat0, flatI, Option.bind_some, putAll, M.bind]; rfl) ?_
        exact Wp.ret ⟨_, ⟨t, rfl⟩, rfl⟩
      | true =>
        refine Wp.skip ?_
        simp only [Ex.then, Ex.inBlock]
        refine Wp.rgn (K := 0) (fun n _ => by simp [evalRgn, Option.map_some, evalOps, step, wants, osem, M.run_bind, M.mapL, M.run, M.ok, M.fresh, M.write, M.look, M.lift, putD, Arb.set, ev, Arb.get, keepFr, bin, intBin, strBin, mk, params, cellsM, load, obRead, fadr, fld, isl, iarr, xarr, idx, len, valid, slc, bound, store, splice, nilc, un, eqs, eq0, evalFeet, footOf, M.foot, orderOk, apartAll, apart1, clash, meets, callM, fcallM, callee, fz1, fzC, fz, flat, flat1, flat0, flatI, Option.bind_some, putAll, M.bind]; rfl) ?_
        exact ⟨by simp [again, keepFr, get, nrm, sets, hwi], trivial⟩
  · intro _
    refine Wp.seq (Wp.seq ?_)
    refine Wp.rgn (K := 0) (fun n _ => by simp [evalRgn, Option.map_some, evalOps, step, wants, osem, M.run_bind, M.mapL, M.run, M.ok, M.fresh, M.write, M.look, M.lift, putD, Arb.set, ev, Arb.get, keepFr, bin, intBin, strBin, mk, params, cellsM, load, obRead, fadr, fld, isl, iarr, xarr, idx, len, valid, slc, bound, store, splice, nilc, un, eqs, eq0, evalFeet, footOf, M.foot, orderOk, apartAll, apart1, clash, meets, callM, fcallM, callee, fz1, fzC, fz, flat, flat1, flat0, flatI, Option.bind_some, putAll, M.bind]; rfl) ?_
    refine Wp.cond rfl (Wp.exit ?_)
    simp only [Ex.then, Ex.inBlock, if_true]
    refine Wp.seq ?_
    refine Wp.rgn (K := 0) (fun n _ => by simp [evalRgn, Option.map_some, evalOps, step, wants, osem, M.run_bind, M.mapL, M.run, M.ok, M.fresh, M.write, M.look, M.lift, putD, Arb.set, ev, Arb.get, keepFr, bin, intBin, strBin, mk, params, cellsM, load, obRead, fadr, fld, isl, iarr, xarr, idx, len, valid, slc, bound, store, splice, nilc, un, eqs, eq0, evalFeet, footOf, M.foot, orderOk, apartAll, apart1, clash, meets, callM, fcallM, callee, fz1, fzC, fz, flat, flat1, flat0, flatI, Option.bind_some, putAll, M.bind]; rfl) ?_
    exact Wp.ret ⟨_, ⟨s, rfl⟩, rfl⟩
end
end Arb

/-
  POINTS THAT TELL SETS APART: some values.
-/
set_option linter.unusedSimpArgs false
namespace Arb
open Go

def vI (n : Int) : V := ⟨1, n, ⟨#[]⟩⟩
def vS (t : ByteArray) : V := ⟨2, 0, t⟩

section
variable {prog : Nat → Option IFn}

set_option maxHeartbeats 8000000 in
theorem p_points (h49 : prog 49 = some F49) (h114 : prog 114 = some F114) (h113 : prog 113 = some F113) (h111 : prog 111 = some F111) (h : prog 110 = some F110) (l : List S) (hl : l.length ≤ 2) (hL : ∀ x ∈ l, x.i.length ≤ 6 ∧ x.s.length ≤ 6) :
    ∃ y, (∃ ps : List V, y = .iv (.sl 3 (ps.map V.enc)) ∧ ps.length ≤ 1000) ∧ Ans prog 110 [sets l] y := by
  obtain ⟨_, ⟨ft, rfl⟩, KF, hKF⟩ := p_fresh h49 h114 h113 h111 l ⟨#[126]⟩ (by unfold maxLen; omega) (by decide) (fun x hx => by have := (hL x hx).2; unfold maxLen; omega)
  refine Ans.ofx h rfl rfl _ (Wp.seq ?_)
  refine Wp.rgn (K := 0) (fun n _ => by simp [evalRgn, Option.map_some, evalOps, step, wants, osem, M.run_bind, M.mapL, M.run, M.ok, M.fresh, M.write, M.look, M.lift, putD, Arb.set, ev, Arb.get, keepFr, bin, intBin, strBin, mk, params, cellsM, load, obRead, fadr, fld, isl, iarr, xarr, idx, len, valid, slc, bound, store, splice, nilc, un, eqs, eq0, evalFeet, footOf, M.foot, orderOk, apartAll, apart1, clash, meets, callM, fcallM, callee, fz1, fzC, fz, flat, flat1, flat0, flatI, Option.bind_some, putAll, M.bind]; rfl) ?_
  refine Wp.seq ?_
  refine Wp.rgn (K := 0) (fun n _ => by simp [evalRgn, Option.map_some, evalOps, step, wants, osem, M.run_bind, M.mapL, M.run, M.ok, M.fresh, M.write, M.look, M.lift, putD, Arb.set, ev, Arb.get, keepFr, bin, intBin, strBin, mk, params, cellsM, load, obRead, fadr, fld, isl, iarr, xarr, idx, len, valid, slc, bound, store, splice, nilc, un, eqs, eq0, evalFeet, footOf, M.foot, orderOk, apartAll, apart1, clash, meets, callM, fcallM, callee, fz1, fzC, fz, flat, flat1, flat0, flatI, Option.bind_some, putAll, M.bind, setAll]; rfl) ?_
  refine Wp.seq ?_
  refine Wp.rgn (K := 0) (fun n _ => by simp [evalRgn, Option.map_some, evalOps, step, wants, osem, M.run_bind, M.mapL, M.run, M.ok, M.fresh, M.write, M.look, M.lift, putD, Arb.set, ev, Arb.get, keepFr, bin, intBin, strBin, mk, params, cellsM, load, obRead, fadr, fld, isl, iarr, xarr, idx, len, valid, slc, bound, store, splice, nilc, un, eqs, eq0, evalFeet, footOf, M.foot, orderOk, apartAll, apart1, clash, meets, callM, fcallM, callee, fz1, fzC, fz, flat, flat1, flat0, flatI, Option.bind_some, putAll, M.bind]; rfl) ?_
  refine Wp.seq (Wp.seq ?_)
  refine Wp.rgn (K := 0) (fun n _ => by simp [evalRgn, Option.map_some, evalOps, step, wants, osem, M.run_bind, M.mapL, M.run, M.ok, M.fresh, M.write, M.look, M.lift, putD, Arb.set, ev, Arb.get, keepFr, bin, intBin, strBin, mk, params, cellsM, load, obRead, fadr, fld, isl, iarr, xarr, idx, len, valid, slc, bound, store, splice, nilc, un, eqs, eq0, evalFeet, footOf, M.foot, orderOk, apartAll, apart1, clash, meets, callM, fcallM, callee, fz1, fzC, fz, flat, flat1, flat0, flatI, Option.bind_some, putAll, M.bind]; rfl) ?_
  refine Wp.block ?_
  refine Wp.loop (fun m s1 => ∃ (i : Nat) (qs : List V), i + m = l.length ∧ qs.length ≤ 4 + 30 * i ∧ s1 = ⟨[(0, sets l), (3, .own 1320 0 qs.length 0), (4, .iv (.str ⟨#[126]⟩)), (5, .iv (.int .i64 i))], [(1000, .buf 0 3 []), (1320, .buf 0 3 (qs.map V.enc))], 1576⟩) (m := l.length) ⟨0, [⟨0, 0, ⟨#[]⟩⟩, vI (-9223372036854775808), vI 9223372036854775807, vI 0], by omega, by simp, rfl⟩ ?_
  rintro m s1 ⟨i, qs, hm, hq, rfl⟩
  have hwi : IntKind.wrap .i64 ((i : Int) + 1) = (i : Int) + 1 := IntWalk.i64_in _ (by omega)
  cases m with
  | zero =>
    have hno : ¬ (i : Int) < l.length := by omega
    have hr1 : qs.length + 1 ≤ 1073741824 := by omega
    refine Wp.seq (Wp.seq ?_)
    refine Wp.rgn (K := 0) (s' := ⟨[(0, sets l), (3, .own 1320 0 qs.length 0), (4, .iv (.str ⟨#[126]⟩)), (5, .iv (.int .i64 i)), (17, .iv (.bool false))], [(1000, .buf 0 3 []), (1320, .buf 0 3 (qs.map V.enc))], 1832⟩) (fun n _ => by simp [evalRgn, Option.map_some, evalOps, step, wants, osem, M.run_bind, M.mapL, M.run, M.ok, M.fresh, M.write, M.look, M.lift, putD, Arb.set, ev, Arb.get, keepFr, bin, intBin, strBin, mk, params, cellsM, load, obRead, fadr, fld, isl, iarr, xarr, idx, len, valid, slc, bound, store, splice, nilc, un, eqs, eq0, evalFeet, footOf, M.foot, orderOk, apartAll, apart1, clash, meets, callM, fcallM, callee, fz1, fzC, fz, flat, flat1, flat0, flatI, Option.bind_some, putAll, M.bind, sets]; omega) ?_
    refine Wp.cond rfl (Wp.exit ?_)
    simp only [Ex.then, Ex.inBlock, if_true]
    have htk : ∀ a, List.take qs.length (qs.map V.enc) ++ [a] = qs.map V.enc ++ [a] := fun a => by rw [take_map_len]
    refine Wp.seq ?_
    refine Wp.rgn (K := KF) (fun n hn => by
      have e1 := hKF n hn
      simp only [sets] at e1
      generalize evalF prog n = g at e1
      simp [evalRgn, Option.map_some, evalOps, step, wants, osem, M.run_bind, M.mapL, M.run, M.ok, M.fresh, M.write, M.look, M.lift, putD, Arb.set, ev, Arb.get, keepFr, bin, intBin, strBin, mk, params, cellsM, load, obRead, fadr, fld, isl, iarr, xarr, idx, len, valid, slc, bound, store, splice, nilc, un, eqs, eq0, evalFeet, footOf, M.foot, orderOk, apartAll, apart1, clash, meets, callM, fcallM, callee, fz1, fzC, fz, flat, flat1, flat0, flatI, Option.bind_some, putAll, M.bind, sets, setAll, app, elems, roomy, hr1, htk, take_map_len, e1]
      rfl) ?_
    refine Wp.ret ⟨_, ⟨qs ++ [vS ft], rfl, by simp; omega⟩, ?_⟩
    have ht1 : List.take (qs.length + 1) (qs.map V.enc ++ [[.int .i64 2, .int .i64 0, .str ft]]) = qs.map V.enc ++ [[.int .i64 2, .int .i64 0, .str ft]] := List.take_of_length_le (by simp)
    simp [FinS, F110, resAll, resM, outA, ev, get, M.look, M.bind, M.run, M.run_bind, M.ok, shut, fzA, fz1, fzC, fz, M.write, M.lift, vS, V.enc]
    first | exact ht1 | exact ⟨ht1⟩ | skip
  | succ m =>
    have hi : i < l.length := by omega
    have hi' : (i : Int) < l.length := by omega
    obtain ⟨x, hx⟩ : ∃ x, l[i]? = some x := ⟨_, List.getElem?_eq_getElem hi⟩
    obtain ⟨hxi, hxs⟩ := hL x (List.mem_of_getElem? hx)
    refine Wp.seq (Wp.seq ?_)
    refine Wp.rgn (K := 0) (s' := ⟨[(0, sets l), (3, .own 1320 0 qs.length 0), (4, .iv (.str ⟨#[126]⟩)), (5, .iv (.int .i64 i)), (17, .iv (.bool true))], [(1000, .buf 0 3 []), (1320, .buf 0 3 (qs.map V.enc))], 1832⟩) (fun n _ => by simp [evalRgn, Option.map_some, evalOps, step, wants, osem, M.run_bind, M.mapL, M.run, M.ok, M.fresh, M.write, M.look, M.lift, putD, Arb.set, ev, Arb.get, keepFr, bin, intBin, strBin, mk, params, cellsM, load, obRead, fadr, fld, isl, iarr, xarr, idx, len, valid, slc, bound, store, splice, nilc, un, eqs, eq0, evalFeet, footOf, M.foot, orderOk, apartAll, apart1, clash, meets, callM, fcallM, callee, fz1, fzC, fz, flat, flat1, flat0, flatI, Option.bind_some, putAll, M.bind, sets, hi]) ?_
    refine Wp.cond rfl (Wp.skip (Wp.seq (Wp.block (Wp.seq (Wp.seq ?_)))))
    refine Wp.rgn (K := 0) (fun n _ => by simp [evalRgn, Option.map_some, evalOps, step, wants, osem, M.run_bind, M.mapL, M.run, M.ok, M.fresh, M.write, M.look, M.lift, putD, Arb.set, ev, Arb.get, keepFr, bin, intBin, strBin, mk, params, cellsM, load, obRead, fadr, fld, isl, iarr, xarr, idx, len, valid, slc, bound, store, splice, nilc, un, eqs, eq0, evalFeet, footOf, M.foot, orderOk, apartAll, apart1, clash, meets, callM, fcallM, callee, fz1, fzC, fz, flat, flat1, flat0, flatI, Option.bind_some, putAll, M.bind]; rfl) ?_
    refine Wp.block ?_
    have hq0 := hq
    refine Wp.loop (fun m s1 => ∃ (k : Nat) (qs : List V), k + m = x.i.length ∧ qs.length ≤ 4 + 30 * i + 4 * k ∧ s1 = ⟨[(0, sets l), (3, .own 1320 0 qs.length 0), (4, .iv (.str ⟨#[126]⟩)), (5, .iv (.int .i64 i)), (6, .iv (.int .i64 k))], [(1000, .buf 0 3 []), (1320, .buf 0 3 (qs.map V.enc))], 1896⟩) (m := x.i.length) ⟨0, qs, by omega, by omega, by simp [keepFr, get]⟩ ?_
    clear hq hq0
    rintro m2 s2 ⟨k, qs, hk, hq, rfl⟩
    have hwk : IntKind.wrap .i64 ((k : Int) + 1) = (k : Int) + 1 := IntWalk.i64_in _ (by omega)
    cases m2 with
    | zero =>
      have hno : ¬ (k : Int) < x.i.length := by omega
      refine Wp.seq (Wp.seq ?_)
      refine Wp.rgn (K := 0) (s' := ⟨[(0, sets l), (3, .own 1320 0 qs.length 0), (4, .iv (.str ⟨#[126]⟩)), (5, .iv (.int .i64 i)), (6, .iv (.int .i64 k)), (27, .iv (.bool false))], [(1000, .buf 0 3 []), (1320, .buf 0 3 (qs.map V.enc))], 2408⟩) (fun n _ => by simp [evalRgn, Option.map_some, evalOps, step, wants, osem, M.run_bind, M.mapL, M.run, M.ok, M.fresh, M.write, M.look, M.lift, putD, Arb.set, ev, Arb.get, keepFr, bin, intBin, strBin, mk, params, cellsM, load, obRead, fadr, fld, isl, iarr, xarr, idx, len, valid, slc, bound, store, splice, nilc, un, eqs, eq0, evalFeet, footOf, M.foot, orderOk, apartAll, apart1, clash, meets, callM, fcallM, callee, fz1, fzC, fz, flat, flat1, flat0, flatI, Option.bind_some, putAll, M.bind, sets, hx, S.enc]; omega) ?_
      refine Wp.cond rfl (Wp.exit ?_)
      simp only [Ex.then, Ex.inBlock, if_true]
      refine Wp.seq ?_
      refine Wp.rgn (K := 0) (fun n _ => by simp [evalRgn, Option.map_some, evalOps, step, wants, osem, M.run_bind, M.mapL, M.run, M.ok, M.fresh, M.write, M.look, M.lift, putD, Arb.set, ev, Arb.get, keepFr, bin, intBin, strBin, mk, params, cellsM, load, obRead, fadr, fld, isl, iarr, xarr, idx, len, valid, slc, bound, store, splice, nilc, un, eqs, eq0, evalFeet, footOf, M.foot, orderOk, apartAll, apart1, clash, meets, callM, fcallM, callee, fz1, fzC, fz, flat, flat1, flat0, flatI, Option.bind_some, putAll, M.bind]; rfl) ?_
      refine Wp.block ?_
      have hkx : k = x.i.length := by omega
      refine Wp.loop (fun m s1 => ∃ (k : Nat) (qs : List V), k + m = x.s.length ∧ qs.length ≤ 4 + 30 * i + 24 + k ∧ s1 = ⟨[(0, sets l), (3, .own 1320 0 qs.length 0), (4, .iv (.str ⟨#[126]⟩)), (5, .iv (.int .i64 i)), (8, .iv (.int .i64 k))], [(1000, .buf 0 3 []), (1320, .buf 0 3 (qs.map V.enc))], 2472⟩) (m := x.s.length) ⟨0, qs, by omega, by omega, by simp [keepFr, get]⟩ ?_
      clear hq hk hwk hno hkx
      rintro m3 s3 ⟨k, qs, hk, hq, rfl⟩
      have hwk : IntKind.wrap .i64 ((k : Int) + 1) = (k : Int) + 1 := IntWalk.i64_in _ (by omega)
      cases m3 with
      | zero =>
        have hno : ¬ (k : Int) < x.s.length := by omega
        refine Wp.seq (Wp.seq ?_)
        refine Wp.rgn (K := 0) (s' := ⟨[(0, sets l), (3, .own 1320 0 qs.length 0), (4, .iv (.str ⟨#[126]⟩)), (5, .iv (.int .i64 i)), (8, .iv (.int .i64 k)), (74, .iv (.bool false))], [(1000, .buf 0 3 []), (1320, .buf 0 3 (qs.map V.enc))], 2984⟩) (fun n _ => by simp [evalRgn, Option.map_some, evalOps, step, wants, osem, M.run_bind, M.mapL, M.run, M.ok, M.fresh, M.write, M.look, M.lift, putD, Arb.set, ev, Arb.get, keepFr, bin, intBin, strBin, mk, params, cellsM, load, obRead, fadr, fld, isl, iarr, xarr, idx, len, valid, slc, bound, store, splice, nilc, un, eqs, eq0, evalFeet, footOf, M.foot, orderOk, apartAll, apart1, clash, meets, callM, fcallM, callee, fz1, fzC, fz, flat, flat1, flat0, flatI, Option.bind_some, putAll, M.bind, sets, hx, S.enc]; omega) ?_
        refine Wp.cond rfl (Wp.exit ?_)
        simp only [Ex.then, Ex.inBlock, if_true]
        refine Wp.rgn (K := 0) (fun n _ => by simp [evalRgn, Option.map_some, evalOps, step, wants, osem, M.run_bind, M.mapL, M.run, M.ok, M.fresh, M.write, M.look, M.lift, putD, Arb.set, ev, Arb.get, keepFr, bin, intBin, strBin, mk, params, cellsM, load, obRead, fadr, fld, isl, iarr, xarr, idx, len, valid, slc, bound, store, splice, nilc, un, eqs, eq0, evalFeet, footOf, M.foot, orderOk, apartAll, apart1, clash, meets, callM, fcallM, callee, fz1, fzC, fz, flat, flat1, flat0, flatI, Option.bind_some, putAll, M.bind]; rfl) ?_
        exact ⟨m, by omega, i + 1, qs, by omega, by omega, by simp [again, keepFr, get, nrm, nrmO, sets, hwi]⟩
      | succ m3 =>
        have hk1 : k < x.s.length := by omega
        have hk2 : (k : Int) < x.s.length := by omega
        have hr1 : qs.length + 1 ≤ 1073741824 := by omega
        obtain ⟨t, ht⟩ : ∃ t, x.s[k]? = some t := ⟨_, List.getElem?_eq_getElem hk1⟩
        refine Wp.seq (Wp.seq ?_)
        refine Wp.rgn (K := 0) (s' := ⟨[(0, sets l), (3, .own 1320 0 qs.length 0), (4, .iv (.str ⟨#[126]⟩)), (5, .iv (.int .i64 i)), (8, .iv (.int .i64 k)), (74, .iv (.bool true))], [(1000, .buf 0 3 []), (1320, .buf 0 3 (qs.map V.enc))], 2984⟩) (fun n _ => by simp [evalRgn, Option.map_some, evalOps, step, wants, osem, M.run_bind, M.mapL, M.run, M.ok, M.fresh, M.write, M.look, M.lift, putD, Arb.set, ev, Arb.get, keepFr, bin, intBin, strBin, mk, params, cellsM, load, obRead, fadr, fld, isl, iarr, xarr, idx, len, valid, slc, bound, store, splice, nilc, un, eqs, eq0, evalFeet, footOf, M.foot, orderOk, apartAll, apart1, clash, meets, callM, fcallM, callee, fz1, fzC, fz, flat, flat1, flat0, flatI, Option.bind_some, putAll, M.bind, sets, hx, S.enc, hk1]) ?_
        refine Wp.cond rfl (Wp.skip (Wp.seq (Wp.block ?_)))
        refine Wp.rgn (K := 0) (fun n _ => by simp [evalRgn, Option.map_some, evalOps, step, wants, osem, M.run_bind, M.mapL, M.run, M.ok, M.fresh, M.write, M.look, M.lift, putD, Arb.set, ev, Arb.get, keepFr, bin, intBin, strBin, mk, params, cellsM, load, obRead, fadr, fld, isl, iarr, xarr, idx, len, valid, slc, bound, store, splice, nilc, un, eqs, eq0, evalFeet, footOf, M.foot, orderOk, apartAll, apart1, clash, meets, callM, fcallM, callee, fz1, fzC, fz, flat, flat1, flat0, flatI, Option.bind_some, putAll, M.bind, sets, hx, S.enc, ht, st1, setAll, app, elems, roomy, hr1, take_map_len]; rfl) ?_
        simp only [Ex.then, Ex.inBlock]
        refine Wp.rgn (K := 0) (fun n _ => by simp [evalRgn, Option.map_some, evalOps, step, wants, osem, M.run_bind, M.mapL, M.run, M.ok, M.fresh, M.write, M.look, M.lift, putD, Arb.set, ev, Arb.get, keepFr, bin, intBin, strBin, mk, params, cellsM, load, obRead, fadr, fld, isl, iarr, xarr, idx, len, valid, slc, bound, store, splice, nilc, un, eqs, eq0, evalFeet, footOf, M.foot, orderOk, apartAll, apart1, clash, meets, callM, fcallM, callee, fz1, fzC, fz, flat, flat1, flat0, flatI, Option.bind_some, putAll, M.bind]; rfl) ?_
        exact ⟨m3, by omega, k + 1, qs ++ [vS t], by omega, by simp; omega, by simp [again, keepFr, get, nrm, nrmO, sets, hwk, V.enc, vS]⟩
    | succ m2 =>
      rename_i m
      have hk1 : k < x.i.length := by omega
      obtain ⟨r, hr⟩ : ∃ r, x.i[k]? = some r := ⟨_, List.getElem?_eq_getElem hk1⟩
      have hr1 : qs.length + 1 ≤ 1073741824 := by omega
      have hr2 : qs.length + 2 ≤ 1073741824 := by omega
      have hr3 : qs.length + 3 ≤ 1073741824 := by omega
      have hr4 : qs.length + 4 ≤ 1073741824 := by omega
      have ht2 : ∀ a b, List.take (qs.length + 2) (qs.map V.enc ++ [a, b]) = qs.map V.enc ++ [a, b] := fun a b => List.take_of_length_le (by simp)
      have ht3 : ∀ a b c, List.take (qs.length + 3) (qs.map V.enc ++ [a, b, c]) = qs.map V.enc ++ [a, b, c] := fun a b c => List.take_of_length_le (by simp)
      refine Wp.seq (Wp.seq ?_)
      refine Wp.rgn (K := 0) (s' := ⟨[(0, sets l), (3, .own 1320 0 qs.length 0), (4, .iv (.str ⟨#[126]⟩)), (5, .iv (.int .i64 i)), (6, .iv (.int .i64 k)), (27, .iv (.bool true))], [(1000, .buf 0 3 []), (1320, .buf 0 3 (qs.map V.enc))], 2408⟩) (fun n _ => by simp [evalRgn, Option.map_some, evalOps, step, wants, osem, M.run_bind, M.mapL, M.run, M.ok, M.fresh, M.write, M.look, M.lift, putD, Arb.set, ev, Arb.get, keepFr, bin, intBin, strBin, mk, params, cellsM, load, obRead, fadr, fld, isl, iarr, xarr, idx, len, valid, slc, bound, store, splice, nilc, un, eqs, eq0, evalFeet, footOf, M.foot, orderOk, apartAll, apart1, clash, meets, callM, fcallM, callee, fz1, fzC, fz, flat, flat1, flat0, flatI, Option.bind_some, putAll, M.bind, sets, hx, S.enc, hk1]) ?_
      refine Wp.cond rfl (Wp.skip (Wp.seq (Wp.block (Wp.seq ?_))))
      refine Wp.rgn (K := 0) (fun n _ => by simp [evalRgn, Option.map_some, evalOps, step, wants, osem, M.run_bind, M.mapL, M.run, M.ok, M.fresh, M.write, M.look, M.lift, putD, Arb.set, ev, Arb.get, keepFr, bin, intBin, strBin, mk, params, cellsM, load, obRead, fadr, fld, isl, iarr, xarr, idx, len, valid, slc, bound, store, splice, nilc, un, eqs, eq0, evalFeet, footOf, M.foot, orderOk, apartAll, apart1, clash, meets, callM, fcallM, callee, fz1, fzC, fz, flat, flat1, flat0, flatI, Option.bind_some, putAll, M.bind, sets, hx, S.enc, hr, rng]; rfl) ?_
      refine Wp.seq ?_
      refine Wp.rgn (K := 0) (fun n _ => by simp [evalRgn, Option.map_some, evalOps, step, wants, osem, M.run_bind, M.mapL, M.run, M.ok, M.fresh, M.write, M.look, M.lift, putD, Arb.set, ev, Arb.get, keepFr, bin, intBin, strBin, mk, params, cellsM, load, obRead, fadr, fld, isl, iarr, xarr, idx, len, valid, slc, bound, store, splice, nilc, un, eqs, eq0, evalFeet, footOf, M.foot, orderOk, apartAll, apart1, clash, meets, callM, fcallM, callee, fz1, fzC, fz, flat, flat1, flat0, flatI, Option.bind_some, putAll, M.bind, setAll, app, elems, roomy, take_map_len, hr1, hr2, hr3, hr4, ht2, ht3]; rfl) ?_
      refine Wp.seq (Wp.seq ?_)
      refine Wp.rgn (K := 0) (fun n _ => by simp [evalRgn, Option.map_some, evalOps, step, wants, osem, M.run_bind, M.mapL, M.run, M.ok, M.fresh, M.write, M.look, M.lift, putD, Arb.set, ev, Arb.get, keepFr, bin, intBin, strBin, mk, params, cellsM, load, obRead, fadr, fld, isl, iarr, xarr, idx, len, valid, slc, bound, store, splice, nilc, un, eqs, eq0, evalFeet, footOf, M.foot, orderOk, apartAll, apart1, clash, meets, callM, fcallM, callee, fz1, fzC, fz, flat, flat1, flat0, flatI, Option.bind_some, putAll, M.bind]; rfl) ?_
      refine Wp.cond rfl ?_
      cases h1 : decide (-9223372036854775808 < r.1) with
      | true =>
        refine Wp.rgn (K := 0) (fun n _ => by simp [evalRgn, Option.map_some, evalOps, step, wants, osem, M.run_bind, M.mapL, M.run, M.ok, M.fresh, M.write, M.look, M.lift, putD, Arb.set, ev, Arb.get, keepFr, bin, intBin, strBin, mk, params, cellsM, load, obRead, fadr, fld, isl, iarr, xarr, idx, len, valid, slc, bound, store, splice, nilc, un, eqs, eq0, evalFeet, footOf, M.foot, orderOk, apartAll, apart1, clash, meets, callM, fcallM, callee, fz1, fzC, fz, flat, flat1, flat0, flatI, Option.bind_some, putAll, M.bind, setAll, app, elems, roomy, hr1, hr2, hr3, hr4, ht2, ht3]; rfl) ?_
        simp only [Ex.then]
        refine Wp.seq ?_
        refine Wp.rgn (K := 0) (fun n _ => by simp [evalRgn, Option.map_some, evalOps, step, wants, osem, M.run_bind, M.mapL, M.run, M.ok, M.fresh, M.write, M.look, M.lift, putD, Arb.set, ev, Arb.get, keepFr, bin, intBin, strBin, mk, params, cellsM, load, obRead, fadr, fld, isl, iarr, xarr, idx, len, valid, slc, bound, store, splice, nilc, un, eqs, eq0, evalFeet, footOf, M.foot, orderOk, apartAll, apart1, clash, meets, callM, fcallM, callee, fz1, fzC, fz, flat, flat1, flat0, flatI, Option.bind_some, putAll, M.bind]; rfl) ?_
        refine Wp.cond rfl ?_
        cases h2 : decide (r.2 < 9223372036854775807) with
        | true =>
          refine Wp.rgn (K := 0) (fun n _ => by simp [evalRgn, Option.map_some, evalOps, step, wants, osem, M.run_bind, M.mapL, M.run, M.ok, M.fresh, M.write, M.look, M.lift, putD, Arb.set, ev, Arb.get, keepFr, bin, intBin, strBin, mk, params, cellsM, load, obRead, fadr, fld, isl, iarr, xarr, idx, len, valid, slc, bound, store, splice, nilc, un, eqs, eq0, evalFeet, footOf, M.foot, orderOk, apartAll, apart1, clash, meets, callM, fcallM, callee, fz1, fzC, fz, flat, flat1, flat0, flatI, Option.bind_some, putAll, M.bind, setAll, app, elems, roomy, hr1, hr2, hr3, hr4, ht2, ht3]; rfl) ?_
          simp only [Ex.then, Ex.inBlock]
          refine Wp.rgn (K := 0) (fun n _ => by simp [evalRgn, Option.map_some, evalOps, step, wants, osem, M.run_bind, M.mapL, M.run, M.ok, M.fresh, M.write, M.look, M.lift, putD, Arb.set, ev, Arb.get, keepFr, bin, intBin, strBin, mk, params, cellsM, load, obRead, fadr, fld, isl, iarr, xarr, idx, len, valid, slc, bound, store, splice, nilc, un, eqs, eq0, evalFeet, footOf, M.foot, orderOk, apartAll, apart1, clash, meets, callM, fcallM, callee, fz1, fzC, fz, flat, flat1, flat0, flatI, Option.bind_some, putAll, M.bind]; rfl) ?_
          exact ⟨m2, by omega, k + 1, qs ++ [vI r.1, vI r.2, vI (IntKind.wrap .i64 (r.1 - 1)), vI (IntKind.wrap .i64 (r.2 + 1))], by omega, by simp; omega, by simp [again, keepFr, get, nrm, nrmO, sets, hwk, V.enc, vI]; try omega⟩
        | false =>
          refine Wp.skip ?_
          simp only [Ex.then, Ex.inBlock]
          refine Wp.rgn (K := 0) (fun n _ => by simp [evalRgn, Option.map_some, evalOps, step, wants, osem, M.run_bind, M.mapL, M.run, M.ok, M.fresh, M.write, M.look, M.lift, putD, Arb.set, ev, Arb.get, keepFr, bin, intBin, strBin, mk, params, cellsM, load, obRead, fadr, fld, isl, iarr, xarr, idx, len, valid, slc, bound, store, splice, nilc, un, eqs, eq0, evalFeet, footOf, M.foot, orderOk, apartAll, apart1, clash, meets, callM, fcallM, callee, fz1, fzC, fz, flat, flat1, flat0, flatI, Option.bind_some, putAll, M.bind]; rfl) ?_
          exact ⟨m2, by omega, k + 1, qs ++ [vI r.1, vI r.2, vI (IntKind.wrap .i64 (r.1 - 1))], by omega, by simp; omega, by simp [again, keepFr, get, nrm, nrmO, sets, hwk, V.enc, vI]; try omega⟩
      | false =>
        refine Wp.skip ?_
        simp only [Ex.then]
        refine Wp.seq ?_
        refine Wp.rgn (K := 0) (fun n _ => by simp [evalRgn, Option.map_some, evalOps, step, wants, osem, M.run_bind, M.mapL, M.run, M.ok, M.fresh, M.write, M.look, M.lift, putD, Arb.set, ev, Arb.get, keepFr, bin, intBin, strBin, mk, params, cellsM, load, obRead, fadr, fld, isl, iarr, xarr, idx, len, valid, slc, bound, store, splice, nilc, un, eqs, eq0, evalFeet, footOf, M.foot, orderOk, apartAll, apart1, clash, meets, callM, fcallM, callee, fz1, fzC, fz, flat, flat1, flat0, flatI, Option.bind_some, putAll, M.bind]; rfl) ?_
        refine Wp.cond rfl ?_
        cases h2 : decide (r.2 < 9223372036854775807) with
        | true =>
          refine Wp.rgn (K := 0) (fun n _ => by simp [evalRgn, Option.map_some, evalOps, step, wants, osem, M.run_bind, M.mapL, M.run, M.ok, M.fresh, M.write, M.look, M.lift, putD, Arb.set, ev, Arb.get, keepFr, bin, intBin, strBin, mk, params, cellsM, load, obRead, fadr, fld, isl, iarr, xarr, idx, len, valid, slc, bound, store, splice, nilc, un, eqs, eq0, evalFeet, footOf, M.foot, orderOk, apartAll, apart1, clash, meets, callM, fcallM, callee, fz1, fzC, fz, flat, flat1, flat0, flatI, Option.bind_some, putAll, M.bind, setAll, app, elems, roomy, hr1, hr2, hr3, hr4, ht2, ht3]; rfl) ?_
          simp only [Ex.then, Ex.inBlock]
          refine Wp.rgn (K := 0) (fun n _ => by simp [evalRgn, Option.map_some, evalOps, step, wants, osem, M.run_bind, M.mapL, M.run, M.ok, M.fresh, M.write, M.look, M.lift, putD, Arb.set, ev, Arb.get, keepFr, bin, intBin, strBin, mk, params, cellsM, load, obRead, fadr, fld, isl, iarr, xarr, idx, len, valid, slc, bound, store, splice, nilc, un, eqs, eq0, evalFeet, footOf, M.foot, orderOk, apartAll, apart1, clash, meets, callM, fcallM, callee, fz1, fzC, fz, flat, flat1, flat0, flatI, Option.bind_some, putAll, M.bind]; rfl) ?_
          exact ⟨m2, by omega, k + 1, qs ++ [vI r.1, vI r.2, vI (IntKind.wrap .i64 (r.2 + 1))], by omega, by simp; omega, by simp [again, keepFr, get, nrm, nrmO, sets, hwk, V.enc, vI]; try omega⟩
        | false =>
          refine Wp.skip ?_
          simp only [Ex.then, Ex.inBlock]
          refine Wp.rgn (K := 0) (fun n _ => by simp [evalRgn, Option.map_some, evalOps, step, wants, osem, M.run_bind, M.mapL, M.run, M.ok, M.fresh, M.write, M.look, M.lift, putD, Arb.set, ev, Arb.get, keepFr, bin, intBin, strBin, mk, params, cellsM, load, obRead, fadr, fld, isl, iarr, xarr, idx, len, valid, slc, bound, store, splice, nilc, un, eqs, eq0, evalFeet, footOf, M.foot, orderOk, apartAll, apart1, clash, meets, callM, fcallM, callee, fz1, fzC, fz, flat, flat1, flat0, flatI, Option.bind_some, putAll, M.bind]; rfl) ?_
          exact ⟨m2, by omega, k + 1, qs ++ [vI r.1, vI r.2], by omega, by simp; omega, by simp [again, keepFr, get, nrm, nrmO, sets, hwk, V.enc, vI]; try omega⟩
end
end Arb

/-
  IS ONE BOX IN ANOTHER ONE, ARE ANY BOXES A RIGHT FILTER: the document says something.
-/
set_option linter.unusedSimpArgs false
namespace Arb
open Go

structure In6 (prog : Nat → Option IFn) : Prop extends Right6 prog, Has3 prog where
  h104 : prog 104 = some F104
  h109 : prog 109 = some F109
  h110 : prog 110 = some F110
  h111 : prog 111 = some F111
  h113 : prog 113 = some F113
  h114 : prog 114 = some F114

section
variable {prog : Nat → Option IFn}

set_option maxHeartbeats 4000000 in
theorem p_inS (I : In6 prog) (x y : S) (hx : x.i.length ≤ 6 ∧ x.s.length ≤ 6) (hy : y.i.length ≤ 6 ∧ y.s.length ≤ 6) : ∃ b, Ans prog 109 [x.av, y.av] (.iv (.bool b)) := by
  obtain ⟨_, ⟨ps, rfl, hps⟩, KP, hKP⟩ := p_points I.h49 I.h114 I.h113 I.h111 I.h110 [x, y] (by simp) (by intro z hz; simp at hz; rcases hz with rfl | rfl <;> assumption)
  have hps' : ps.length ≤ maxLen := by unfold maxLen; omega
  suffices h : ∃ z, (∃ b, z = .iv (.bool b)) ∧ Ans prog 109 [x.av, y.av] z by
    obtain ⟨_, ⟨b, rfl⟩, h⟩ := h
    exact ⟨b, h⟩
  refine Ans.ofx I.h109 rfl rfl _ (Wp.seq ?_)
  refine Wp.rgn (K := 0) (fun n _ => by simp [evalRgn, Option.map_some, evalOps, step, wants, osem, M.run_bind, M.mapL, M.run, M.ok, M.fresh, M.write, M.look, M.lift, putD, Arb.set, ev, Arb.get, keepFr, bin, intBin, strBin, mk, params, cellsM, load, obRead, fadr, fld, isl, iarr, xarr, idx, len, valid, slc, bound, store, splice, nilc, un, eqs, eq0, evalFeet, footOf, M.foot, orderOk, apartAll, apart1, clash, meets, callM, fcallM, callee, fz1, fzC, fz, flat, flat1, flat0, flatI, Option.bind_some, putAll, M.bind, S.av]; rfl) ?_
  refine Wp.seq ?_
  refine Wp.rgn (K := KP) (s' := ⟨[(2, .ref 1000 0 0 0), (3, .ref 1064 0 0 0), (5, .iv (.sl 3 (ps.map V.enc)))], [(1000, .cells [.iv (.bool x.a), .iv (.sl 2 (x.i.map rng)), .iv (.bool x.c), .iv (.sl 1 (x.s.map st1))]), (1064, .cells [.iv (.bool y.a), .iv (.sl 2 (y.i.map rng)), .iv (.bool y.c), .iv (.sl 1 (y.s.map st1))]), (1320, .imm 0 4 [x.enc, y.enc])], 1512⟩) (fun n hn => by
    have e1 := hKP n hn
    simp only [sets, List.map_cons, List.map_nil, S.enc] at e1
    generalize evalF prog n = g at e1
    simp [evalRgn, Option.map_some, evalOps, step, wants, osem, M.run_bind, M.mapL, M.run, M.ok, M.fresh, M.write, M.look, M.lift, putD, Arb.set, ev, Arb.get, keepFr, bin, intBin, strBin, mk, params, cellsM, load, obRead, fadr, fld, isl, iarr, xarr, idx, len, valid, slc, bound, store, splice, nilc, un, eqs, eq0, evalFeet, footOf, M.foot, orderOk, apartAll, apart1, clash, meets, callM, fcallM, callee, fz1, fzC, fz, flat, flat1, flat0, flatI, Option.bind_some, putAll, M.bind, setAll, S.enc, e1]) ?_
  refine Wp.seq (Wp.seq ?_)
  refine Wp.rgn (K := 0) (fun n _ => by simp [evalRgn, Option.map_some, evalOps, step, wants, osem, M.run_bind, M.mapL, M.run, M.ok, M.fresh, M.write, M.look, M.lift, putD, Arb.set, ev, Arb.get, keepFr, bin, intBin, strBin, mk, params, cellsM, load, obRead, fadr, fld, isl, iarr, xarr, idx, len, valid, slc, bound, store, splice, nilc, un, eqs, eq0, evalFeet, footOf, M.foot, orderOk, apartAll, apart1, clash, meets, callM, fcallM, callee, fz1, fzC, fz, flat, flat1, flat0, flatI, Option.bind_some, putAll, M.bind]; rfl) ?_
  refine Wp.block ?_
  refine Wp.range ps.length (fun i => ⟨[(2, .ref 1000 0 0 0), (3, .ref 1064 0 0 0), (5, .iv (.sl 3 (ps.map V.enc))), (6, .iv (.int .i64 i))], [(1000, .cells [.iv (.bool x.a), .iv (.sl 2 (x.i.map rng)), .iv (.bool x.c), .iv (.sl 1 (x.s.map st1))]), (1064, .cells [.iv (.bool y.a), .iv (.sl 2 (y.i.map rng)), .iv (.bool y.c), .iv (.sl 1 (y.s.map st1))]), (1320, .imm 0 4 [x.enc, y.enc])], 1576⟩) (fun _ => True) (by simp [keepFr, get]) trivial ?_ ?_
  · intro i hi _
    obtain ⟨v, hv⟩ : ∃ v, ps[i]? = some v := ⟨_, List.getElem?_eq_getElem hi⟩
    obtain ⟨K1, hK1⟩ := p_hasV I.toHas3 x v (by unfold maxLen; omega) (by unfold maxLen; omega)
    obtain ⟨K2, hK2⟩ := p_hasV I.toHas3 y v (by unfold maxLen; omega) (by unfold maxLen; omega)
    refine Wp.seq (Wp.seq ?_)
    refine Wp.rgn (K := 0) (fun n _ => by simp [evalRgn, Option.map_some, evalOps, step, wants, osem, M.run_bind, M.mapL, M.run, M.ok, M.fresh, M.write, M.look, M.lift, putD, Arb.set, ev, Arb.get, keepFr, bin, intBin, strBin, mk, params, cellsM, load, obRead, fadr, fld, isl, iarr, xarr, idx, len, valid, slc, bound, store, splice, nilc, un, eqs, eq0, evalFeet, footOf, M.foot, orderOk, apartAll, apart1, clash, meets, callM, fcallM, callee, fz1, fzC, fz, flat, flat1, flat0, flatI, Option.bind_some, putAll, M.bind, hi]; rfl) ?_
    refine Wp.cond rfl (Wp.skip (Wp.seq (Wp.block (Wp.seq ?_))))
    refine Wp.rgn (K := max K1 K2) (s' := ⟨[(2, .ref 1000 0 0 0), (3, .ref 1064 0 0 0), (5, .iv (.sl 3 (ps.map V.enc))), (6, .iv (.int .i64 i)), (31, .iv (.bool (hasV x v && !hasV y v)))], [(1000, .cells [.iv (.bool x.a), .iv (.sl 2 (x.i.map rng)), .iv (.bool x.c), .iv (.sl 1 (x.s.map st1))]), (1064, .cells [.iv (.bool y.a), .iv (.sl 2 (y.i.map rng)), .iv (.bool y.c), .iv (.sl 1 (y.s.map st1))]), (1320, .imm 0 4 [x.enc, y.enc])], 2792⟩) (fun n hn => rgn_quiet' rfl (by
      have e1 := hK1 n (by omega)
      have e2 := hK2 n (by omega)
      simp only [S.av, V.av] at e1 e2
      generalize evalF prog n = g at e1 e2
      cases h1 : hasV x v <;> rw [h1] at e1 <;> simp [evalRgn, Option.map_some, evalOps, step, wants, osem, M.run_bind, M.mapL, M.run, M.ok, M.fresh, M.write, M.look, M.lift, putD, Arb.set, ev, Arb.get, keepFr, bin, intBin, strBin, mk, params, cellsM, load, obRead, fadr, fld, isl, iarr, xarr, idx, len, valid, slc, bound, store, splice, nilc, un, eqs, eq0, evalFeet, footOf, M.foot, orderOk, apartAll, apart1, clash, meets, callM, fcallM, callee, fz1, fzC, fz, flat, flat1, flat0, flatI, Option.bind_some, putAll, M.bind, hv, V.enc, e1, e2])) ?_
    refine Wp.cond rfl ?_
    cases hc : hasV x v && !hasV y v with
    | true =>
      refine Wp.seq ?_
      refine Wp.rgn (K := 0) (fun n _ => by simp [evalRgn, Option.map_some, evalOps, step, wants, osem, M.run_bind, M.mapL, M.run, M.ok, M.fresh, M.write, M.look, M.lift, putD, Arb.set, ev, Arb.get, keepFr, bin, intBin, strBin, mk, params, cellsM, load, obRead, fadr, fld, isl, iarr, xarr, idx, len, valid, slc, bound, store, splice, nilc, un, eqs, eq0, evalFeet, footOf, M.foot, orderOk, apartAll, apart1, clash, meets, callM, fcallM, callee, fz1, fzC, fz, flat, flat1, flat0, flatI, Option.bind_some, putAll, M.bind]; rfl) ?_
      exact Wp.ret ⟨_, ⟨false, rfl⟩, rfl⟩
    | false =>
      refine Wp.skip ?_
      refine Wp.rgn (K := 0) (fun n _ => by simp [evalRgn, Option.map_some, evalOps, step, wants, osem, M.run_bind, M.mapL, M.run, M.ok, M.fresh, M.write, M.look, M.lift, putD, Arb.set, ev, Arb.get, keepFr, bin, intBin, strBin, mk, params, cellsM, load, obRead, fadr, fld, isl, iarr, xarr, idx, len, valid, slc, bound, store, splice, nilc, un, eqs, eq0, evalFeet, footOf, M.foot, orderOk, apartAll, apart1, clash, meets, callM, fcallM, callee, fz1, fzC, fz, flat, flat1, flat0, flatI, Option.bind_some, putAll, M.bind]; rfl) ?_
      exact ⟨by simp [again, keepFr, get, nrm_iv, nrm_ref_cells, nrmO, nrm, wrap_succ hi hps'], trivial⟩
  · intro _
    refine Wp.seq (Wp.seq ?_)
    refine Wp.rgn (K := 0) (fun n _ => by simp [evalRgn, Option.map_some, evalOps, step, wants, osem, M.run_bind, M.mapL, M.run, M.ok, M.fresh, M.write, M.look, M.lift, putD, Arb.set, ev, Arb.get, keepFr, bin, intBin, strBin, mk, params, cellsM, load, obRead, fadr, fld, isl, iarr, xarr, idx, len, valid, slc, bound, store, splice, nilc, un, eqs, eq0, evalFeet, footOf, M.foot, orderOk, apartAll, apart1, clash, meets, callM, fcallM, callee, fz1, fzC, fz, flat, flat1, flat0, flatI, Option.bind_some, putAll, M.bind]; rfl) ?_
    refine Wp.cond rfl (Wp.exit ?_)
    simp only [Ex.then, Ex.inBlock, if_true]
    refine Wp.seq ?_
    refine Wp.rgn (K := 0) (fun n _ => by simp [evalRgn, Option.map_some, evalOps, step, wants, osem, M.run_bind, M.mapL, M.run, M.ok, M.fresh, M.write, M.look, M.lift, putD, Arb.set, ev, Arb.get, keepFr, bin, intBin, strBin, mk, params, cellsM, load, obRead, fadr, fld, isl, iarr, xarr, idx, len, valid, slc, bound, store, splice, nilc, un, eqs, eq0, evalFeet, footOf, M.foot, orderOk, apartAll, apart1, clash, meets, callM, fcallM, callee, fz1, fzC, fz, flat, flat1, flat0, flatI, Option.bind_some, putAll, M.bind]; rfl) ?_
    exact Wp.ret ⟨_, ⟨true, rfl⟩, rfl⟩

def B.small (b : B) : Prop := ∀ i, i < 4 → (b.get i).i.length ≤ 6 ∧ (b.get i).s.length ≤ 6

set_option maxHeartbeats 4000000 in
theorem p_inB (I : In6 prog) (x y : B) (hx : x.ok) (sx : x.small) (sy : y.small) : ∃ b, Ans prog 104 [x.av, y.av] (.iv (.bool b)) := by
  obtain ⟨K1, hK1⟩ := p_emptyB4 I.h108 I.h103 x hx
  suffices h : ∃ z, (∃ b, z = .iv (.bool b)) ∧ Ans prog 104 [x.av, y.av] z by
    obtain ⟨_, ⟨b, rfl⟩, h⟩ := h
    exact ⟨b, h⟩
  refine Ans.ofx I.h104 rfl rfl _ (Wp.seq ?_)
  refine Wp.rgn (K := 0) (s' := ⟨[(2, .ref 1000 0 0 0), (3, .ref 1064 0 0 0)], [(1000, .cells x.cs), (1064, .cells y.cs)], 1192⟩) (fun n _ => by simp [evalRgn, Option.map_some, evalOps, step, wants, osem, M.run_bind, M.mapL, M.run, M.ok, M.fresh, M.write, M.look, M.lift, putD, Arb.set, ev, Arb.get, keepFr, bin, intBin, strBin, mk, params, cellsM, load, obRead, fadr, fld, isl, iarr, xarr, idx, len, valid, slc, bound, store, splice, nilc, un, eqs, eq0, evalFeet, footOf, M.foot, orderOk, apartAll, apart1, clash, meets, callM, fcallM, callee, fz1, flat, flat1, flat0, flatI, Option.bind_some, putAll, M.bind, B.av, B.cs_nilc]) ?_
  refine Wp.seq (Wp.seq ?_)
  refine Wp.rgn (K := K1) (s' := ⟨[(2, .ref 1000 0 0 0), (3, .ref 1064 0 0 0), (7, .iv (.bool (anyB emptyS x)))], [(1000, .cells x.cs), (1064, .cells y.cs)], 1320⟩) (fun n hn => by
    have e1 := hK1 n hn
    simp only [B.av] at e1
    generalize evalF prog n = g at e1
    simp [evalRgn, Option.map_some, evalOps, step, wants, osem, M.run_bind, M.mapL, M.run, M.ok, M.fresh, M.write, M.look, M.lift, putD, Arb.set, ev, Arb.get, keepFr, bin, intBin, strBin, mk, params, cellsM, load, obRead, fadr, fld, isl, iarr, xarr, idx, len, valid, slc, bound, store, splice, nilc, un, eqs, eq0, evalFeet, footOf, M.foot, orderOk, apartAll, apart1, clash, meets, callM, fcallM, callee, fz1, flat, flat1, flat0, flatI, Option.bind_some, putAll, M.bind, B.cs_16, B.cs_len, B.cs_fzC, e1]) ?_
  refine Wp.cond rfl ?_
  cases he : anyB emptyS x with
  | true =>
    refine Wp.seq ?_
    refine Wp.rgn (K := 0) (fun n _ => by simp [evalRgn, Option.map_some, evalOps, step, wants, osem, M.run_bind, M.mapL, M.run, M.ok, M.fresh, M.write, M.look, M.lift, putD, Arb.set, ev, Arb.get, keepFr, bin, intBin, strBin, mk, params, cellsM, load, obRead, fadr, fld, isl, iarr, xarr, idx, len, valid, slc, bound, store, splice, nilc, un, eqs, eq0, evalFeet, footOf, M.foot, orderOk, apartAll, apart1, clash, meets, callM, fcallM, callee, fz1, fzC, fz, flat, flat1, flat0, flatI, Option.bind_some, putAll, M.bind]; rfl) ?_
    exact Wp.ret ⟨_, ⟨true, rfl⟩, rfl⟩
  | false =>
    refine Wp.skip (Wp.seq (Wp.seq ?_))
    refine Wp.rgn (K := 0) (fun n _ => by simp [evalRgn, Option.map_some, evalOps, step, wants, osem, M.run_bind, M.mapL, M.run, M.ok, M.fresh, M.write, M.look, M.lift, putD, Arb.set, ev, Arb.get, keepFr, bin, intBin, strBin, mk, params, cellsM, load, obRead, fadr, fld, isl, iarr, xarr, idx, len, valid, slc, bound, store, splice, nilc, un, eqs, eq0, evalFeet, footOf, M.foot, orderOk, apartAll, apart1, clash, meets, callM, fcallM, callee, fz1, fzC, fz, flat, flat1, flat0, flatI, Option.bind_some, putAll, M.bind]; rfl) ?_
    refine Wp.block ?_
    refine Wp.range 4 (fun i => ⟨[(2, .ref 1000 0 0 0), (3, .ref 1064 0 0 0), (5, .iv (.int .i64 i))], [(1000, .cells x.cs), (1064, .cells y.cs)], 1384⟩) (fun _ => True) rfl trivial ?_ ?_
    · intro i hi _
      have hi' : (i : Int) < 4 := by omega
      have hm : min 4 (16 - i * 4) = 4 := by omega
      obtain ⟨v, K2, hK2⟩ := p_inS I (x.get i) (y.get i) (sx i hi) (sy i hi)
      refine Wp.seq (Wp.seq ?_)
      refine Wp.rgn (K := 0) (fun n _ => by simp [evalRgn, Option.map_some, evalOps, step, wants, osem, M.run_bind, M.mapL, M.run, M.ok, M.fresh, M.write, M.look, M.lift, putD, Arb.set, ev, Arb.get, keepFr, bin, intBin, strBin, mk, params, cellsM, load, obRead, fadr, fld, isl, iarr, xarr, idx, len, valid, slc, bound, store, splice, nilc, un, eqs, eq0, evalFeet, footOf, M.foot, orderOk, apartAll, apart1, clash, meets, callM, fcallM, callee, fz1, fzC, fz, flat, flat1, flat0, flatI, Option.bind_some, putAll, M.bind, hi']; rfl) ?_
      refine Wp.cond rfl (Wp.skip (Wp.seq (Wp.block (Wp.seq ?_))))
      refine Wp.rgn (K := K2) (s' := ⟨[(2, .ref 1000 0 0 0), (3, .ref 1064 0 0 0), (5, .iv (.int .i64 i)), (19, .iv (.bool (!v)))], [(1000, .cells x.cs), (1064, .cells y.cs)], 2024⟩) (fun n hn => rgn_quiet' rfl (by
        have e1 := hK2 n hn
        simp only [S.av] at e1
        generalize evalF prog n = g at e1
        simp [evalRgn, Option.map_some, evalOps, step, wants, osem, M.run_bind, M.mapL, M.run, M.ok, M.fresh, M.write, M.look, M.lift, putD, Arb.set, ev, Arb.get, keepFr, bin, intBin, strBin, mk, params, cellsM, load, obRead, fadr, fld, isl, iarr, xarr, idx, len, valid, slc, bound, store, splice, nilc, un, eqs, eq0, evalFeet, footOf, M.foot, orderOk, apartAll, apart1, clash, meets, callM, fcallM, callee, fz1, fzC, fz, flat, flat1, flat0, flatI, Option.bind_some, putAll, M.bind, hi', B.cs_at x hi, B.cs_at y hi, B.cs_len, hm, e1])) ?_
      refine Wp.cond rfl ?_
      cases v with
      | false =>
        refine Wp.seq ?_
        refine Wp.rgn (K := 0) (fun n _ => by simp [evalRgn, Option.map_some, evalOps, step, wants, osem, M.run_bind, M.mapL, M.run, M.ok, M.fresh, M.write, M.look, M.lift, putD, Arb.set, ev, Arb.get, keepFr, bin, intBin, strBin, mk, params, cellsM, load, obRead, fadr, fld, isl, iarr, xarr, idx, len, valid, slc, bound, store, splice, nilc, un, eqs, eq0, evalFeet, footOf, M.foot, orderOk, apartAll, apart1, clash, meets, callM, fcallM, callee, fz1, fzC, fz, flat, flat1, flat0, flatI, Option.bind_some, putAll, M.bind]; rfl) ?_
        exact Wp.ret ⟨_, ⟨false, rfl⟩, rfl⟩
      | true =>
        refine Wp.skip ?_
        refine Wp.rgn (K := 0) (fun n _ => by simp [evalRgn, Option.map_some, evalOps, step, wants, osem, M.run_bind, M.mapL, M.run, M.ok, M.fresh, M.write, M.look, M.lift, putD, Arb.set, ev, Arb.get, keepFr, bin, intBin, strBin, mk, params, cellsM, load, obRead, fadr, fld, isl, iarr, xarr, idx, len, valid, slc, bound, store, splice, nilc, un, eqs, eq0, evalFeet, footOf, M.foot, orderOk, apartAll, apart1, clash, meets, callM, fcallM, callee, fz1, fzC, fz, flat, flat1, flat0, flatI, Option.bind_some, putAll, M.bind]; rfl) ?_
        exact ⟨by simp [again, keepFr, get, nrm_iv, nrm_ref_cells, nrmO, B.cs_nrm, wrap_lt4 hi], trivial⟩
    · intro _
      refine Wp.seq (Wp.seq ?_)
      refine Wp.rgn (K := 0) (fun n _ => by simp [evalRgn, Option.map_some, evalOps, step, wants, osem, M.run_bind, M.mapL, M.run, M.ok, M.fresh, M.write, M.look, M.lift, putD, Arb.set, ev, Arb.get, keepFr, bin, intBin, strBin, mk, params, cellsM, load, obRead, fadr, fld, isl, iarr, xarr, idx, len, valid, slc, bound, store, splice, nilc, un, eqs, eq0, evalFeet, footOf, M.foot, orderOk, apartAll, apart1, clash, meets, callM, fcallM, callee, fz1, fzC, fz, flat, flat1, flat0, flatI, Option.bind_some, putAll, M.bind]; rfl) ?_
      refine Wp.cond rfl (Wp.exit ?_)
      simp only [Ex.then, Ex.inBlock, if_true]
      refine Wp.seq ?_
      refine Wp.rgn (K := 0) (fun n _ => by simp [evalRgn, Option.map_some, evalOps, step, wants, osem, M.run_bind, M.mapL, M.run, M.ok, M.fresh, M.write, M.look, M.lift, putD, Arb.set, ev, Arb.get, keepFr, bin, intBin, strBin, mk, params, cellsM, load, obRead, fadr, fld, isl, iarr, xarr, idx, len, valid, slc, bound, store, splice, nilc, un, eqs, eq0, evalFeet, footOf, M.foot, orderOk, apartAll, apart1, clash, meets, callM, fcallM, callee, fz1, fzC, fz, flat, flat1, flat0, flatI, Option.bind_some, putAll, M.bind]; rfl) ?_
      exact Wp.ret ⟨_, ⟨true, rfl⟩, rfl⟩
end
end Arb

/-
  ARE ANY BOXES A RIGHT FILTER: the document says something.
-/
set_option linter.unusedSimpArgs false
namespace Arb
open Go

theorem allsmall {b : B} (h : allB smallS b = true) : b.small := by
  intro i hi
  have := allB_iff.1 h i hi
  simpa [smallS] using this

section
variable {prog : Nat → Option IFn}

set_option maxHeartbeats 8000000 in
theorem p_tidyAny (I : In6 prog) (f : List B) (hl : f.length ≤ 4) (hf : ∀ b ∈ f, b.ok ∧ b.small) : ∃ rows : List (List IV), Ans prog 99 [filt f] (.iv (.sl 16 rows)) := by
  suffices h : ∃ z, (∃ rows : List (List IV), z = .iv (.sl 16 rows)) ∧ Ans prog 99 [filt f] z by
    obtain ⟨_, ⟨b, rfl⟩, h⟩ := h
    exact ⟨b, h⟩
  refine Ans.ofx I.h99 rfl rfl _ (Wp.seq ?_)
  refine Wp.rgn (K := 0) (fun n _ => by simp [evalRgn, Option.map_some, evalOps, step, wants, osem, M.run_bind, M.mapL, M.run, M.ok, M.fresh, M.write, M.look, M.lift, putD, Arb.set, ev, Arb.get, keepFr, bin, intBin, strBin, mk, params, cellsM, load, obRead, fadr, fld, isl, iarr, xarr, idx, len, valid, slc, bound, store, splice, nilc, un, eqs, eq0, evalFeet, footOf, M.foot, orderOk, apartAll, apart1, clash, meets, callM, fcallM, callee, fz1, fzC, fz, flat, flat1, flat0, flatI, Option.bind_some, putAll, M.bind]; rfl) ?_
  refine Wp.seq ?_
  refine Wp.rgn (K := 0) (fun n _ => by simp [evalRgn, Option.map_some, evalOps, step, wants, osem, M.run_bind, M.mapL, M.run, M.ok, M.fresh, M.write, M.look, M.lift, putD, Arb.set, ev, Arb.get, keepFr, bin, intBin, strBin, mk, params, cellsM, load, obRead, fadr, fld, isl, iarr, xarr, idx, len, valid, slc, bound, store, splice, nilc, un, eqs, eq0, evalFeet, footOf, M.foot, orderOk, apartAll, apart1, clash, meets, callM, fcallM, callee, fz1, fzC, fz, flat, flat1, flat0, flatI, Option.bind_some, putAll, M.bind]; rfl) ?_
  refine Wp.seq (Wp.seq ?_)
  refine Wp.rgn (K := 0) (fun n _ => by simp [evalRgn, Option.map_some, evalOps, step, wants, osem, M.run_bind, M.mapL, M.run, M.ok, M.fresh, M.write, M.look, M.lift, putD, Arb.set, ev, Arb.get, keepFr, bin, intBin, strBin, mk, params, cellsM, load, obRead, fadr, fld, isl, iarr, xarr, idx, len, valid, slc, bound, store, splice, nilc, un, eqs, eq0, evalFeet, footOf, M.foot, orderOk, apartAll, apart1, clash, meets, callM, fcallM, callee, fz1, fzC, fz, flat, flat1, flat0, flatI, Option.bind_some, putAll, M.bind]; rfl) ?_
  refine Wp.block ?_
  refine Wp.loop (fun m s1 => ∃ (i : Nat) (o : List B), i + m = f.length ∧ o.length ≤ i ∧ s1 = ⟨[(0, filt f), (3, .own 1064 0 o.length 0), (4, .iv (.int .i64 i))], [(1000, .buf 0 16 []), (1064, .buf 0 16 (o.map B.enc))], 1192⟩) (m := f.length) ⟨0, [], by omega, by simp, rfl⟩ ?_
  rintro m s1 ⟨i, o, hm, ho, rfl⟩
  have hwi : IntKind.wrap .i64 ((i : Int) + 1) = (i : Int) + 1 := IntWalk.i64_in _ (by omega)
  cases m with
  | zero =>
    have hno : ¬ (i : Int) < f.length := by omega
    refine Wp.seq (Wp.seq ?_)
    refine Wp.rgn (K := 0) (s' := ⟨[(0, filt f), (3, .own 1064 0 o.length 0), (4, .iv (.int .i64 i)), (10, .iv (.bool false))], [(1000, .buf 0 16 []), (1064, .buf 0 16 (o.map B.enc))], 1448⟩) (fun n _ => by simp [evalRgn, Option.map_some, evalOps, step, wants, osem, M.run_bind, M.mapL, M.run, M.ok, M.fresh, M.write, M.look, M.lift, putD, Arb.set, ev, Arb.get, keepFr, bin, intBin, strBin, mk, params, cellsM, load, obRead, fadr, fld, isl, iarr, xarr, idx, len, valid, slc, bound, store, splice, nilc, un, eqs, eq0, evalFeet, footOf, M.foot, orderOk, apartAll, apart1, clash, meets, callM, fcallM, callee, fz1, fzC, fz, flat, flat1, flat0, flatI, Option.bind_some, putAll, M.bind, filt]; omega) ?_
    refine Wp.cond rfl (Wp.exit ?_)
    simp only [Ex.then, Ex.inBlock, if_true]
    refine Wp.seq ?_
    refine Wp.rgn (K := 0) (fun n _ => by simp [evalRgn, Option.map_some, evalOps, step, wants, osem, M.run_bind, M.mapL, M.run, M.ok, M.fresh, M.write, M.look, M.lift, putD, Arb.set, ev, Arb.get, keepFr, bin, intBin, strBin, mk, params, cellsM, load, obRead, fadr, fld, isl, iarr, xarr, idx, len, valid, slc, bound, store, splice, nilc, un, eqs, eq0, evalFeet, footOf, M.foot, orderOk, apartAll, apart1, clash, meets, callM, fcallM, callee, fz1, fzC, fz, flat, flat1, flat0, flatI, Option.bind_some, putAll, M.bind]; rfl) ?_
    refine Wp.ret ⟨_, ⟨o.map B.enc, rfl⟩, ?_⟩
    simp [FinS, F99, resAll, resM, outA, ev, get, M.look, M.bind, M.run, M.run_bind, M.ok, shut, fzA, fz1, fzC, fz, M.write, M.lift, take_map_len]
  | succ m =>
    have hi : i < f.length := by omega
    obtain ⟨z, hz⟩ : ∃ z, f[i]? = some z := ⟨_, List.getElem?_eq_getElem hi⟩
    obtain ⟨oz, sz⟩ := hf z (List.mem_of_getElem? hz)
    obtain ⟨K1, hK1⟩ := p_emptyB4 I.h108 I.h103 z oz
    refine Wp.seq (Wp.seq ?_)
    refine Wp.rgn (K := 0) (s' := ⟨[(0, filt f), (3, .own 1064 0 o.length 0), (4, .iv (.int .i64 i)), (10, .iv (.bool true))], [(1000, .buf 0 16 []), (1064, .buf 0 16 (o.map B.enc))], 1448⟩) (fun n _ => by simp [evalRgn, Option.map_some, evalOps, step, wants, osem, M.run_bind, M.mapL, M.run, M.ok, M.fresh, M.write, M.look, M.lift, putD, Arb.set, ev, Arb.get, keepFr, bin, intBin, strBin, mk, params, cellsM, load, obRead, fadr, fld, isl, iarr, xarr, idx, len, valid, slc, bound, store, splice, nilc, un, eqs, eq0, evalFeet, footOf, M.foot, orderOk, apartAll, apart1, clash, meets, callM, fcallM, callee, fz1, fzC, fz, flat, flat1, flat0, flatI, Option.bind_some, putAll, M.bind, filt, hi]) ?_
    refine Wp.cond rfl (Wp.skip (Wp.seq (Wp.block (Wp.seq ?_))))
    refine Wp.rgn (K := K1) (s' := ⟨[(0, filt f), (3, .own 1064 0 o.length 0), (4, .iv (.int .i64 i)), (5, .iv (.bool (!anyB emptyS z)))], [(1000, .buf 0 16 []), (1064, .buf 0 16 (o.map B.enc))], 1896⟩) (fun n hn => by
      have e1 := hK1 n hn
      simp only [B.av] at e1
      generalize evalF prog n = g at e1
      simp [evalRgn, Option.map_some, evalOps, step, wants, osem, M.run_bind, M.mapL, M.run, M.ok, M.fresh, M.write, M.look, M.lift, putD, Arb.set, ev, Arb.get, keepFr, bin, intBin, strBin, mk, params, cellsM, load, obRead, fadr, fld, isl, iarr, xarr, idx, len, valid, slc, bound, store, splice, nilc, un, eqs, eq0, evalFeet, footOf, M.foot, orderOk, apartAll, apart1, clash, meets, callM, fcallM, callee, fz1, flat, flat1, flat0, flatI, Option.bind_some, putAll, M.bind, filt, hz, B.enc_len, B.enc_take, B.enc_cs, B.cs_fzC, e1]) ?_
    refine Wp.seq (Wp.seq ?_)
    refine Wp.rgn (K := 0) (fun n _ => by simp [evalRgn, Option.map_some, evalOps, step, wants, osem, M.run_bind, M.mapL, M.run, M.ok, M.fresh, M.write, M.look, M.lift, putD, Arb.set, ev, Arb.get, keepFr, bin, intBin, strBin, mk, params, cellsM, load, obRead, fadr, fld, isl, iarr, xarr, idx, len, valid, slc, bound, store, splice, nilc, un, eqs, eq0, evalFeet, footOf, M.foot, orderOk, apartAll, apart1, clash, meets, callM, fcallM, callee, fz1, fzC, fz, flat, flat1, flat0, flatI, Option.bind_some, putAll, M.bind]; rfl) ?_
    refine Wp.block ?_
    refine Wp.loop (fun m s1 => ∃ (k : Nat) (kp : Bool), k + m = f.length ∧ s1 = ⟨[(0, filt f), (3, .own 1064 0 o.length 0), (4, .iv (.int .i64 i)), (5, .iv (.bool kp)), (6, .iv (.int .i64 k))], [(1000, .buf 0 16 []), (1064, .buf 0 16 (o.map B.enc))], 1960⟩) (m := f.length) ⟨0, !anyB emptyS z, by omega, by simp [keepFr, get]⟩ ?_
    rintro m2 s2 ⟨k, kp, hk, rfl⟩
    have hwk : IntKind.wrap .i64 ((k : Int) + 1) = (k : Int) + 1 := IntWalk.i64_in _ (by omega)
    cases m2 with
    | zero =>
      have hno : ¬ (k : Int) < f.length := by omega
      refine Wp.seq (Wp.seq ?_)
      refine Wp.rgn (K := 0) (s' := ⟨[(0, filt f), (3, .own 1064 0 o.length 0), (4, .iv (.int .i64 i)), (5, .iv (.bool kp)), (6, .iv (.int .i64 k)), (22, .iv (.bool false))], [(1000, .buf 0 16 []), (1064, .buf 0 16 (o.map B.enc))], 2216⟩) (fun n _ => by simp [evalRgn, Option.map_some, evalOps, step, wants, osem, M.run_bind, M.mapL, M.run, M.ok, M.fresh, M.write, M.look, M.lift, putD, Arb.set, ev, Arb.get, keepFr, bin, intBin, strBin, mk, params, cellsM, load, obRead, fadr, fld, isl, iarr, xarr, idx, len, valid, slc, bound, store, splice, nilc, un, eqs, eq0, evalFeet, footOf, M.foot, orderOk, apartAll, apart1, clash, meets, callM, fcallM, callee, fz1, fzC, fz, flat, flat1, flat0, flatI, Option.bind_some, putAll, M.bind, filt]; omega) ?_
      refine Wp.cond rfl (Wp.exit ?_)
      simp only [Ex.then, Ex.inBlock, if_true]
      refine Wp.seq ?_
      refine Wp.rgn (K := 0) (fun n _ => by simp [evalRgn, Option.map_some, evalOps, step, wants, osem, M.run_bind, M.mapL, M.run, M.ok, M.fresh, M.write, M.look, M.lift, putD, Arb.set, ev, Arb.get, keepFr, bin, intBin, strBin, mk, params, cellsM, load, obRead, fadr, fld, isl, iarr, xarr, idx, len, valid, slc, bound, store, splice, nilc, un, eqs, eq0, evalFeet, footOf, M.foot, orderOk, apartAll, apart1, clash, meets, callM, fcallM, callee, fz1, fzC, fz, flat, flat1, flat0, flatI, Option.bind_some, putAll, M.bind]; rfl) ?_
      refine Wp.cond rfl ?_
      cases kp with
      | false =>
        refine Wp.skip ?_
        simp only [Ex.then, Ex.inBlock]
        refine Wp.rgn (K := 0) (fun n _ => by simp [evalRgn, Option.map_some, evalOps, step, wants, osem, M.run_bind, M.mapL, M.run, M.ok, M.fresh, M.write, M.look, M.lift, putD, Arb.set, ev, Arb.get, keepFr, bin, intBin, strBin, mk, params, cellsM, load, obRead, fadr, fld, isl, iarr, xarr, idx, len, valid, slc, bound, store, splice, nilc, un, eqs, eq0, evalFeet, footOf, M.foot, orderOk, apartAll, apart1, clash, meets, callM, fcallM, callee, fz1, fzC, fz, flat, flat1, flat0, flatI, Option.bind_some, putAll, M.bind]; rfl) ?_
        exact ⟨m, by omega, i + 1, o, by omega, by omega, by simp [again, keepFr, get, nrm, nrmO, filt, hwi]⟩
      | true =>
        have hr1 : o.length + 1 ≤ 1073741824 := by omega
        refine Wp.rgn (K := 0) (fun n _ => by simp [evalRgn, Option.map_some, evalOps, step, wants, osem, M.run_bind, M.mapL, M.run, M.ok, M.fresh, M.write, M.look, M.lift, putD, Arb.set, ev, Arb.get, keepFr, bin, intBin, strBin, mk, params, cellsM, load, obRead, fadr, fld, isl, iarr, xarr, idx, len, valid, slc, bound, store, splice, nilc, un, eqs, eq0, evalFeet, footOf, M.foot, orderOk, apartAll, apart1, clash, meets, callM, fcallM, callee, fz1, flat, flat1, flat0, flatI, Option.bind_some, putAll, M.bind, filt, hz, B.enc_len, B.enc_take, B.enc_cs, B.cs_fzC, B.cs_fz, B.cs_len, setAll, app, elems, roomy, hr1, take_map_len]; rfl) ?_
        simp only [Ex.then, Ex.inBlock]
        refine Wp.rgn (K := 0) (fun n _ => by simp [evalRgn, Option.map_some, evalOps, step, wants, osem, M.run_bind, M.mapL, M.run, M.ok, M.fresh, M.write, M.look, M.lift, putD, Arb.set, ev, Arb.get, keepFr, bin, intBin, strBin, mk, params, cellsM, load, obRead, fadr, fld, isl, iarr, xarr, idx, len, valid, slc, bound, store, splice, nilc, un, eqs, eq0, evalFeet, footOf, M.foot, orderOk, apartAll, apart1, clash, meets, callM, fcallM, callee, fz1, fzC, fz, flat, flat1, flat0, flatI, Option.bind_some, putAll, M.bind]; rfl) ?_
        exact ⟨m, by omega, i + 1, o ++ [z], by omega, by simp; omega, by simp [again, keepFr, get, nrm, nrmO, filt, hwi]⟩
    | succ m2 =>
      have hk1 : k < f.length := by omega
      obtain ⟨w, hw⟩ : ∃ w, f[k]? = some w := ⟨_, List.getElem?_eq_getElem hk1⟩
      obtain ⟨ow, sw⟩ := hf w (List.mem_of_getElem? hw)
      obtain ⟨v1, K2, hK2⟩ := p_inB I z w oz sz sw
      obtain ⟨v2, K3, hK3⟩ := p_inB I w z ow sw sz
      refine Wp.seq (Wp.seq ?_)
      refine Wp.rgn (K := 0) (s' := ⟨[(0, filt f), (3, .own 1064 0 o.length 0), (4, .iv (.int .i64 i)), (5, .iv (.bool kp)), (6, .iv (.int .i64 k)), (22, .iv (.bool true))], [(1000, .buf 0 16 []), (1064, .buf 0 16 (o.map B.enc))], 2216⟩) (fun n _ => by simp [evalRgn, Option.map_some, evalOps, step, wants, osem, M.run_bind, M.mapL, M.run, M.ok, M.fresh, M.write, M.look, M.lift, putD, Arb.set, ev, Arb.get, keepFr, bin, intBin, strBin, mk, params, cellsM, load, obRead, fadr, fld, isl, iarr, xarr, idx, len, valid, slc, bound, store, splice, nilc, un, eqs, eq0, evalFeet, footOf, M.foot, orderOk, apartAll, apart1, clash, meets, callM, fcallM, callee, fz1, fzC, fz, flat, flat1, flat0, flatI, Option.bind_some, putAll, M.bind, filt, hk1]) ?_
      refine Wp.cond rfl (Wp.skip (Wp.seq (Wp.block (Wp.seq ?_))))
      refine Wp.rgn (K := max K2 K3) (s' := ⟨[(0, filt f), (3, .own 1064 0 o.length 0), (4, .iv (.int .i64 i)), (5, .iv (.bool kp)), (6, .iv (.int .i64 k)), (58, .iv (.bool ((((k : Int) != i) && kp) && v1 && (decide (k < i) || !v2))))], [(1000, .buf 0 16 []), (1064, .buf 0 16 (o.map B.enc))], 4392⟩) (fun n hn => rgn_quiet' rfl (by
        have e1 := hK2 n (by omega)
        have e2 := hK3 n (by omega)
        simp only [B.av] at e1 e2
        generalize evalF prog n = g at e1 e2
        cases h1 : ((k : Int) != i) with
        | false => simp [evalRgn, Option.map_some, evalOps, step, wants, osem, M.run_bind, M.mapL, M.run, M.ok, M.fresh, M.write, M.look, M.lift, putD, Arb.set, ev, Arb.get, keepFr, bin, intBin, strBin, mk, params, cellsM, load, obRead, fadr, fld, isl, iarr, xarr, idx, len, valid, slc, bound, store, splice, nilc, un, eqs, eq0, evalFeet, footOf, M.foot, orderOk, apartAll, apart1, clash, meets, callM, fcallM, callee, fz1, flat, flat1, flat0, flatI, Option.bind_some, putAll, M.bind, filt, hz, hw, B.enc_len, B.enc_take, B.enc_cs, B.cs_fzC, e1, e2, h1]
        | true =>
          cases kp with
          | false => simp [evalRgn, Option.map_some, evalOps, step, wants, osem, M.run_bind, M.mapL, M.run, M.ok, M.fresh, M.write, M.look, M.lift, putD, Arb.set, ev, Arb.get, keepFr, bin, intBin, strBin, mk, params, cellsM, load, obRead, fadr, fld, isl, iarr, xarr, idx, len, valid, slc, bound, store, splice, nilc, un, eqs, eq0, evalFeet, footOf, M.foot, orderOk, apartAll, apart1, clash, meets, callM, fcallM, callee, fz1, flat, flat1, flat0, flatI, Option.bind_some, putAll, M.bind, filt, hz, hw, B.enc_len, B.enc_take, B.enc_cs, B.cs_fzC, e1, e2, h1]
          | true =>
            cases v1 with
            | false => simp [evalRgn, Option.map_some, evalOps, step, wants, osem, M.run_bind, M.mapL, M.run, M.ok, M.fresh, M.write, M.look, M.lift, putD, Arb.set, ev, Arb.get, keepFr, bin, intBin, strBin, mk, params, cellsM, load, obRead, fadr, fld, isl, iarr, xarr, idx, len, valid, slc, bound, store, splice, nilc, un, eqs, eq0, evalFeet, footOf, M.foot, orderOk, apartAll, apart1, clash, meets, callM, fcallM, callee, fz1, flat, flat1, flat0, flatI, Option.bind_some, putAll, M.bind, filt, hz, hw, B.enc_len, B.enc_take, B.enc_cs, B.cs_fzC, e1, e2, h1]
            | true => cases h2 : decide (k < i) <;> simp [evalRgn, Option.map_some, evalOps, step, wants, osem, M.run_bind, M.mapL, M.run, M.ok, M.fresh, M.write, M.look, M.lift, putD, Arb.set, ev, Arb.get, keepFr, bin, intBin, strBin, mk, params, cellsM, load, obRead, fadr, fld, isl, iarr, xarr, idx, len, valid, slc, bound, store, splice, nilc, un, eqs, eq0, evalFeet, footOf, M.foot, orderOk, apartAll, apart1, clash, meets, callM, fcallM, callee, fz1, flat, flat1, flat0, flatI, Option.bind_some, putAll, M.bind, filt, hz, hw, B.enc_len, B.enc_take, B.enc_cs, B.cs_fzC, e1, e2, h1, h2])) ?_
      generalize ((((k : Int) != i) && kp) && v1 && (decide (k < i) || !v2)) = cv
      refine Wp.cond rfl ?_
      cases cv with
      | true =>
        refine Wp.rgn (K := 0) (fun n _ => by simp [evalRgn, Option.map_some, evalOps, step, wants, osem, M.run_bind, M.mapL, M.run, M.ok, M.fresh, M.write, M.look, M.lift, putD, Arb.set, ev, Arb.get, keepFr, bin, intBin, strBin, mk, params, cellsM, load, obRead, fadr, fld, isl, iarr, xarr, idx, len, valid, slc, bound, store, splice, nilc, un, eqs, eq0, evalFeet, footOf, M.foot, orderOk, apartAll, apart1, clash, meets, callM, fcallM, callee, fz1, fzC, fz, flat, flat1, flat0, flatI, Option.bind_some, putAll, M.bind]; rfl) ?_
        simp only [Ex.then, Ex.inBlock]
        refine Wp.rgn (K := 0) (fun n _ => by simp [evalRgn, Option.map_some, evalOps, step, wants, osem, M.run_bind, M.mapL, M.run, M.ok, M.fresh, M.write, M.look, M.lift, putD, Arb.set, ev, Arb.get, keepFr, bin, intBin, strBin, mk, params, cellsM, load, obRead, fadr, fld, isl, iarr, xarr, idx, len, valid, slc, bound, store, splice, nilc, un, eqs, eq0, evalFeet, footOf, M.foot, orderOk, apartAll, apart1, clash, meets, callM, fcallM, callee, fz1, fzC, fz, flat, flat1, flat0, flatI, Option.bind_some, putAll, M.bind]; rfl) ?_
        exact ⟨m2, by omega, k + 1, false, by omega, by simp [again, keepFr, get, nrm, nrmO, filt, hwk]⟩
      | false =>
        refine Wp.skip ?_
        simp only [Ex.then, Ex.inBlock]
        refine Wp.rgn (K := 0) (fun n _ => by simp [evalRgn, Option.map_some, evalOps, step, wants, osem, M.run_bind, M.mapL, M.run, M.ok, M.fresh, M.write, M.look, M.lift, putD, Arb.set, ev, Arb.get, keepFr, bin, intBin, strBin, mk, params, cellsM, load, obRead, fadr, fld, isl, iarr, xarr, idx, len, valid, slc, bound, store, splice, nilc, un, eqs, eq0, evalFeet, footOf, M.foot, orderOk, apartAll, apart1, clash, meets, callM, fcallM, callee, fz1, fzC, fz, flat, flat1, flat0, flatI, Option.bind_some, putAll, M.bind]; rfl) ?_
        exact ⟨m2, by omega, k + 1, kp, by omega, by simp [again, keepFr, get, nrm, nrmO, filt, hwk]⟩

set_option maxHeartbeats 4000000 in
theorem p_rightAny (I : In6 prog) (f : List B) (hl : f.length ≤ maxLen) (hf : ∀ b ∈ f, b.ok) : ∃ b, Ans prog 98 [filt f] (.iv (.bool b)) := by
  suffices h : ∃ z, (∃ b, z = .iv (.bool b)) ∧ Ans prog 98 [filt f] z by
    obtain ⟨_, ⟨b, rfl⟩, h⟩ := h
    exact ⟨b, h⟩
  refine Ans.ofx I.h98 rfl rfl _ (Wp.seq ?_)
  refine Wp.rgn (K := 0) (fun n _ => by simp [evalRgn, Option.map_some, evalOps, step, wants, osem, M.run_bind, M.mapL, M.run, M.ok, M.fresh, M.write, M.look, M.lift, putD, Arb.set, ev, Arb.get, keepFr, bin, intBin, strBin, mk, params, cellsM, load, obRead, fadr, fld, isl, iarr, xarr, idx, len, valid, slc, bound, store, splice, nilc, un, eqs, eq0, evalFeet, footOf, M.foot, orderOk, apartAll, apart1, clash, meets, callM, fcallM, callee, fz1, fzC, fz, flat, flat1, flat0, flatI, Option.bind_some, putAll, M.bind]; rfl) ?_
  refine Wp.seq (Wp.seq ?_)
  refine Wp.rgn (K := 0) (fun n _ => by simp [evalRgn, Option.map_some, evalOps, step, wants, osem, M.run_bind, M.mapL, M.run, M.ok, M.fresh, M.write, M.look, M.lift, putD, Arb.set, ev, Arb.get, keepFr, bin, intBin, strBin, mk, params, cellsM, load, obRead, fadr, fld, isl, iarr, xarr, idx, len, valid, slc, bound, store, splice, nilc, un, eqs, eq0, evalFeet, footOf, M.foot, orderOk, apartAll, apart1, clash, meets, callM, fcallM, callee, fz1, fzC, fz, flat, flat1, flat0, flatI, Option.bind_some, putAll, M.bind]; rfl) ?_
  refine Wp.block ?_
  refine Wp.range f.length (fun i => ⟨[(0, filt f), (3, .iv (.int .i64 i))], [], 1128⟩) (fun i => ∀ j z, j < i → f[j]? = some z → allB smallS z = true) rfl (fun j _ h => absurd h (Nat.not_lt_zero _)) ?_ ?_
  · intro i hi hg
    obtain ⟨z, hz⟩ : ∃ z, f[i]? = some z := ⟨_, List.getElem?_eq_getElem hi⟩
    have oz := hf z (List.mem_of_getElem? hz)
    obtain ⟨K1, hK1⟩ := p_rightB4 I.h105 I.h100 z oz
    obtain ⟨K2, hK2⟩ := p_smallB4 I.h106 I.h101 z oz
    refine Wp.seq (Wp.seq ?_)
    refine Wp.rgn (K := 0) (fun n _ => by simp [evalRgn, Option.map_some, evalOps, step, wants, osem, M.run_bind, M.mapL, M.run, M.ok, M.fresh, M.write, M.look, M.lift, putD, Arb.set, ev, Arb.get, keepFr, bin, intBin, strBin, mk, params, cellsM, load, obRead, fadr, fld, isl, iarr, xarr, idx, len, valid, slc, bound, store, splice, nilc, un, eqs, eq0, evalFeet, footOf, M.foot, orderOk, apartAll, apart1, clash, meets, callM, fcallM, callee, fz1, fzC, fz, flat, flat1, flat0, flatI, Option.bind_some, putAll, M.bind, filt, hi]; rfl) ?_
    refine Wp.cond rfl (Wp.skip (Wp.seq (Wp.block (Wp.seq ?_))))
    refine Wp.rgn (K := max K1 K2) (s' := ⟨[(0, filt f), (3, .iv (.int .i64 i)), (23, .iv (.bool (!(allB rightS z && allB smallS z))))], [], 2280⟩) (fun n hn => by
      have e1 := hK1 n (by omega)
      have e2 := hK2 n (by omega)
      simp only [B.av] at e1 e2
      generalize evalF prog n = g at e1 e2
      cases h1 : allB rightS z <;> rw [h1] at e1 <;> simp [evalRgn, Option.map_some, evalOps, step, wants, osem, M.run_bind, M.mapL, M.run, M.ok, M.fresh, M.write, M.look, M.lift, putD, Arb.set, ev, Arb.get, keepFr, bin, intBin, strBin, mk, params, cellsM, load, obRead, fadr, fld, isl, iarr, xarr, idx, len, valid, slc, bound, store, splice, nilc, un, eqs, eq0, evalFeet, footOf, M.foot, orderOk, apartAll, apart1, clash, meets, callM, fcallM, callee, fz1, flat, flat1, flat0, flatI, Option.bind_some, putAll, M.bind, filt, hz, B.enc_len, B.enc_take, B.enc_cs, B.cs_fzC, e1, e2]) ?_
    refine Wp.cond rfl ?_
    cases hr : allB rightS z && allB smallS z with
    | false =>
      refine Wp.seq ?_
      refine Wp.rgn (K := 0) (fun n _ => by simp [evalRgn, Option.map_some, evalOps, step, wants, osem, M.run_bind, M.mapL, M.run, M.ok, M.fresh, M.write, M.look, M.lift, putD, Arb.set, ev, Arb.get, keepFr, bin, intBin, strBin, mk, params, cellsM, load, obRead, fadr, fld, isl, iarr, xarr, idx, len, valid, slc, bound, store, splice, nilc, un, eqs, eq0, evalFeet, footOf, M.foot, orderOk, apartAll, apart1, clash, meets, callM, fcallM, callee, fz1, fzC, fz, flat, flat1, flat0, flatI, Option.bind_some, putAll, M.bind]; rfl) ?_
      exact Wp.ret ⟨_, ⟨false, rfl⟩, rfl⟩
    | true =>
      refine Wp.skip ?_
      refine Wp.rgn (K := 0) (fun n _ => by simp [evalRgn, Option.map_some, evalOps, step, wants, osem, M.run_bind, M.mapL, M.run, M.ok, M.fresh, M.write, M.look, M.lift, putD, Arb.set, ev, Arb.get, keepFr, bin, intBin, strBin, mk, params, cellsM, load, obRead, fadr, fld, isl, iarr, xarr, idx, len, valid, slc, bound, store, splice, nilc, un, eqs, eq0, evalFeet, footOf, M.foot, orderOk, apartAll, apart1, clash, meets, callM, fcallM, callee, fz1, fzC, fz, flat, flat1, flat0, flatI, Option.bind_some, putAll, M.bind]; rfl) ?_
      refine ⟨by simp [again, keepFr, get, nrm, filt, wrap_succ hi hl], fun j w hj hw => ?_⟩
      by_cases hji : j = i
      · subst hji
        rw [hz] at hw
        cases hw
        simp only [Bool.and_eq_true] at hr
        exact hr.2
      · exact hg j w (by omega) hw
  · intro hg
    refine Wp.seq (Wp.seq ?_)
    refine Wp.rgn (K := 0) (fun n _ => by simp [evalRgn, Option.map_some, evalOps, step, wants, osem, M.run_bind, M.mapL, M.run, M.ok, M.fresh, M.write, M.look, M.lift, putD, Arb.set, ev, Arb.get, keepFr, bin, intBin, strBin, mk, params, cellsM, load, obRead, fadr, fld, isl, iarr, xarr, idx, len, valid, slc, bound, store, splice, nilc, un, eqs, eq0, evalFeet, footOf, M.foot, orderOk, apartAll, apart1, clash, meets, callM, fcallM, callee, fz1, fzC, fz, flat, flat1, flat0, flatI, Option.bind_some, putAll, M.bind, filt]; rfl) ?_
    refine Wp.cond rfl (Wp.exit ?_)
    simp only [Ex.then, Ex.inBlock, if_true]
    refine Wp.seq ?_
    by_cases h4 : f.length ≤ 4
    · have h4' : (f.length : Int) ≤ 4 := by omega
      obtain ⟨rows, K3, hK3⟩ := p_tidyAny I f h4 fun b hb => by
        obtain ⟨j, hj, he⟩ := List.getElem_of_mem hb
        exact ⟨hf b hb, allsmall (hg j b hj (by rw [List.getElem?_eq_getElem hj, he]))⟩
      refine Wp.rgn (K := K3) (s' := ⟨[(2, .iv (.bool ((rows.length : Int) == f.length)))], [], 2152⟩) (fun n hn => by
        have e1 := hK3 n hn
        simp only [filt] at e1
        generalize evalF prog n = g at e1
        simp [evalRgn, Option.map_some, evalOps, step, wants, osem, M.run_bind, M.mapL, M.run, M.ok, M.fresh, M.write, M.look, M.lift, putD, Arb.set, ev, Arb.get, keepFr, bin, intBin, strBin, mk, params, cellsM, load, obRead, fadr, fld, isl, iarr, xarr, idx, len, valid, slc, bound, store, splice, nilc, un, eqs, eq0, evalFeet, footOf, M.foot, orderOk, apartAll, apart1, clash, meets, callM, fcallM, callee, fz1, fzC, fz, flat, flat1, flat0, flatI, Option.bind_some, putAll, M.bind, filt, h4', e1]) ?_
      exact Wp.ret ⟨_, ⟨_, rfl⟩, rfl⟩
    · have h4' : ¬ (f.length : Int) ≤ 4 := by omega
      refine Wp.rgn (K := 0) (s' := ⟨[(2, .iv (.bool false))], [], 2152⟩) (fun n hn => by simp [evalRgn, Option.map_some, evalOps, step, wants, osem, M.run_bind, M.mapL, M.run, M.ok, M.fresh, M.write, M.look, M.lift, putD, Arb.set, ev, Arb.get, keepFr, bin, intBin, strBin, mk, params, cellsM, load, obRead, fadr, fld, isl, iarr, xarr, idx, len, valid, slc, bound, store, splice, nilc, un, eqs, eq0, evalFeet, footOf, M.foot, orderOk, apartAll, apart1, clash, meets, callM, fcallM, callee, fz1, fzC, fz, flat, flat1, flat0, flatI, Option.bind_some, putAll, M.bind, filt, h4']; try omega) ?_
      exact Wp.ret ⟨_, ⟨_, rfl⟩, rfl⟩
end
end Arb

/-
  IN WHICH ATTRIBUTE TWO FILTERS DIFFER ALONE: the document's answer.
-/
set_option linter.unusedSimpArgs false
namespace Arb
open Go

/-- the last m attributes gone over, from the last one on -/
def diffDn (a b : B) : Nat → Nat × Int
  | 0 => (0, -1)
  | m + 1 => if sameS (a.get (3 - m)) (b.get (3 - m)) then diffDn a b m else ((diffDn a b m).1 + 1, ((3 - m : Nat) : Int))
theorem diffDn_le (a b : B) : ∀ m, (diffDn a b m).1 ≤ m
  | 0 => Nat.le_refl _
  | m + 1 => by
    have := diffDn_le a b m
    unfold diffDn
    split
    · omega
    · simp only []; omega
theorem diffDn_eq (a b : B) : (diffDn a b 4).1 = (diffTo a b 4).1 ∧ ((diffTo a b 4).1 = 1 → (diffDn a b 4).2 = (diffTo a b 4).2) := by
  simp only [diffDn, diffTo]
  cases sameS (a.get 0) (b.get 0) <;> cases sameS (a.get 1) (b.get 1) <;> cases sameS (a.get 2) (b.get 2) <;> cases sameS (a.get 3) (b.get 3) <;> decide
def besideD (a b : List B) : Int := match sole a b with
  | some (_, _, i) => (i : Int)
  | none => -1

section
variable {prog : Nat → Option IFn}

set_option maxHeartbeats 2000000 in
theorem p_differD (h41 : prog 41 = some F41) (h : prog 102 = some F102) (a b : B) (hL : a.fits) : Ans prog 102 [a.av, b.av] (.tup [.iv (.int .i64 (diffDn a b 4).1), .iv (.int .i64 (diffDn a b 4).2)]) := by
  refine Ans.of h rfl rfl (Wp.seq ?_)
  refine Wp.rgn (K := 0) (s' := ⟨[(2, .ref 1000 0 0 0), (3, .ref 1064 0 0 0)], [(1000, .cells a.cs), (1064, .cells b.cs)], 1256⟩) (fun n _ => by simp [evalRgn, Option.map_some, evalOps, step, wants, osem, M.run_bind, M.mapL, M.run, M.ok, M.fresh, M.write, M.look, M.lift, putD, Arb.set, ev, Arb.get, keepFr, bin, intBin, strBin, mk, params, cellsM, load, obRead, fadr, fld, isl, iarr, xarr, idx, len, valid, slc, bound, store, splice, nilc, un, eqs, eq0, evalFeet, footOf, M.foot, orderOk, apartAll, apart1, clash, meets, callM, fcallM, callee, fz1, flat, flat1, flat0, flatI, Option.bind_some, putAll, M.bind, B.av, B.cs_nilc]) ?_
  refine Wp.seq ?_
  refine Wp.rgn (K := 0) (fun n _ => by simp [evalRgn, Option.map_some, evalOps, step, wants, osem, M.run_bind, M.mapL, M.run, M.ok, M.fresh, M.write, M.look, M.lift, putD, Arb.set, ev, Arb.get, keepFr, bin, intBin, strBin, mk, params, cellsM, load, obRead, fadr, fld, isl, iarr, xarr, idx, len, valid, slc, bound, store, splice, nilc, un, eqs, eq0, evalFeet, footOf, M.foot, orderOk, apartAll, apart1, clash, meets, callM, fcallM, callee, fz1, fzC, fz, flat, flat1, flat0, flatI, Option.bind_some, putAll, M.bind]; rfl) ?_
  refine Wp.seq (Wp.seq ?_)
  refine Wp.rgn (K := 0) (fun n _ => by simp [evalRgn, Option.map_some, evalOps, step, wants, osem, M.run_bind, M.mapL, M.run, M.ok, M.fresh, M.write, M.look, M.lift, putD, Arb.set, ev, Arb.get, keepFr, bin, intBin, strBin, mk, params, cellsM, load, obRead, fadr, fld, isl, iarr, xarr, idx, len, valid, slc, bound, store, splice, nilc, un, eqs, eq0, evalFeet, footOf, M.foot, orderOk, apartAll, apart1, clash, meets, callM, fcallM, callee, fz1, fzC, fz, flat, flat1, flat0, flatI, Option.bind_some, putAll, M.bind]; rfl) ?_
  refine Wp.block ?_
  refine Wp.range 4 (fun i => ⟨[(2, .ref 1000 0 0 0), (3, .ref 1064 0 0 0), (6, .iv (.int .i64 (diffDn a b i).1)), (7, .iv (.int .i64 (diffDn a b i).2)), (8, .iv (.int .i64 (3 - (i : Int))))], [(1000, .cells a.cs), (1064, .cells b.cs)], 1448⟩) (fun _ => True) rfl trivial ?_ ?_
  · intro i hi _
    have hj : 3 - i < 4 := by omega
    have hc : (3 : Int) - (i : Int) = ((3 - i : Nat) : Int) := by omega
    have hj' : ((3 - i : Nat) : Int) < 4 := by omega
    have hm : min 4 (16 - (3 - i) * 4) = 4 := by omega
    have hle := diffDn_le a b i
    have hw : IntKind.i64.wrap (((diffDn a b i).1 : Int) + 1) = ((diffDn a b i).1 : Int) + 1 := IntWalk.i64_in _ (by omega)
    have hw2 : IntKind.i64.wrap (((3 - i : Nat) : Int) - 1) = (3 : Int) - ((i + 1 : Nat) : Int) := by rw [IntWalk.i64_in _ (by omega)]; omega
    have hm2 : (3 - i) * 4 ≤ 16 := by omega
    rw [hc]
    have hnext : diffDn a b (i + 1) = if sameS (a.get (3 - i)) (b.get (3 - i)) then diffDn a b i else ((diffDn a b i).1 + 1, ((3 - i : Nat) : Int)) := rfl
    rw [hnext]
    generalize 3 - i = j at hj hj' hm hw2 hm2
    refine Wp.seq (Wp.seq ?_)
    refine Wp.rgn (K := 0) (fun n _ => by simp [evalRgn, Option.map_some, evalOps, step, wants, osem, M.run_bind, M.mapL, M.run, M.ok, M.fresh, M.write, M.look, M.lift, putD, Arb.set, ev, Arb.get, keepFr, bin, intBin, strBin, mk, params, cellsM, load, obRead, fadr, fld, isl, iarr, xarr, idx, len, valid, slc, bound, store, splice, nilc, un, eqs, eq0, evalFeet, footOf, M.foot, orderOk, apartAll, apart1, clash, meets, callM, fcallM, callee, fz1, fzC, fz, flat, flat1, flat0, flatI, Option.bind_some, putAll, M.bind]; rfl) ?_
    refine Wp.cond rfl (Wp.skip (Wp.seq (Wp.block (Wp.seq ?_))))
    obtain ⟨K, hK⟩ := p_same3 h41 (a.get j) (b.get j) (hL j hj).1 (hL j hj).2
    refine Wp.rgn (K := K) (s' := ⟨[(2, .ref 1000 0 0 0), (3, .ref 1064 0 0 0), (6, .iv (.int .i64 (diffDn a b i).1)), (7, .iv (.int .i64 (diffDn a b i).2)), (8, .iv (.int .i64 j)), (20, .iv (.bool (!sameS (a.get j) (b.get j))))], [(1000, .cells a.cs), (1064, .cells b.cs)], 2088⟩) (fun n hn => rgn_quiet' rfl (by
      have e1 := hK n hn
      simp only [S.av] at e1
      generalize evalF prog n = g at e1
      simp [evalRgn, Option.map_some, evalOps, step, wants, osem, M.run_bind, M.mapL, M.run, M.ok, M.fresh, M.write, M.look, M.lift, putD, Arb.set, ev, Arb.get, keepFr, bin, intBin, strBin, mk, params, cellsM, load, obRead, fadr, fld, isl, iarr, xarr, idx, len, valid, slc, bound, store, splice, nilc, un, eqs, eq0, evalFeet, footOf, M.foot, orderOk, apartAll, apart1, clash, meets, callM, fcallM, callee, fz1, fzC, fz, flat, flat1, flat0, flatI, Option.bind_some, putAll, M.bind, hj', B.cs_at a hj, B.cs_at b hj, B.cs_len, hm, e1])) ?_
    refine Wp.cond rfl ?_
    cases hs : sameS (a.get j) (b.get j) with
    | false =>
      refine Wp.seq ?_
      refine Wp.rgn (K := 0) (fun n _ => by simp [evalRgn, Option.map_some, evalOps, step, wants, osem, M.run_bind, M.mapL, M.run, M.ok, M.fresh, M.write, M.look, M.lift, putD, Arb.set, ev, Arb.get, keepFr, bin, intBin, strBin, mk, params, cellsM, load, obRead, fadr, fld, isl, iarr, xarr, idx, len, valid, slc, bound, store, splice, nilc, un, eqs, eq0, evalFeet, footOf, M.foot, orderOk, apartAll, apart1, clash, meets, callM, fcallM, callee, fz1, fzC, fz, flat, flat1, flat0, flatI, Option.bind_some, putAll, M.bind, hw]; rfl) ?_
      refine Wp.rgn (K := 0) (fun n _ => by simp [evalRgn, Option.map_some, evalOps, step, wants, osem, M.run_bind, M.mapL, M.run, M.ok, M.fresh, M.write, M.look, M.lift, putD, Arb.set, ev, Arb.get, keepFr, bin, intBin, strBin, mk, params, cellsM, load, obRead, fadr, fld, isl, iarr, xarr, idx, len, valid, slc, bound, store, splice, nilc, un, eqs, eq0, evalFeet, footOf, M.foot, orderOk, apartAll, apart1, clash, meets, callM, fcallM, callee, fz1, fzC, fz, flat, flat1, flat0, flatI, Option.bind_some, putAll, M.bind]; rfl) ?_
      simp only [Ex.then, Ex.inBlock]
      refine Wp.rgn (K := 0) (fun n _ => by simp [evalRgn, Option.map_some, evalOps, step, wants, osem, M.run_bind, M.mapL, M.run, M.ok, M.fresh, M.write, M.look, M.lift, putD, Arb.set, ev, Arb.get, keepFr, bin, intBin, strBin, mk, params, cellsM, load, obRead, fadr, fld, isl, iarr, xarr, idx, len, valid, slc, bound, store, splice, nilc, un, eqs, eq0, evalFeet, footOf, M.foot, orderOk, apartAll, apart1, clash, meets, callM, fcallM, callee, fz1, fzC, fz, flat, flat1, flat0, flatI, Option.bind_some, putAll, M.bind]; rfl) ?_
      exact ⟨by simp [again, keepFr, get, nrm_iv, nrm_ref_cells, nrmO, B.cs_nrm, hw2], trivial⟩
    | true =>
      refine Wp.skip ?_
      simp only [Ex.then, Ex.inBlock]
      refine Wp.rgn (K := 0) (fun n _ => by simp [evalRgn, Option.map_some, evalOps, step, wants, osem, M.run_bind, M.mapL, M.run, M.ok, M.fresh, M.write, M.look, M.lift, putD, Arb.set, ev, Arb.get, keepFr, bin, intBin, strBin, mk, params, cellsM, load, obRead, fadr, fld, isl, iarr, xarr, idx, len, valid, slc, bound, store, splice, nilc, un, eqs, eq0, evalFeet, footOf, M.foot, orderOk, apartAll, apart1, clash, meets, callM, fcallM, callee, fz1, fzC, fz, flat, flat1, flat0, flatI, Option.bind_some, putAll, M.bind]; rfl) ?_
      exact ⟨by simp [again, keepFr, get, nrm_iv, nrm_ref_cells, nrmO, B.cs_nrm, hw2], trivial⟩
  · intro _
    refine Wp.seq (Wp.seq ?_)
    refine Wp.rgn (K := 0) (fun n _ => by simp [evalRgn, Option.map_some, evalOps, step, wants, osem, M.run_bind, M.mapL, M.run, M.ok, M.fresh, M.write, M.look, M.lift, putD, Arb.set, ev, Arb.get, keepFr, bin, intBin, strBin, mk, params, cellsM, load, obRead, fadr, fld, isl, iarr, xarr, idx, len, valid, slc, bound, store, splice, nilc, un, eqs, eq0, evalFeet, footOf, M.foot, orderOk, apartAll, apart1, clash, meets, callM, fcallM, callee, fz1, fzC, fz, flat, flat1, flat0, flatI, Option.bind_some, putAll, M.bind]; rfl) ?_
    refine Wp.cond rfl (Wp.exit ?_)
    simp only [Ex.then, Ex.inBlock, if_true]
    refine Wp.seq ?_
    refine Wp.rgn (K := 0) (fun n _ => by simp [evalRgn, Option.map_some, evalOps, step, wants, osem, M.run_bind, M.mapL, M.run, M.ok, M.fresh, M.write, M.look, M.lift, putD, Arb.set, ev, Arb.get, keepFr, bin, intBin, strBin, mk, params, cellsM, load, obRead, fadr, fld, isl, iarr, xarr, idx, len, valid, slc, bound, store, splice, nilc, un, eqs, eq0, evalFeet, footOf, M.foot, orderOk, apartAll, apart1, clash, meets, callM, fcallM, callee, fz1, fzC, fz, flat, flat1, flat0, flatI, Option.bind_some, putAll, M.bind]; rfl) ?_
    exact Wp.ret rfl

theorem besideD_none {a b : List B} (h : a.length ≠ 1 ∨ b.length ≠ 1) : besideD a b = -1 := by
  unfold besideD sole
  split
  · rename_i heq
    split at heq
    · simp at h
    · cases heq
  · rfl

set_option maxHeartbeats 4000000 in
theorem p_besideD (I : In6 prog) (h41 : prog 41 = some F41) (h102 : prog 102 = some F102) (h : prog 96 = some F96) (a b : List B) (la : a.length ≤ maxLen) (lb : b.length ≤ maxLen) (ha : ∀ x ∈ a, x.ok) (hb : ∀ x ∈ b, x.ok) :
    Ans prog 96 [filt a, filt b] (.iv (.int .i64 (besideD a b))) := by
  refine Ans.of h rfl rfl (Wp.seq ?_)
  refine Wp.rgn (K := 0) (fun n _ => by simp [evalRgn, Option.map_some, evalOps, step, wants, osem, M.run_bind, M.mapL, M.run, M.ok, M.fresh, M.write, M.look, M.lift, putD, Arb.set, ev, Arb.get, keepFr, bin, intBin, strBin, mk, params, cellsM, load, obRead, fadr, fld, isl, iarr, xarr, idx, len, valid, slc, bound, store, splice, nilc, un, eqs, eq0, evalFeet, footOf, M.foot, orderOk, apartAll, apart1, clash, meets, callM, fcallM, callee, fz1, fzC, fz, flat, flat1, flat0, flatI, Option.bind_some, putAll, M.bind]; rfl) ?_
  refine Wp.seq (Wp.seq ?_)
  by_cases hn : a.length ≠ 1 ∨ b.length ≠ 1
  · rw [besideD_none hn]
    obtain ⟨va, K1, hK1⟩ := p_rightAny I a la ha
    obtain ⟨vb, K2, hK2⟩ := p_rightAny I b lb hb
    refine Wp.rgn (K := max K1 K2) (s' := ⟨[(0, filt a), (1, filt b), (24, .iv (.bool true))], [], 2216⟩) (fun n hn' => by
      have e1 := hK1 n (by omega)
      have e2 := hK2 n (by omega)
      simp only [filt] at e1 e2
      generalize evalF prog n = g at e1 e2
      cases va with
      | false => simp [evalRgn, Option.map_some, evalOps, step, wants, osem, M.run_bind, M.mapL, M.run, M.ok, M.fresh, M.write, M.look, M.lift, putD, Arb.set, ev, Arb.get, keepFr, bin, intBin, strBin, mk, params, cellsM, load, obRead, fadr, fld, isl, iarr, xarr, idx, len, valid, slc, bound, store, splice, nilc, un, eqs, eq0, evalFeet, footOf, M.foot, orderOk, apartAll, apart1, clash, meets, callM, fcallM, callee, fz1, fzC, fz, flat, flat1, flat0, flatI, Option.bind_some, putAll, M.bind, filt, e1]
      | true =>
        cases vb with
        | false => simp [evalRgn, Option.map_some, evalOps, step, wants, osem, M.run_bind, M.mapL, M.run, M.ok, M.fresh, M.write, M.look, M.lift, putD, Arb.set, ev, Arb.get, keepFr, bin, intBin, strBin, mk, params, cellsM, load, obRead, fadr, fld, isl, iarr, xarr, idx, len, valid, slc, bound, store, splice, nilc, un, eqs, eq0, evalFeet, footOf, M.foot, orderOk, apartAll, apart1, clash, meets, callM, fcallM, callee, fz1, fzC, fz, flat, flat1, flat0, flatI, Option.bind_some, putAll, M.bind, filt, e1, e2]
        | true =>
          cases h1 : ((a.length : Int) != 1) with
          | true => simp [evalRgn, Option.map_some, evalOps, step, wants, osem, M.run_bind, M.mapL, M.run, M.ok, M.fresh, M.write, M.look, M.lift, putD, Arb.set, ev, Arb.get, keepFr, bin, intBin, strBin, mk, params, cellsM, load, obRead, fadr, fld, isl, iarr, xarr, idx, len, valid, slc, bound, store, splice, nilc, un, eqs, eq0, evalFeet, footOf, M.foot, orderOk, apartAll, apart1, clash, meets, callM, fcallM, callee, fz1, fzC, fz, flat, flat1, flat0, flatI, Option.bind_some, putAll, M.bind, filt, e1, e2, h1]
          | false =>
            have h2 : ((b.length : Int) != 1) = true := by simp at h1 hn ⊢; omega
            simp [evalRgn, Option.map_some, evalOps, step, wants, osem, M.run_bind, M.mapL, M.run, M.ok, M.fresh, M.write, M.look, M.lift, putD, Arb.set, ev, Arb.get, keepFr, bin, intBin, strBin, mk, params, cellsM, load, obRead, fadr, fld, isl, iarr, xarr, idx, len, valid, slc, bound, store, splice, nilc, un, eqs, eq0, evalFeet, footOf, M.foot, orderOk, apartAll, apart1, clash, meets, callM, fcallM, callee, fz1, fzC, fz, flat, flat1, flat0, flatI, Option.bind_some, putAll, M.bind, filt, e1, e2, h1, h2]) ?_
    refine Wp.cond rfl (Wp.seq ?_)
    refine Wp.rgn (K := 0) (fun n _ => by simp [evalRgn, Option.map_some, evalOps, step, wants, osem, M.run_bind, M.mapL, M.run, M.ok, M.fresh, M.write, M.look, M.lift, putD, Arb.set, ev, Arb.get, keepFr, bin, intBin, strBin, mk, params, cellsM, load, obRead, fadr, fld, isl, iarr, xarr, idx, len, valid, slc, bound, store, splice, nilc, un, eqs, eq0, evalFeet, footOf, M.foot, orderOk, apartAll, apart1, clash, meets, callM, fcallM, callee, fz1, fzC, fz, flat, flat1, flat0, flatI, Option.bind_some, putAll, M.bind]; rfl) ?_
    exact Wp.ret rfl
  · obtain ⟨x, rfl⟩ : ∃ x, a = [x] := List.length_eq_one_iff.1 (by omega)
    obtain ⟨y, rfl⟩ : ∃ y, b = [y] := List.length_eq_one_iff.1 (by omega)
    obtain ⟨K1, hK1⟩ := p_rightN I.toRight6 x (ha x (by simp))
    obtain ⟨K2, hK2⟩ := p_rightN I.toRight6 y (hb y (by simp))
    refine Wp.rgn (K := max K1 K2) (s' := ⟨[(0, filt [x]), (1, filt [y]), (24, .iv (.bool (!(right1 x && right1 y))))], [], 2216⟩) (fun n hn' => by
      have e1 := hK1 n (by omega)
      have e2 := hK2 n (by omega)
      simp only [filt] at e1 e2
      generalize evalF prog n = g at e1 e2
      cases hx : right1 x <;> rw [hx] at e1 <;> cases hy : right1 y <;> rw [hy] at e2 <;> simp at e1 e2 <;> simp [evalRgn, Option.map_some, evalOps, step, wants, osem, M.run_bind, M.mapL, M.run, M.ok, M.fresh, M.write, M.look, M.lift, putD, Arb.set, ev, Arb.get, keepFr, bin, intBin, strBin, mk, params, cellsM, load, obRead, fadr, fld, isl, iarr, xarr, idx, len, valid, slc, bound, store, splice, nilc, un, eqs, eq0, evalFeet, footOf, M.foot, orderOk, apartAll, apart1, clash, meets, callM, fcallM, callee, fz1, fzC, fz, flat, flat1, flat0, flatI, Option.bind_some, putAll, M.bind, filt, e1, e2]) ?_
    refine Wp.cond rfl ?_
    cases hr : right1 x && right1 y with
    | false =>
      refine Wp.seq ?_
      refine Wp.rgn (K := 0) (fun n _ => by simp [evalRgn, Option.map_some, evalOps, step, wants, osem, M.run_bind, M.mapL, M.run, M.ok, M.fresh, M.write, M.look, M.lift, putD, Arb.set, ev, Arb.get, keepFr, bin, intBin, strBin, mk, params, cellsM, load, obRead, fadr, fld, isl, iarr, xarr, idx, len, valid, slc, bound, store, splice, nilc, un, eqs, eq0, evalFeet, footOf, M.foot, orderOk, apartAll, apart1, clash, meets, callM, fcallM, callee, fz1, fzC, fz, flat, flat1, flat0, flatI, Option.bind_some, putAll, M.bind]; rfl) ?_
      refine Wp.ret ?_
      rw [show besideD [x] [y] = -1 by simp [besideD, sole, hr]]; rfl
    | true =>
      obtain ⟨e1, e2⟩ := diffDn_eq x y
      obtain ⟨K3, hK3⟩ := p_differD h41 h102 x y (ha x (by simp)).fits
      refine Wp.skip (Wp.seq ?_)
      refine Wp.rgn (K := K3) (s' := ⟨[(5, .iv (.int .i64 (diffDn x y 4).1)), (6, .iv (.int .i64 (diffDn x y 4).2))], [], _⟩) (fun n hn => rgn_quiet' rfl (by
        have e3 := hK3 n hn
        simp only [B.av] at e3
        generalize evalF prog n = g at e3
        simp [evalRgn, Option.map_some, evalOps, step, wants, osem, M.run_bind, M.mapL, M.run, M.ok, M.fresh, M.write, M.look, M.lift, putD, Arb.set, ev, Arb.get, keepFr, bin, intBin, strBin, mk, params, cellsM, load, obRead, fadr, fld, isl, iarr, xarr, idx, len, valid, slc, bound, store, splice, nilc, un, eqs, eq0, evalFeet, footOf, M.foot, orderOk, apartAll, apart1, clash, meets, callM, fcallM, callee, fz1, fzC, fz, flat, flat1, flat0, flatI, Option.bind_some, putAll, M.bind, filt, B.enc_take, B.enc_len, B.enc_cs, B.cs_fzC, e3]
        rfl)) ?_
      refine Wp.seq (Wp.seq ?_)
      refine Wp.rgn (K := 0) (fun n _ => by simp [evalRgn, Option.map_some, evalOps, step, wants, osem, M.run_bind, M.mapL, M.run, M.ok, M.fresh, M.write, M.look, M.lift, putD, Arb.set, ev, Arb.get, keepFr, bin, intBin, strBin, mk, params, cellsM, load, obRead, fadr, fld, isl, iarr, xarr, idx, len, valid, slc, bound, store, splice, nilc, un, eqs, eq0, evalFeet, footOf, M.foot, orderOk, apartAll, apart1, clash, meets, callM, fcallM, callee, fz1, fzC, fz, flat, flat1, flat0, flatI, Option.bind_some, putAll, M.bind]; rfl) ?_
      refine Wp.cond rfl ?_
      cases h1 : (((diffDn x y 4).1 : Int) != 1) with
      | true =>
        refine Wp.seq ?_
        refine Wp.rgn (K := 0) (fun n _ => by simp [evalRgn, Option.map_some, evalOps, step, wants, osem, M.run_bind, M.mapL, M.run, M.ok, M.fresh, M.write, M.look, M.lift, putD, Arb.set, ev, Arb.get, keepFr, bin, intBin, strBin, mk, params, cellsM, load, obRead, fadr, fld, isl, iarr, xarr, idx, len, valid, slc, bound, store, splice, nilc, un, eqs, eq0, evalFeet, footOf, M.foot, orderOk, apartAll, apart1, clash, meets, callM, fcallM, callee, fz1, fzC, fz, flat, flat1, flat0, flatI, Option.bind_some, putAll, M.bind]; rfl) ?_
        refine Wp.ret ?_
        have hne : ¬ (diffTo x y 4).1 = 1 := by rw [← e1]; simp at h1; omega
        rw [show besideD [x] [y] = -1 by simp [besideD, sole, hr, hne]]; rfl
      | false =>
        refine Wp.skip (Wp.seq ?_)
        refine Wp.rgn (K := 0) (fun n _ => by simp [evalRgn, Option.map_some, evalOps, step, wants, osem, M.run_bind, M.mapL, M.run, M.ok, M.fresh, M.write, M.look, M.lift, putD, Arb.set, ev, Arb.get, keepFr, bin, intBin, strBin, mk, params, cellsM, load, obRead, fadr, fld, isl, iarr, xarr, idx, len, valid, slc, bound, store, splice, nilc, un, eqs, eq0, evalFeet, footOf, M.foot, orderOk, apartAll, apart1, clash, meets, callM, fcallM, callee, fz1, fzC, fz, flat, flat1, flat0, flatI, Option.bind_some, putAll, M.bind]; rfl) ?_
        refine Wp.ret ?_
        have heq : (diffTo x y 4).1 = 1 := by rw [← e1]; simp at h1; omega
        obtain ⟨i, hi, h2, -, -⟩ := (diffTo_one x y 4).2 heq
        rw [e2 heq, h2]
        rw [show besideD [x] [y] = (i : Int) by simp [besideD, sole, hr, heq, h2]]; rfl

theorem between_D (p q : Int × Int) : between p q = if decide (p.2 < p.1) || (decide (q.2 < q.1) || decide (q.1 ≤ p.2)) then (0, false) else (IntKind.wrap .u64 ((apartI p.2 q.1).tdiv 2), true) := by
  unfold between
  split
  · rfl
  · rename_i hc
    simp only [Bool.or_eq_true, decide_eq_true_eq, not_or] at hc
    have e : IntKind.wrap .u64 (IntKind.wrap .u64 q.1 - IntKind.wrap .u64 p.2) = apartI p.2 q.1 := by
      unfold apartI
      rw [if_neg (by omega)]
    rw [e]
theorem p_betweenD (h44 : prog 44 = some F44) (h : prog 112 = some F112) (p q : Int × Int) :
    Ans prog 112 [.agg [.iv (.int .i64 p.1), .iv (.int .i64 p.2)], .agg [.iv (.int .i64 q.1), .iv (.int .i64 q.2)]] (.tup [.iv (.int .u64 (between p q).1), .iv (.bool (between p q).2)]) := by
  rw [between_D]
  refine Ans.of h rfl rfl (Wp.seq ?_)
  refine Wp.rgn (K := 0) (fun n _ => by simp [evalRgn, Option.map_some, evalOps, step, wants, osem, M.run_bind, M.mapL, M.run, M.ok, M.fresh, M.write, M.look, M.lift, putD, Arb.set, ev, Arb.get, keepFr, bin, intBin, strBin, mk, params, cellsM, load, obRead, fadr, fld, isl, iarr, xarr, idx, len, valid, slc, bound, store, splice, nilc, un, eqs, eq0, evalFeet, footOf, M.foot, orderOk, apartAll, apart1, clash, meets, callM, fcallM, callee, fz1, fzC, fz, flat, flat1, flat0, flatI, Option.bind_some, putAll, M.bind]; rfl) ?_
  refine Wp.seq (Wp.seq ?_)
  refine Wp.rgn (K := 0) (s' := ⟨[(2, .ref 1000 0 0 0), (3, .ref 1064 0 0 0), (24, .iv (.bool (decide (p.2 < p.1) || (decide (q.2 < q.1) || decide (q.1 ≤ p.2)))))], [(1000, .cells [.iv (.int .i64 p.1), .iv (.int .i64 p.2)]), (1064, .cells [.iv (.int .i64 q.1), .iv (.int .i64 q.2)])], 2472⟩) (fun n _ => by
    cases h1 : decide (p.2 < p.1) with
    | true => simp [evalRgn, Option.map_some, evalOps, step, wants, osem, M.run_bind, M.mapL, M.run, M.ok, M.fresh, M.write, M.look, M.lift, putD, Arb.set, ev, Arb.get, keepFr, bin, intBin, strBin, mk, params, cellsM, load, obRead, fadr, fld, isl, iarr, xarr, idx, len, valid, slc, bound, store, splice, nilc, un, eqs, eq0, evalFeet, footOf, M.foot, orderOk, apartAll, apart1, clash, meets, callM, fcallM, callee, fz1, fzC, fz, flat, flat1, flat0, flatI, Option.bind_some, putAll, M.bind, h1]
    | false => cases h2 : decide (q.2 < q.1) <;> simp [evalRgn, Option.map_some, evalOps, step, wants, osem, M.run_bind, M.mapL, M.run, M.ok, M.fresh, M.write, M.look, M.lift, putD, Arb.set, ev, Arb.get, keepFr, bin, intBin, strBin, mk, params, cellsM, load, obRead, fadr, fld, isl, iarr, xarr, idx, len, valid, slc, bound, store, splice, nilc, un, eqs, eq0, evalFeet, footOf, M.foot, orderOk, apartAll, apart1, clash, meets, callM, fcallM, callee, fz1, fzC, fz, flat, flat1, flat0, flatI, Option.bind_some, putAll, M.bind, h1, h2]) ?_
  refine Wp.cond rfl ?_
  cases h3 : decide (p.2 < p.1) || (decide (q.2 < q.1) || decide (q.1 ≤ p.2)) with
  | true =>
    refine Wp.seq ?_
    refine Wp.rgn (K := 0) (fun n _ => by simp [evalRgn, Option.map_some, evalOps, step, wants, osem, M.run_bind, M.mapL, M.run, M.ok, M.fresh, M.write, M.look, M.lift, putD, Arb.set, ev, Arb.get, keepFr, bin, intBin, strBin, mk, params, cellsM, load, obRead, fadr, fld, isl, iarr, xarr, idx, len, valid, slc, bound, store, splice, nilc, un, eqs, eq0, evalFeet, footOf, M.foot, orderOk, apartAll, apart1, clash, meets, callM, fcallM, callee, fz1, fzC, fz, flat, flat1, flat0, flatI, Option.bind_some, putAll, M.bind]; rfl) ?_
    exact Wp.ret rfl
  | false =>
    obtain ⟨K, hK⟩ := p_apart h44 p.2 q.1
    refine Wp.skip (Wp.seq ?_)
    refine Wp.rgn (K := K) (fun n hn => by
      have e1 := hK n hn
      generalize evalF prog n = g at e1
      simp [evalRgn, Option.map_some, evalOps, step, wants, osem, M.run_bind, M.mapL, M.run, M.ok, M.fresh, M.write, M.look, M.lift, putD, Arb.set, ev, Arb.get, keepFr, bin, intBin, strBin, mk, params, cellsM, load, obRead, fadr, fld, isl, iarr, xarr, idx, len, valid, slc, bound, store, splice, nilc, un, eqs, eq0, evalFeet, footOf, M.foot, orderOk, apartAll, apart1, clash, meets, callM, fcallM, callee, fz1, fzC, fz, flat, flat1, flat0, flatI, Option.bind_some, putAll, M.bind, e1]
      rfl) ?_
    exact Wp.ret rfl
end
end Arb

/-
  THE DOCUMENT'S NORMAL FORM OF RANGES IS THE SAME.
-/
set_option linter.unusedSimpArgs false
namespace Arb
open Go

def skipB (o : List (Int × Int)) (r : Int × Int) : Bool := decide (r.2 < r.1) || (match o[o.length - 1]? with
  | some p => decide (r.2 ≤ p.2)
  | none => false)
def betterB (l : List (Int × Int)) (bi : Int) (r : Int × Int) : Bool := decide (bi < 0) || (match l[bi.toNat]? with
  | some b => decide (r.1 < b.1) || (r.1 == b.1 && decide (b.2 < r.2))
  | none => false)
def bestTo (l o : List (Int × Int)) : Nat → Int
  | 0 => -1
  | k + 1 => match l[k]? with
    | some r => if skipB o r then bestTo l o k else if betterB l (bestTo l o k) r then (k : Int) else bestTo l o k
    | none => bestTo l o k
/-- among those that are left, one that begins first -/
theorem bestTo_spec (l o : List (Int × Int)) : ∀ k, k ≤ l.length → (bestTo l o k = -1 ∧ ∀ j r, j < k → l[j]? = some r → skipB o r = true) ∨
    ∃ i b, i < k ∧ bestTo l o k = (i : Int) ∧ l[i]? = some b ∧ skipB o b = false ∧ ∀ j r, j < k → l[j]? = some r → skipB o r = false → b.1 ≤ r.1
  | 0, _ => .inl ⟨rfl, fun j _ h => absurd h (Nat.not_lt_zero _)⟩
  | k + 1, hk => by
    obtain ⟨r, hr⟩ : ∃ r, l[k]? = some r := ⟨_, List.getElem?_eq_getElem hk⟩
    have ih := bestTo_spec l o k (by omega)
    rw [bestTo, hr]
    simp only
    cases hs : skipB o r with
    | true =>
      rw [if_pos rfl]
      rcases ih with ⟨h1, h2⟩ | ⟨i, b, h1, h2, h3, h4, h5⟩
      · refine .inl ⟨h1, fun j q hj hq => ?_⟩
        by_cases hjk : j = k
        · subst hjk; rw [hr] at hq; cases hq; exact hs
        · exact h2 j q (by omega) hq
      · refine .inr ⟨i, b, by omega, h2, h3, h4, fun j q hj hq hqs => ?_⟩
        by_cases hjk : j = k
        · subst hjk; rw [hr] at hq; cases hq; rw [hs] at hqs; cases hqs
        · exact h5 j q (by omega) hq hqs
    | false =>
      rw [if_neg Bool.false_ne_true]
      rcases ih with ⟨h1, h2⟩ | ⟨i, b, h1, h2, h3, h4, h5⟩
      · rw [h1, if_pos (by simp [betterB])]
        refine .inr ⟨k, r, by omega, rfl, hr, hs, fun j q hj hq hqs => ?_⟩
        by_cases hjk : j = k
        · subst hjk; rw [hr] at hq; cases hq; exact Int.le_refl _
        · have := h2 j q (by omega) hq; rw [hqs] at this; cases this
      · rw [h2]
        have hbt : betterB l (i : Int) r = (decide (r.1 < b.1) || (r.1 == b.1 && decide (b.2 < r.2))) := by
          unfold betterB
          rw [decide_eq_false (by omega), Bool.false_or, Int.toNat_natCast, h3]
        rw [hbt]
        cases hb : decide (r.1 < b.1) || (r.1 == b.1 && decide (b.2 < r.2)) with
        | true =>
          rw [if_pos rfl]
          have hle : r.1 ≤ b.1 := by simp at hb; omega
          refine .inr ⟨k, r, by omega, rfl, hr, hs, fun j q hj hq hqs => ?_⟩
          by_cases hjk : j = k
          · subst hjk; rw [hr] at hq; cases hq; exact Int.le_refl _
          · have := h5 j q (by omega) hq hqs; omega
        | false =>
          rw [if_neg Bool.false_ne_true]
          have hle : b.1 ≤ r.1 := by simp at hb; omega
          refine .inr ⟨i, b, by omega, rfl, h3, h4, fun j q hj hq hqs => ?_⟩
          by_cases hjk : j = k
          · subst hjk; rw [hr] at hq; cases hq; exact hle
          · exact h5 j q (by omega) hq hqs

def touchB (o : List (Int × Int)) (r : Int × Int) : Bool := match o[o.length - 1]? with
  | some p => decide (r.1 ≤ IntKind.wrap .i64 (p.2 + 1))
  | none => false
def nextR (o : List (Int × Int)) (r : Int × Int) : List (Int × Int) :=
  if touchB o r then (match o[o.length - 1]? with
    | some p => o.set (o.length - 1) (p.1, r.2)
    | none => o) else o ++ [r]

def above (o : List (Int × Int)) (n : Int) : Prop := ∀ p, o[o.length - 1]? = some p → p.2 < n
theorem last_snoc (o : List (Int × Int)) (p : Int × Int) : (o ++ [p])[(o ++ [p]).length - 1]? = some p := by
  rw [List.length_append, List.length_singleton, Nat.add_sub_cancel, List.getElem?_append_right (Nat.le_refl _), Nat.sub_self]; rfl
theorem skipB_false {o : List (Int × Int)} {r : Int × Int} (h : skipB o r = false) : r.1 ≤ r.2 ∧ above o r.2 := by
  unfold skipB at h
  rw [Bool.or_eq_false_iff, decide_eq_false_iff_not] at h
  refine ⟨by omega, fun p hp => ?_⟩
  rw [hp] at h
  have := of_decide_eq_false h.2
  omega
theorem skipB_true {o : List (Int × Int)} {r : Int × Int} (h : skipB o r = true) : r.2 < r.1 ∨ ∃ p, o[o.length - 1]? = some p ∧ r.2 ≤ p.2 := by
  unfold skipB at h
  rw [Bool.or_eq_true, decide_eq_true_eq] at h
  rcases h with h | h
  · exact .inl h
  · split at h
    · rename_i p hp; exact .inr ⟨p, hp, of_decide_eq_true h⟩
    · cases h
structure Part (l o : List (Int × Int)) : Prop where
  nm : normal o
  r : in64s o
  sub : ∀ n, inR o n → inR l n
  all : ∀ n p, o[o.length - 1]? = some p → n ≤ p.2 → inR l n → inR o n
theorem part_nil (l : List (Int × Int)) : Part l [] := ⟨⟨fun p hp => (by cases hp), List.Pairwise.nil⟩, fun p hp => (by cases hp), fun n h => (inR_nil h).elim, fun n p hp => by simp at hp⟩
theorem part_next {l o : List (Int × Int)} (hl : in64s l) (P : Part l o) {b : Int × Int} (hb : b ∈ l) (hs : skipB o b = false) (hmin : ∀ r ∈ l, skipB o r = false → b.1 ≤ r.1) :
    Part l (nextR o b) ∧ (∀ p, (nextR o b)[(nextR o b).length - 1]? = some p → p.2 = b.2) ∧ nextR o b ≠ [] := by
  obtain ⟨hb1, hb2⟩ := skipB_false hs
  have hb64 := hl b hb
  unfold in64 at hb64
  have key : ∀ n, inR l n → above o n → b.1 ≤ n := by
    rintro n ⟨r, hr, h1, h2⟩ habove
    have : skipB o r = false := by
      unfold skipB
      rw [Bool.or_eq_false_iff, decide_eq_false_iff_not]
      refine ⟨by omega, ?_⟩
      split
      · rename_i p hp
        have := habove p hp
        exact decide_eq_false (by omega)
      · rfl
    have := hmin r hr this
    omega
  rcases List.eq_nil_or_concat o with rfl | ⟨o', p, rfl⟩
  · have e : nextR [] b = [b] := by simp [nextR, touchB]
    rw [e]
    refine ⟨⟨⟨fun q hq => ?_, by simp⟩, fun q hq => ?_, fun n hn => ?_, fun n q hq hn hin => ?_⟩, fun q hq => ?_, by simp⟩
    · simp at hq; subst hq; exact hb1
    · simp at hq; subst hq; exact hl _ hb
    · obtain ⟨q, hq, h1⟩ := hn; simp at hq; subst hq; exact ⟨q, hb, h1⟩
    · simp at hq; subst hq
      exact ⟨b, by simp, key n hin (fun p hp => by simp at hp), hn⟩
    · simp at hq; rw [hq]
  · rw [List.concat_eq_append] at *
    have hlast := last_snoc o' p
    have hpl := hb2 p hlast
    have hp := P.nm.1 p (by simp)
    have hp64 := P.r p (by simp)
    have hpw := List.pairwise_append.1 P.nm.2
    unfold in64 at hp64
    have ht : touchB (o' ++ [p]) b = decide (b.1 ≤ p.2 + 1) := by
      unfold touchB
      rw [hlast]
      simp only
      rw [IntWalk.i64_in _ (by omega)]
    unfold nextR
    rw [ht, hlast]
    simp only
    have hset : (o' ++ [p]).set ((o' ++ [p]).length - 1) (p.1, b.2) = o' ++ [(p.1, b.2)] := by
      rw [List.length_append, List.length_singleton, Nat.add_sub_cancel, List.set_append_right _ _ (Nat.le_refl _)]; simp
    rw [hset]
    have hup : ∀ n, inR l n → n ≤ p.2 → inR (o' ++ [p]) n := fun n h1 h2 => P.all n p hlast h2 h1
    cases hd : decide (b.1 ≤ p.2 + 1) with
    | true =>
      have hd := of_decide_eq_true hd
      rw [if_pos rfl]
      refine ⟨⟨⟨fun q hq => ?_, ?_⟩, fun q hq => ?_, fun n hn => ?_, fun n q hq hn hin => ?_⟩, fun q hq => ?_, by simp⟩
      · rcases List.mem_append.1 hq with hq | hq
        · exact P.nm.1 q (by simp [hq])
        · simp at hq; subst hq; simp only; omega
      · refine List.pairwise_append.2 ⟨hpw.1, by simp, fun a ha c hc => ?_⟩
        simp at hc; subst hc
        exact hpw.2.2 a ha p (by simp)
      · rcases List.mem_append.1 hq with hq | hq
        · exact P.r q (by simp [hq])
        · simp at hq; subst hq; unfold in64; simp only; omega
      · rcases inR_append.1 hn with hn | hn
        · exact P.sub n (inR_append.2 (.inl hn))
        · obtain ⟨q, hq, h1, h2⟩ := hn
          simp at hq; subst hq
          simp only at h1 h2
          by_cases hnp : n ≤ p.2
          · exact P.sub n (inR_append.2 (.inr ⟨p, by simp, h1, hnp⟩))
          · exact ⟨b, hb, by omega, h2⟩
      · rw [last_snoc] at hq
        cases hq
        simp only at hn
        by_cases hnp : n ≤ p.2
        · rcases inR_append.1 (hup n hin hnp) with h | ⟨q, hq, h1, h2⟩
          · exact inR_append.2 (.inl h)
          · simp at hq; subst hq
            exact inR_append.2 (.inr ⟨(q.1, b.2), by simp, h1, by simp only; omega⟩)
        · exact inR_append.2 (.inr ⟨(p.1, b.2), by simp, by simp only; omega, by simp only; omega⟩)
      · rw [last_snoc] at hq; cases hq; rfl
    | false =>
      have hd := of_decide_eq_false hd
      rw [if_neg Bool.false_ne_true]
      refine ⟨⟨⟨fun q hq => ?_, ?_⟩, fun q hq => ?_, fun n hn => ?_, fun n q hq hn hin => ?_⟩, fun q hq => ?_, by simp⟩
      · rcases List.mem_append.1 hq with hq | hq
        · exact P.nm.1 q hq
        · simp at hq; subst hq; exact hb1
      · refine List.pairwise_append.2 ⟨P.nm.2, by simp, fun a ha c hc => ?_⟩
        simp at hc; subst hc
        rcases List.mem_append.1 ha with ha | ha
        · have := hpw.2.2 a ha p (by simp); omega
        · simp at ha; subst ha; omega
      · rcases List.mem_append.1 hq with hq | hq
        · exact P.r q hq
        · simp at hq; subst hq; exact hl _ hb
      · rcases inR_append.1 hn with hn | hn
        · exact P.sub n hn
        · obtain ⟨q, hq, h1⟩ := hn; simp at hq; subst hq; exact ⟨q, hb, h1⟩
      · rw [last_snoc] at hq
        cases hq
        by_cases hnp : n ≤ p.2
        · exact inR_append.2 (.inl (hup n hin hnp))
        · have := key n hin (fun q hq => by rw [hlast] at hq; cases hq; omega)
          exact inR_append.2 (.inr ⟨b, by simp, this, hn⟩)
      · rw [last_snoc] at hq; cases hq; rfl
theorem part_done {l o : List (Int × Int)} (hl : in64s l) (P : Part l o) (h : ∀ r ∈ l, skipB o r = true) : o = normR l := by
  obtain ⟨n1, -, n3⟩ := normR_all hl
  refine normal_one P.nm n1 fun n => ?_
  rw [n3]
  refine ⟨P.sub n, fun hn => ?_⟩
  obtain ⟨r, hr, h1, h2⟩ := hn
  rcases skipB_true (h r hr) with h3 | ⟨p, hp, h3⟩
  · omega
  · exact P.all n p hp (by omega) ⟨r, hr, h1, h2⟩
/-- how many are left -/
def leftN (l o : List (Int × Int)) : Nat := (l.filter fun r => !skipB o r).length
theorem leftN_lt {l o o' : List (Int × Int)} {b : Int × Int} (hb : b ∈ l) (hs : skipB o b = false) (hs' : skipB o' b = true) (h : ∀ r, skipB o r = true → skipB o' r = true) : leftN l o' < leftN l o := by
  unfold leftN
  induction l with
  | nil => cases hb
  | cons x l ih =>
    have hle : (l.filter fun r => !skipB o' r).length ≤ (l.filter fun r => !skipB o r).length := by
      clear ih hb
      induction l with
      | nil => exact Nat.le_refl _
      | cons y l ih2 =>
        simp only [List.filter_cons]
        cases h1 : skipB o y with
        | true => simp [h y h1]; exact ih2
        | false => cases skipB o' y <;> simp <;> omega
    simp only [List.filter_cons]
    rcases List.mem_cons.1 hb with rfl | hb
    · simp [hs, hs']; omega
    · have := ih hb
      cases h1 : skipB o x with
      | true => simp [h x h1]; exact this
      | false => cases skipB o' x <;> simp <;> omega
end Arb

/-
  THE DOCUMENT'S NORMAL FORM OF RANGES: THE WALK.
-/
set_option linter.unusedSimpArgs false
namespace Arb
open Go

theorem skip_next {l o : List (Int × Int)} (hl : in64s l) (P : Part l o) {b : Int × Int} (hb : b ∈ l) (hs : skipB o b = false) (hmin : ∀ r ∈ l, skipB o r = false → b.1 ≤ r.1) :
    leftN l (nextR o b) < leftN l o := by
  obtain ⟨-, h2, h3⟩ := part_next hl P hb hs hmin
  obtain ⟨p, hp⟩ : ∃ p, (nextR o b)[(nextR o b).length - 1]? = some p := ⟨_, List.getElem?_eq_getElem (by have := List.length_pos_iff.2 h3; omega)⟩
  have hp2 := h2 p hp
  have hsk : ∀ r : Int × Int, r.2 ≤ b.2 → skipB (nextR o b) r = true := by
    intro r hr
    unfold skipB
    rw [hp]
    simp only [Bool.or_eq_true, decide_eq_true_eq]
    right; omega
  refine leftN_lt hb hs (hsk b (Int.le_refl _)) fun r hr => ?_
  rcases skipB_true hr with h | ⟨q, hq, h⟩
  · unfold skipB; rw [decide_eq_true h, Bool.true_or]
  · have := (skipB_false hs).2 q hq
    exact hsk r (by omega)

section
variable {prog : Nat → Option IFn}

set_option maxHeartbeats 8000000 in
theorem p_rangesD (h : prog 107 = some F107) (l : List (Int × Int)) (hl : l.length ≤ 1000) (h64 : in64s l) : Ans prog 107 [.iv (.sl 2 (l.map rng))] (.iv (.sl 2 ((normR l).map rng))) := by
  have hlm : l.length ≤ maxLen := by unfold maxLen; omega
  refine Ans.of h rfl rfl (Wp.seq ?_)
  refine Wp.rgn (K := 0) (fun n _ => by simp [evalRgn, Option.map_some, evalOps, step, wants, osem, M.run_bind, M.mapL, M.run, M.ok, M.fresh, M.write, M.look, M.lift, putD, Arb.set, ev, Arb.get, keepFr, bin, intBin, strBin, mk, params, cellsM, load, obRead, fadr, fld, isl, iarr, xarr, idx, len, valid, slc, bound, store, splice, nilc, un, eqs, eq0, evalFeet, footOf, M.foot, orderOk, apartAll, apart1, clash, meets, callM, fcallM, callee, fz1, fzC, fz, flat, flat1, flat0, flatI, Option.bind_some, putAll, M.bind]; rfl) ?_
  refine Wp.seq ?_
  refine Wp.rgn (K := 0) (fun n _ => by simp [evalRgn, Option.map_some, evalOps, step, wants, osem, M.run_bind, M.mapL, M.run, M.ok, M.fresh, M.write, M.look, M.lift, putD, Arb.set, ev, Arb.get, keepFr, bin, intBin, strBin, mk, params, cellsM, load, obRead, fadr, fld, isl, iarr, xarr, idx, len, valid, slc, bound, store, splice, nilc, un, eqs, eq0, evalFeet, footOf, M.foot, orderOk, apartAll, apart1, clash, meets, callM, fcallM, callee, fz1, fzC, fz, flat, flat1, flat0, flatI, Option.bind_some, putAll, M.bind]; rfl) ?_
  refine Wp.block ?_
  refine Wp.loop (fun m s1 => ∃ o, Part l o ∧ leftN l o = m ∧ o.length + m ≤ l.length ∧ s1 = ⟨[(0, .iv (.sl 2 (l.map rng))), (3, .own 1064 0 o.length 0)], [(1000, .buf 0 2 []), (1064, .buf 0 2 (o.map rng))], 1128⟩) (m := leftN l []) ⟨[], part_nil l, rfl, by have := List.length_filter_le (fun r => !skipB [] r) l; simpa [leftN] using this, rfl⟩ ?_
  rintro m s1 ⟨o, P, hm, hol, rfl⟩
  have hlast : o.length ≠ 0 → ∃ p, o[o.length - 1]? = some p := fun h0 => ⟨_, List.getElem?_eq_getElem (by omega)⟩
  refine Wp.block (Wp.seq ?_)
  refine Wp.rgn (K := 0) (fun n _ => by simp [evalRgn, Option.map_some, evalOps, step, wants, osem, M.run_bind, M.mapL, M.run, M.ok, M.fresh, M.write, M.look, M.lift, putD, Arb.set, ev, Arb.get, keepFr, bin, intBin, strBin, mk, params, cellsM, load, obRead, fadr, fld, isl, iarr, xarr, idx, len, valid, slc, bound, store, splice, nilc, un, eqs, eq0, evalFeet, footOf, M.foot, orderOk, apartAll, apart1, clash, meets, callM, fcallM, callee, fz1, fzC, fz, flat, flat1, flat0, flatI, Option.bind_some, putAll, M.bind]; rfl) ?_
  refine Wp.seq (Wp.seq ?_)
  refine Wp.rgn (K := 0) (fun n _ => by simp [evalRgn, Option.map_some, evalOps, step, wants, osem, M.run_bind, M.mapL, M.run, M.ok, M.fresh, M.write, M.look, M.lift, putD, Arb.set, ev, Arb.get, keepFr, bin, intBin, strBin, mk, params, cellsM, load, obRead, fadr, fld, isl, iarr, xarr, idx, len, valid, slc, bound, store, splice, nilc, un, eqs, eq0, evalFeet, footOf, M.foot, orderOk, apartAll, apart1, clash, meets, callM, fcallM, callee, fz1, fzC, fz, flat, flat1, flat0, flatI, Option.bind_some, putAll, M.bind]; rfl) ?_
  refine Wp.block ?_
  refine Wp.range l.length (fun k => ⟨[(0, .iv (.sl 2 (l.map rng))), (3, .own 1064 0 o.length 0), (4, .iv (.int .i64 (bestTo l o k))), (5, .iv (.int .i64 k))], [(1000, .buf 0 2 []), (1064, .buf 0 2 (o.map rng))], 1256⟩) (fun _ => True) (by simp [keepFr, get, bestTo]) trivial ?_ ?_
  · intro k hk _
    obtain ⟨r, hr⟩ : ∃ r, l[k]? = some r := ⟨_, List.getElem?_eq_getElem hk⟩
    have hspec := bestTo_spec l o k (by omega)
    have hnext : bestTo l o (k + 1) = if skipB o r then bestTo l o k else if betterB l (bestTo l o k) r then (k : Int) else bestTo l o k := by rw [bestTo, hr]
    rw [hnext]
    generalize bestTo l o k = bi at hspec
    refine Wp.seq (Wp.seq ?_)
    refine Wp.rgn (K := 0) (fun n _ => by simp [evalRgn, Option.map_some, evalOps, step, wants, osem, M.run_bind, M.mapL, M.run, M.ok, M.fresh, M.write, M.look, M.lift, putD, Arb.set, ev, Arb.get, keepFr, bin, intBin, strBin, mk, params, cellsM, load, obRead, fadr, fld, isl, iarr, xarr, idx, len, valid, slc, bound, store, splice, nilc, un, eqs, eq0, evalFeet, footOf, M.foot, orderOk, apartAll, apart1, clash, meets, callM, fcallM, callee, fz1, fzC, fz, flat, flat1, flat0, flatI, Option.bind_some, putAll, M.bind, hk]; rfl) ?_
    refine Wp.cond rfl (Wp.skip (Wp.seq (Wp.block (Wp.seq ?_))))
    refine Wp.rgn (K := 0) (s' := ⟨[(0, .iv (.sl 2 (l.map rng))), (3, .own 1064 0 o.length 0), (4, .iv (.int .i64 bi)), (5, .iv (.int .i64 k)), (6, .ref 1768 0 0 0)], [(1000, .buf 0 2 []), (1064, .buf 0 2 (o.map rng)), (1768, .cells [.iv (.int .i64 r.1), .iv (.int .i64 r.2)])], 1896⟩) (fun n _ => by simp [evalRgn, Option.map_some, evalOps, step, wants, osem, M.run_bind, M.mapL, M.run, M.ok, M.fresh, M.write, M.look, M.lift, putD, Arb.set, ev, Arb.get, keepFr, bin, intBin, strBin, mk, params, cellsM, load, obRead, fadr, fld, isl, iarr, xarr, idx, len, valid, slc, bound, store, splice, nilc, un, eqs, eq0, evalFeet, footOf, M.foot, orderOk, apartAll, apart1, clash, meets, callM, fcallM, callee, fz1, fzC, fz, flat, flat1, flat0, flatI, Option.bind_some, putAll, M.bind, hr, rng]) ?_
    refine Wp.seq (Wp.seq ?_)
    refine Wp.rgn (K := 0) (s' := ⟨[(0, .iv (.sl 2 (l.map rng))), (3, .own 1064 0 o.length 0), (4, .iv (.int .i64 bi)), (5, .iv (.int .i64 k)), (6, .ref 1768 0 0 0), (39, .iv (.bool (skipB o r)))], [(1000, .buf 0 2 []), (1064, .buf 0 2 (o.map rng)), (1768, .cells [.iv (.int .i64 r.1), .iv (.int .i64 r.2)])], 3304⟩) (fun n _ => rgn_quiet' rfl (by
      cases h1 : decide (r.2 < r.1) with
      | true => simp [evalRgn, Option.map_some, evalOps, step, wants, osem, M.run_bind, M.mapL, M.run, M.ok, M.fresh, M.write, M.look, M.lift, putD, Arb.set, ev, Arb.get, keepFr, bin, intBin, strBin, mk, params, cellsM, load, obRead, fadr, fld, isl, iarr, xarr, idx, len, valid, slc, bound, store, splice, nilc, un, eqs, eq0, evalFeet, footOf, M.foot, orderOk, apartAll, apart1, clash, meets, callM, fcallM, callee, fz1, fzC, fz, flat, flat1, flat0, flatI, Option.bind_some, putAll, M.bind, skipB, h1]
      | false =>
        by_cases h0 : o.length = 0
        · obtain rfl : o = [] := List.eq_nil_of_length_eq_zero h0
          simp [evalRgn, Option.map_some, evalOps, step, wants, osem, M.run_bind, M.mapL, M.run, M.ok, M.fresh, M.write, M.look, M.lift, putD, Arb.set, ev, Arb.get, keepFr, bin, intBin, strBin, mk, params, cellsM, load, obRead, fadr, fld, isl, iarr, xarr, idx, len, valid, slc, bound, store, splice, nilc, un, eqs, eq0, evalFeet, footOf, M.foot, orderOk, apartAll, apart1, clash, meets, callM, fcallM, callee, fz1, fzC, fz, flat, flat1, flat0, flatI, Option.bind_some, putAll, M.bind, skipB, h1]
        · have hm1 : (0 : Int) < o.length := by omega
          have hm2 : IntKind.wrap .i64 ((o.length : Int) - 1) = ((o.length - 1 : Nat) : Int) := by rw [IntWalk.i64_in _ (by omega)]; omega
          have hm3 : ((o.length - 1 : Nat) : Int) < o.length := by omega
          have hm4 : 0 < o.length := by omega
          obtain ⟨p, hp⟩ := hlast h0
          have hp' : o[o.length - 1]'(by omega) = p := (List.getElem?_eq_some_iff.1 hp).2
          simp [evalRgn, Option.map_some, evalOps, step, wants, osem, M.run_bind, M.mapL, M.run, M.ok, M.fresh, M.write, M.look, M.lift, putD, Arb.set, ev, Arb.get, keepFr, bin, intBin, strBin, mk, params, cellsM, load, obRead, fadr, fld, isl, iarr, xarr, idx, len, valid, slc, bound, store, splice, nilc, un, eqs, eq0, evalFeet, footOf, M.foot, orderOk, apartAll, apart1, clash, meets, callM, fcallM, callee, fz1, fzC, fz, flat, flat1, flat0, flatI, Option.bind_some, putAll, M.bind, skipB, h1, hm1, hm2, hm3, hm4, hp, hp', rng])) ?_
    refine Wp.cond rfl ?_
    cases hsk : skipB o r with
    | true =>
      refine Wp.exit ?_
      simp only [Ex.then, Ex.inBlock, if_true]
      refine Wp.rgn (K := 0) (fun n _ => by simp [evalRgn, Option.map_some, evalOps, step, wants, osem, M.run_bind, M.mapL, M.run, M.ok, M.fresh, M.write, M.look, M.lift, putD, Arb.set, ev, Arb.get, keepFr, bin, intBin, strBin, mk, params, cellsM, load, obRead, fadr, fld, isl, iarr, xarr, idx, len, valid, slc, bound, store, splice, nilc, un, eqs, eq0, evalFeet, footOf, M.foot, orderOk, apartAll, apart1, clash, meets, callM, fcallM, callee, fz1, fzC, fz, flat, flat1, flat0, flatI, Option.bind_some, putAll, M.bind]; rfl) ?_
      exact ⟨by simp [again, keepFr, get, nrm, nrmO, wrap_succ hk hlm], trivial⟩
    | false =>
      refine Wp.skip (Wp.seq ?_)
      refine Wp.rgn (K := 0) (s' := ⟨[(0, .iv (.sl 2 (l.map rng))), (3, .own 1064 0 o.length 0), (4, .iv (.int .i64 bi)), (5, .iv (.int .i64 k)), (71, .iv (.bool (betterB l bi r)))], [(1000, .buf 0 2 []), (1064, .buf 0 2 (o.map rng)), (1768, .cells [.iv (.int .i64 r.1), .iv (.int .i64 r.2)])], 5352⟩) (fun n _ => rgn_quiet' rfl (by
        rcases hspec with ⟨rfl, -⟩ | ⟨i, b, -, rfl, hb, -, -⟩
        · simp [evalRgn, Option.map_some, evalOps, step, wants, osem, M.run_bind, M.mapL, M.run, M.ok, M.fresh, M.write, M.look, M.lift, putD, Arb.set, ev, Arb.get, keepFr, bin, intBin, strBin, mk, params, cellsM, load, obRead, fadr, fld, isl, iarr, xarr, idx, len, valid, slc, bound, store, splice, nilc, un, eqs, eq0, evalFeet, footOf, M.foot, orderOk, apartAll, apart1, clash, meets, callM, fcallM, callee, fz1, fzC, fz, flat, flat1, flat0, flatI, Option.bind_some, putAll, M.bind, betterB]
        · have hi0 : ¬ (i : Int) < 0 := by omega
          cases h1 : decide (r.1 < b.1) with
          | true => simp [evalRgn, Option.map_some, evalOps, step, wants, osem, M.run_bind, M.mapL, M.run, M.ok, M.fresh, M.write, M.look, M.lift, putD, Arb.set, ev, Arb.get, keepFr, bin, intBin, strBin, mk, params, cellsM, load, obRead, fadr, fld, isl, iarr, xarr, idx, len, valid, slc, bound, store, splice, nilc, un, eqs, eq0, evalFeet, footOf, M.foot, orderOk, apartAll, apart1, clash, meets, callM, fcallM, callee, fz1, fzC, fz, flat, flat1, flat0, flatI, Option.bind_some, putAll, M.bind, betterB, hi0, hb, rng, h1]
          | false => cases h2 : r.1 == b.1 <;> simp [evalRgn, Option.map_some, evalOps, step, wants, osem, M.run_bind, M.mapL, M.run, M.ok, M.fresh, M.write, M.look, M.lift, putD, Arb.set, ev, Arb.get, keepFr, bin, intBin, strBin, mk, params, cellsM, load, obRead, fadr, fld, isl, iarr, xarr, idx, len, valid, slc, bound, store, splice, nilc, un, eqs, eq0, evalFeet, footOf, M.foot, orderOk, apartAll, apart1, clash, meets, callM, fcallM, callee, fz1, fzC, fz, flat, flat1, flat0, flatI, Option.bind_some, putAll, M.bind, betterB, hi0, hb, rng, h1, h2])) ?_
      refine Wp.cond rfl ?_
      cases hbt : betterB l bi r with
      | true =>
        refine Wp.rgn (K := 0) (fun n _ => by simp [evalRgn, Option.map_some, evalOps, step, wants, osem, M.run_bind, M.mapL, M.run, M.ok, M.fresh, M.write, M.look, M.lift, putD, Arb.set, ev, Arb.get, keepFr, bin, intBin, strBin, mk, params, cellsM, load, obRead, fadr, fld, isl, iarr, xarr, idx, len, valid, slc, bound, store, splice, nilc, un, eqs, eq0, evalFeet, footOf, M.foot, orderOk, apartAll, apart1, clash, meets, callM, fcallM, callee, fz1, fzC, fz, flat, flat1, flat0, flatI, Option.bind_some, putAll, M.bind]; rfl) ?_
        simp only [Ex.then, Ex.inBlock]
        refine Wp.rgn (K := 0) (fun n _ => by simp [evalRgn, Option.map_some, evalOps, step, wants, osem, M.run_bind, M.mapL, M.run, M.ok, M.fresh, M.write, M.look, M.lift, putD, Arb.set, ev, Arb.get, keepFr, bin, intBin, strBin, mk, params, cellsM, load, obRead, fadr, fld, isl, iarr, xarr, idx, len, valid, slc, bound, store, splice, nilc, un, eqs, eq0, evalFeet, footOf, M.foot, orderOk, apartAll, apart1, clash, meets, callM, fcallM, callee, fz1, fzC, fz, flat, flat1, flat0, flatI, Option.bind_some, putAll, M.bind]; rfl) ?_
        exact ⟨by simp [again, keepFr, get, nrm, nrmO, wrap_succ hk hlm], trivial⟩
      | false =>
        refine Wp.skip ?_
        simp only [Ex.then, Ex.inBlock]
        refine Wp.rgn (K := 0) (fun n _ => by simp [evalRgn, Option.map_some, evalOps, step, wants, osem, M.run_bind, M.mapL, M.run, M.ok, M.fresh, M.write, M.look, M.lift, putD, Arb.set, ev, Arb.get, keepFr, bin, intBin, strBin, mk, params, cellsM, load, obRead, fadr, fld, isl, iarr, xarr, idx, len, valid, slc, bound, store, splice, nilc, un, eqs, eq0, evalFeet, footOf, M.foot, orderOk, apartAll, apart1, clash, meets, callM, fcallM, callee, fz1, fzC, fz, flat, flat1, flat0, flatI, Option.bind_some, putAll, M.bind]; rfl) ?_
        exact ⟨by simp [again, keepFr, get, nrm, nrmO, wrap_succ hk hlm], trivial⟩
  · intro _
    refine Wp.seq (Wp.seq ?_)
    refine Wp.rgn (K := 0) (fun n _ => by simp [evalRgn, Option.map_some, evalOps, step, wants, osem, M.run_bind, M.mapL, M.run, M.ok, M.fresh, M.write, M.look, M.lift, putD, Arb.set, ev, Arb.get, keepFr, bin, intBin, strBin, mk, params, cellsM, load, obRead, fadr, fld, isl, iarr, xarr, idx, len, valid, slc, bound, store, splice, nilc, un, eqs, eq0, evalFeet, footOf, M.foot, orderOk, apartAll, apart1, clash, meets, callM, fcallM, callee, fz1, fzC, fz, flat, flat1, flat0, flatI, Option.bind_some, putAll, M.bind]; rfl) ?_
    refine Wp.cond rfl (Wp.exit ?_)
    simp only [Ex.then, Ex.inBlock, if_true]
    refine Wp.seq (Wp.seq ?_)
    refine Wp.rgn (K := 0) (fun n _ => by simp [evalRgn, Option.map_some, evalOps, step, wants, osem, M.run_bind, M.mapL, M.run, M.ok, M.fresh, M.write, M.look, M.lift, putD, Arb.set, ev, Arb.get, keepFr, bin, intBin, strBin, mk, params, cellsM, load, obRead, fadr, fld, isl, iarr, xarr, idx, len, valid, slc, bound, store, splice, nilc, un, eqs, eq0, evalFeet, footOf, M.foot, orderOk, apartAll, apart1, clash, meets, callM, fcallM, callee, fz1, fzC, fz, flat, flat1, flat0, flatI, Option.bind_some, putAll, M.bind]; rfl) ?_
    refine Wp.cond rfl ?_
    have hspec := bestTo_spec l o l.length (Nat.le_refl _)
    generalize bestTo l o l.length = bi at hspec
    rcases hspec with ⟨rfl, hall⟩ | ⟨i, b, hi, rfl, hb, hs, hmin⟩
    · have hdone : o = normR l := part_done h64 P fun r hr => by
        obtain ⟨j, hj, he⟩ := List.getElem_of_mem hr
        exact hall j r hj (by rw [List.getElem?_eq_getElem hj, he])
      refine Wp.seq ?_
      refine Wp.rgn (K := 0) (fun n _ => by simp [evalRgn, Option.map_some, evalOps, step, wants, osem, M.run_bind, M.mapL, M.run, M.ok, M.fresh, M.write, M.look, M.lift, putD, Arb.set, ev, Arb.get, keepFr, bin, intBin, strBin, mk, params, cellsM, load, obRead, fadr, fld, isl, iarr, xarr, idx, len, valid, slc, bound, store, splice, nilc, un, eqs, eq0, evalFeet, footOf, M.foot, orderOk, apartAll, apart1, clash, meets, callM, fcallM, callee, fz1, fzC, fz, flat, flat1, flat0, flatI, Option.bind_some, putAll, M.bind]; rfl) ?_
      refine Wp.ret ?_
      rw [← hdone]
      show FinS F107.res (.iv (.sl 2 (o.map rng))) .ret _
      simp [FinS, F107, resAll, resM, outA, ev, get, M.look, M.bind, M.run, M.run_bind, M.ok, shut, fzA, fz1, fzC, fz, M.write, M.lift, take_map_len]
    · have hi0 : decide ((i : Int) < 0) = false := decide_eq_false (by omega)
      have hbm : b ∈ l := List.mem_of_getElem? hb
      have hmin' : ∀ r ∈ l, skipB o r = false → b.1 ≤ r.1 := fun r hr hrs => by
        obtain ⟨j, hj, he⟩ := List.getElem_of_mem hr
        exact hmin j r hj (by rw [List.getElem?_eq_getElem hj, he]) hrs
      obtain ⟨P', hP2, hP3⟩ := part_next h64 P hbm hs hmin'
      have hlt := skip_next h64 P hbm hs hmin'
      rw [hi0]
      refine Wp.skip (Wp.seq ?_)
      refine Wp.rgn (K := 0) (s' := ⟨[(0, .iv (.sl 2 (l.map rng))), (3, .own 1064 0 o.length 0), (7, .ref 1896 0 0 0)], [(1000, .buf 0 2 []), (1064, .buf 0 2 (o.map rng)), (1896, .cells [.iv (.int .i64 b.1), .iv (.int .i64 b.2)])], 2024⟩) (fun n _ => by simp [evalRgn, Option.map_some, evalOps, step, wants, osem, M.run_bind, M.mapL, M.run, M.ok, M.fresh, M.write, M.look, M.lift, putD, Arb.set, ev, Arb.get, keepFr, bin, intBin, strBin, mk, params, cellsM, load, obRead, fadr, fld, isl, iarr, xarr, idx, len, valid, slc, bound, store, splice, nilc, un, eqs, eq0, evalFeet, footOf, M.foot, orderOk, apartAll, apart1, clash, meets, callM, fcallM, callee, fz1, fzC, fz, flat, flat1, flat0, flatI, Option.bind_some, putAll, M.bind, hb, rng]) ?_
      refine Wp.seq ?_
      refine Wp.rgn (K := 0) (s' := ⟨[(0, .iv (.sl 2 (l.map rng))), (3, .own 1064 0 o.length 0), (7, .ref 1896 0 0 0), (95, .iv (.bool (touchB o b)))], [(1000, .buf 0 2 []), (1064, .buf 0 2 (o.map rng)), (1896, .cells [.iv (.int .i64 b.1), .iv (.int .i64 b.2)])], 3048⟩) (fun n _ => rgn_quiet' rfl (by
        by_cases h0 : o.length = 0
        · obtain rfl : o = [] := List.eq_nil_of_length_eq_zero h0
          simp [evalRgn, Option.map_some, evalOps, step, wants, osem, M.run_bind, M.mapL, M.run, M.ok, M.fresh, M.write, M.look, M.lift, putD, Arb.set, ev, Arb.get, keepFr, bin, intBin, strBin, mk, params, cellsM, load, obRead, fadr, fld, isl, iarr, xarr, idx, len, valid, slc, bound, store, splice, nilc, un, eqs, eq0, evalFeet, footOf, M.foot, orderOk, apartAll, apart1, clash, meets, callM, fcallM, callee, fz1, fzC, fz, flat, flat1, flat0, flatI, Option.bind_some, putAll, M.bind, touchB]
        · have hm1 : (0 : Int) < o.length := by omega
          have hm2 : IntKind.wrap .i64 ((o.length : Int) - 1) = ((o.length - 1 : Nat) : Int) := by rw [IntWalk.i64_in _ (by omega)]; omega
          have hm3 : ((o.length - 1 : Nat) : Int) < o.length := by omega
          have hm4 : 0 < o.length := by omega
          obtain ⟨p, hp⟩ := hlast h0
          have hp' : o[o.length - 1]'(by omega) = p := (List.getElem?_eq_some_iff.1 hp).2
          simp [evalRgn, Option.map_some, evalOps, step, wants, osem, M.run_bind, M.mapL, M.run, M.ok, M.fresh, M.write, M.look, M.lift, putD, Arb.set, ev, Arb.get, keepFr, bin, intBin, strBin, mk, params, cellsM, load, obRead, fadr, fld, isl, iarr, xarr, idx, len, valid, slc, bound, store, splice, nilc, un, eqs, eq0, evalFeet, footOf, M.foot, orderOk, apartAll, apart1, clash, meets, callM, fcallM, callee, fz1, fzC, fz, flat, flat1, flat0, flatI, Option.bind_some, putAll, M.bind, touchB, hm1, hm2, hm3, hm4, hp, hp', rng])) ?_
      refine Wp.cond rfl ?_
      cases ht : touchB o b with
      | true =>
        have h0 : o.length ≠ 0 := by
          intro h0
          obtain rfl : o = [] := List.eq_nil_of_length_eq_zero h0
          simp [touchB] at ht
        obtain ⟨p, hp⟩ := hlast h0
        have hm1 : (0 : Int) < o.length := by omega
        have hm2 : IntKind.wrap .i64 ((o.length : Int) - 1) = ((o.length - 1 : Nat) : Int) := by rw [IntWalk.i64_in _ (by omega)]; omega
        have hm3 : ((o.length - 1 : Nat) : Int) < o.length := by omega
        have hm4 : 0 < o.length := by omega
        have hp' : o[o.length - 1]'(by omega) = p := (List.getElem?_eq_some_iff.1 hp).2
        have hn : nextR o b = o.set (o.length - 1) (p.1, b.2) := by unfold nextR; rw [ht, if_pos rfl, hp]
        have hlen : (nextR o b).length = o.length := by rw [hn, List.length_set]
        refine Wp.rgn (K := 0) (s' := ⟨[(0, .iv (.sl 2 (l.map rng))), (3, .own 1064 0 o.length 0)], [(1000, .buf 0 2 []), (1064, .buf 0 2 ((nextR o b).map rng)), (1896, .cells [.iv (.int .i64 b.1), .iv (.int .i64 b.2)])], 3624⟩) (fun n _ => by
          rw [hn]
          simp [evalRgn, Option.map_some, evalOps, step, wants, osem, M.run_bind, M.mapL, M.run, M.ok, M.fresh, M.write, M.look, M.lift, putD, Arb.set, ev, Arb.get, keepFr, bin, intBin, strBin, mk, params, cellsM, load, obRead, fadr, fld, isl, iarr, xarr, idx, len, valid, slc, bound, store, splice, nilc, un, eqs, eq0, evalFeet, footOf, M.foot, orderOk, apartAll, apart1, clash, meets, callM, fcallM, callee, fz1, fzC, fz, flat, flat1, flat0, flatI, Option.bind_some, putAll, M.bind, hm1, hm2, hm3, hm4, hp, hp', rng]) ?_
        simp only [Ex.then, Ex.inBlock]
        exact ⟨leftN l (nextR o b), by omega, nextR o b, P', rfl, by omega, by simp [again, keepFr, get, nrm, nrmO, hlen]⟩
      | false =>
        have hn : nextR o b = o ++ [b] := by unfold nextR; rw [ht, if_neg Bool.false_ne_true]
        have hlen : (nextR o b).length = o.length + 1 := by rw [hn]; simp
        have hr1 : o.length + 1 ≤ 1073741824 := by omega
        refine Wp.rgn (K := 0) (fun n _ => by simp [evalRgn, Option.map_some, evalOps, step, wants, osem, M.run_bind, M.mapL, M.run, M.ok, M.fresh, M.write, M.look, M.lift, putD, Arb.set, ev, Arb.get, keepFr, bin, intBin, strBin, mk, params, cellsM, load, obRead, fadr, fld, isl, iarr, xarr, idx, len, valid, slc, bound, store, splice, nilc, un, eqs, eq0, evalFeet, footOf, M.foot, orderOk, apartAll, apart1, clash, meets, callM, fcallM, callee, fz1, fzC, fz, flat, flat1, flat0, flatI, Option.bind_some, putAll, M.bind, app, elems, roomy, setAll, hr1, take_map_len]; rfl) ?_
        simp only [Ex.then, Ex.inBlock]
        exact ⟨leftN l (nextR o b), by omega, nextR o b, P', rfl, by omega, by simp [again, keepFr, get, nrm, nrmO, hn, rng]⟩
end
end Arb

/-
  THE DOCUMENT'S UNION OF TWO SETS: its strings.
-/
set_option linter.unusedSimpArgs false
namespace Arb
open Go

def okB (t : List ByteArray) (s : ByteArray) : Bool := match t[t.length - 1]? with
  | some p => !(sless s p || s == p)
  | none => true
def lessO (s : ByteArray) : Option ByteArray → Bool
  | none => true
  | some b => sless s b
/-- the least of the first k that comes behind all of t -/
def bestT (l t : List ByteArray) : Nat → Option ByteArray
  | 0 => none
  | k + 1 => match l[k]? with
    | some s => if okB t s && lessO s (bestT l t k) then some s else bestT l t k
    | none => bestT l t k
theorem gtT_eq (s p : ByteArray) : (!(sless s p || s == p)) = sless p s := by
  rw [Bool.eq_iff_iff]
  simp only [Bool.not_eq_true', Bool.or_eq_false_iff, ba_beq, decide_eq_false_iff_not]
  constructor
  · rintro ⟨h1, h2⟩
    refine Classical.byContradiction fun h => h2 (sless_tri (by simpa using h1) h)
  · intro h
    exact ⟨Bool.eq_false_iff.2 (sless_asymm h), fun e => by subst e; exact sless_irr _ h⟩
theorem bestT_spec (l t : List ByteArray) : ∀ k, k ≤ l.length → (bestT l t k = none ∧ ∀ (j : Nat) s, j < k → l[j]? = some s → okB t s = false) ∨
    ∃ b, bestT l t k = some b ∧ b ∈ l ∧ okB t b = true ∧ ∀ (j : Nat) s, j < k → l[j]? = some s → okB t s = true → ¬ sless s b = true
  | 0, _ => .inl ⟨rfl, fun j _ h => absurd h (Nat.not_lt_zero _)⟩
  | k + 1, hk => by
    obtain ⟨r, hr⟩ : ∃ r, l[k]? = some r := ⟨_, List.getElem?_eq_getElem hk⟩
    have ih := bestT_spec l t k (by omega)
    rw [bestT, hr]
    simp only
    cases ho : okB t r with
    | false =>
      rw [Bool.false_and, if_neg Bool.false_ne_true]
      rcases ih with ⟨h1, h2⟩ | ⟨b, h1, h2, h3, h4⟩
      · refine .inl ⟨h1, fun j s hj hs => ?_⟩
        by_cases hjk : j = k
        · subst hjk; rw [hr] at hs; cases hs; exact ho
        · exact h2 j s (by omega) hs
      · refine .inr ⟨b, h1, h2, h3, fun j s hj hs hos => ?_⟩
        by_cases hjk : j = k
        · subst hjk; rw [hr] at hs; cases hs; rw [ho] at hos; cases hos
        · exact h4 j s (by omega) hs hos
    | true =>
      rw [Bool.true_and]
      rcases ih with ⟨h1, h2⟩ | ⟨b, h1, h2, h3, h4⟩
      · rw [h1]
        refine .inr ⟨r, rfl, List.mem_of_getElem? hr, ho, fun j s hj hs hos => ?_⟩
        by_cases hjk : j = k
        · subst hjk; rw [hr] at hs; cases hs; exact sless_irr _
        · have := h2 j s (by omega) hs; rw [hos] at this; cases this
      · rw [h1]
        cases hb : lessO r (some b) with
        | true =>
          rw [if_pos rfl]
          refine .inr ⟨r, rfl, List.mem_of_getElem? hr, ho, fun j s hj hs hos => ?_⟩
          by_cases hjk : j = k
          · subst hjk; rw [hr] at hs; cases hs; exact sless_irr _
          · exact fun h => h4 j s (by omega) hs hos (sless_trans h hb)
        | false =>
          rw [if_neg Bool.false_ne_true]
          refine .inr ⟨b, rfl, h2, h3, fun j s hj hs hos => ?_⟩
          by_cases hjk : j = k
          · subst hjk; rw [hr] at hs; cases hs; exact Bool.eq_false_iff.1 hb
          · exact h4 j s (by omega) hs hos
theorem okB_take {J : List ByteArray} (hJ : rise J) {i j : Nat} {s : ByteArray} (hi : i ≤ J.length) (hs : J[j]? = some s) : okB (J.take i) s = decide (i ≤ j) := by
  unfold okB
  have hj := (List.getElem?_eq_some_iff.1 hs).1
  have hget := List.pairwise_iff_getElem.1 hJ
  rw [List.length_take, Nat.min_eq_left hi]
  by_cases h0 : i = 0
  · subst h0; simp
  · obtain ⟨p, hp⟩ : ∃ p, J[i - 1]? = some p := ⟨_, List.getElem?_eq_getElem (by omega)⟩
    have hp' : (J.take i)[i - 1]? = some p := by rw [List.getElem?_take_of_lt (by omega), hp]
    rw [hp']
    simp only
    rw [gtT_eq]
    have e1 := (List.getElem?_eq_some_iff.1 hp).2
    have e2 := (List.getElem?_eq_some_iff.1 hs).2
    by_cases hij : i ≤ j
    · rw [decide_eq_true hij]
      have := hget (i - 1) j (by omega) hj (by omega)
      rw [e1, e2] at this
      exact this
    · rw [decide_eq_false hij]
      refine Bool.eq_false_iff.2 fun h => ?_
      by_cases hji : j = i - 1
      · subst hji
        rw [e1] at e2; subst e2
        exact sless_irr _ h
      · have := hget j (i - 1) hj (by omega) (by omega)
        rw [e1, e2] at this
        exact sless_asymm this h
theorem bestT_join {l J : List ByteArray} (hJ : rise J) (hm : ∀ s, s ∈ J ↔ s ∈ l) {i : Nat} (hi : i ≤ J.length) : bestT l (J.take i) l.length = J[i]? := by
  have hat : ∀ s ∈ l, ∃ j : Nat, J[j]? = some s := fun s hs => by
    obtain ⟨j, hj, he⟩ := List.getElem_of_mem ((hm s).2 hs)
    exact ⟨j, by rw [List.getElem?_eq_getElem hj, he]⟩
  have hget := List.pairwise_iff_getElem.1 hJ
  rcases bestT_spec l (J.take i) l.length (Nat.le_refl _) with ⟨h1, h2⟩ | ⟨b, h1, h2, h3, h4⟩
  · rw [h1]
    symm
    rw [List.getElem?_eq_none_iff]
    refine Classical.byContradiction fun hlt => ?_
    obtain ⟨s, hs⟩ : ∃ s, J[i]? = some s := ⟨_, List.getElem?_eq_getElem (by omega)⟩
    obtain ⟨k, hk, he⟩ := List.getElem_of_mem ((hm s).1 (List.mem_of_getElem? hs))
    have := h2 k s hk (by rw [List.getElem?_eq_getElem hk, he])
    rw [okB_take hJ hi hs] at this
    simp at this
  · rw [h1]
    obtain ⟨j, hj⟩ := hat b h2
    have hjl := (List.getElem?_eq_some_iff.1 hj).1
    rw [okB_take hJ hi hj] at h3
    have hij := of_decide_eq_true h3
    by_cases hne : i = j
    · subst hne; rw [hj]
    · exfalso
      obtain ⟨s, hs⟩ : ∃ s, J[i]? = some s := ⟨_, List.getElem?_eq_getElem (by omega)⟩
      obtain ⟨k, hk, he⟩ := List.getElem_of_mem ((hm s).1 (List.mem_of_getElem? hs))
      refine h4 k s hk (by rw [List.getElem?_eq_getElem hk, he]) (by rw [okB_take hJ hi hs]; simp) ?_
      have := hget i j (by omega) hjl (by omega)
      rw [(List.getElem?_eq_some_iff.1 hs).2, (List.getElem?_eq_some_iff.1 hj).2] at this
      exact this

def keepT (x y : S) (t : ByteArray) : Bool := ((hasT x.s t != x.c) || (hasT y.s t != y.c)) != (x.c || y.c)
theorem or_filter {x y : S} (hx : rise x.s) (hy : rise y.s) : (joinT x.s y.s).filter (keepT x y) = orT x y := by
  refine rise_one (List.Pairwise.filter _ (joinT_all _ _).1) (orT_rise hx hy) fun t => ?_
  rw [List.mem_filter, (joinT_all _ _).2]
  have h := or_str x y t
  unfold hasStr at h
  rw [show (orS x y).s = orT x y from rfl, show (orS x y).c = (x.c || y.c) from rfl] at h
  have hk : keepT x y t = hasT (orT x y) t := by
    unfold keepT
    rw [← h]
    cases hasT (orT x y) t <;> cases (x.c || y.c) <;> rfl
  rw [hk, hasT_iff]
  refine ⟨fun h => h.2, fun ht => ⟨?_, ht⟩⟩
  unfold orT at ht
  split at ht
  · exact .inl (pickS_mem.1 ht).1
  · split at ht
    · exact .inl (pickS_mem.1 ht).1
    · split at ht
      · exact .inr (pickS_mem.1 ht).1
      · exact ((joinT_all _ _).2 t).1 ht
end Arb

/-
  THE DOCUMENT'S UNION OF TWO SETS: THE WALK.
-/
set_option linter.unusedSimpArgs false
namespace Arb
open Go

def orDHp (x y : S) (w : Nat) (t o3 : List ByteArray) : Hp := [(1000, .cells [.iv (.bool x.a), .iv (.sl 2 (x.i.map rng)), .iv (.bool x.c), .iv (.sl 1 (x.s.map st1))]), (1064, .cells [.iv (.bool y.a), .iv (.sl 2 (y.i.map rng)), .iv (.bool y.c), .iv (.sl 1 (y.s.map st1))]),
  (1130, .buf 0 2 []), (1132, .buf 0 1 []), (1128, .cells [.iv (.bool false), .own 1130 0 0 0, .iv (.bool false), .own 1132 0 0 0]), (2026, .buf 0 2 []), (2028, .buf 0 1 []),
  (2024, .cells [.iv (.bool (x.a || y.a)), .iv (.sl 2 ((normR (x.i ++ y.i)).map rng)), .iv (.bool (x.c || y.c)), .own 2091 0 o3.length 0]), (2089, .buf 0 2 []), (2091, .buf 0 1 (o3.map st1)), (2152, .imm w 2 (x.i.map rng ++ y.i.map rng)), (2792, .buf 0 1 (t.map st1))]

section
variable {prog : Nat → Option IFn}

set_option maxHeartbeats 16000000 in
theorem p_orD (h49 : prog 49 = some F49) (h107 : prog 107 = some F107) (h : prog 97 = some F97) (x y : S) (hi : x.i.length + y.i.length ≤ 12) (hs : x.s.length + y.s.length ≤ 12) (kx : in64s x.i) (ky : in64s y.i) (rx : rise x.s) (ry : rise y.s) :
    Ans prog 97 [x.av, y.av] (orS x y).av := by
  obtain ⟨K1, hK1⟩ := p_rangesD h107 (x.i ++ y.i) (by simp; omega) (fun p hp => (List.mem_append.1 hp).elim (kx p) (ky p))
  rw [List.map_append] at hK1
  obtain ⟨hJ, hm⟩ := joinT_all x.s y.s
  have hm : ∀ s, s ∈ joinT x.s y.s ↔ s ∈ x.s ++ y.s := fun s => by rw [hm, List.mem_append]
  have hfil := or_filter rx ry
  have hJl : (joinT x.s y.s).length ≤ 12 := by
    have : (joinT x.s y.s).length ≤ (x.s ++ y.s).length := by
      unfold joinT comp
      exact Nat.le_trans (compTo_len _ _) (by rw [isort_len]; exact Nat.le_refl _)
    simp at this; omega
  generalize hL : x.s ++ y.s = L at hm
  have hLl : L.length ≤ 12 := by rw [← hL]; simp; omega
  have hLm : x.s.map st1 ++ y.s.map st1 = L.map st1 := by rw [← hL, List.map_append]
  have hLn : x.s.length + y.s.length = L.length := by rw [← hL, List.length_append]
  generalize joinT x.s y.s = J at hJ hm hfil hJl
  refine Ans.of h rfl rfl (Wp.seq ?_)
  refine Wp.rgn (K := 0) (fun n _ => by simp [evalRgn, Option.map_some, evalOps, step, wants, osem, M.run_bind, M.mapL, M.run, M.ok, M.fresh, M.write, M.look, M.lift, putD, Arb.set, ev, Arb.get, keepFr, bin, intBin, strBin, mk, params, cellsM, load, obRead, fadr, fld, isl, iarr, xarr, idx, len, valid, slc, bound, store, splice, nilc, un, eqs, eq0, evalFeet, footOf, M.foot, orderOk, apartAll, apart1, clash, meets, callM, fcallM, callee, fz1, fzC, fz, flat, flat1, flat0, flatI, Option.bind_some, putAll, M.bind, S.av]; rfl) ?_
  refine Wp.seq ?_
  refine Wp.rgn (K := 0) (s' := ⟨[(2, .ref 1000 0 0 0), (3, .ref 1064 0 0 0), (4, .ref 1128 0 0 0), (5, .ref 2024 0 0 0)], [(1000, .cells [.iv (.bool x.a), .iv (.sl 2 (x.i.map rng)), .iv (.bool x.c), .iv (.sl 1 (x.s.map st1))]), (1064, .cells [.iv (.bool y.a), .iv (.sl 2 (y.i.map rng)), .iv (.bool y.c), .iv (.sl 1 (y.s.map st1))]),
    (1130, .buf 0 2 []), (1132, .buf 0 1 []), (1128, .cells [.iv (.bool false), .own 1130 0 0 0, .iv (.bool false), .own 1132 0 0 0]), (2026, .buf 0 2 []), (2028, .buf 0 1 []),
    (2024, .cells [.iv (.bool (x.a || y.a)), .own 2089 0 0 0, .iv (.bool (x.c || y.c)), .own 2091 0 0 0]), (2089, .buf 0 2 []), (2091, .buf 0 1 [])], 2152⟩) (fun n _ => by
    cases ha : x.a <;> cases hc : x.c <;> simp [evalRgn, Option.map_some, evalOps, step, wants, osem, M.run_bind, M.mapL, M.run, M.ok, M.fresh, M.write, M.look, M.lift, putD, Arb.set, ev, Arb.get, keepFr, bin, intBin, strBin, mk, params, cellsM, load, obRead, fadr, fld, isl, iarr, xarr, idx, len, valid, slc, bound, store, splice, nilc, un, eqs, eq0, evalFeet, footOf, M.foot, orderOk, apartAll, apart1, clash, meets, callM, fcallM, callee, fz1, fzC, fz, flat, flat1, flat0, flatI, Option.bind_some, putAll, M.bind, ha, hc]) ?_
  refine Wp.seq ?_
  refine Wp.rgn (K := K1) (fun n hn => by
    have e1 := hK1 n hn
    have hr0 : x.i.length ≤ 1073741824 := by omega
    have hr1 : x.i.length + y.i.length ≤ 1073741824 := by omega
    have ht : (x.i.map rng ++ y.i.map rng).take (x.i.length + y.i.length) = x.i.map rng ++ y.i.map rng := List.take_of_length_le (by simp)
    generalize evalF prog n = g at e1
    simp [evalRgn, Option.map_some, evalOps, step, wants, osem, M.run_bind, M.mapL, M.run, M.ok, M.fresh, M.write, M.look, M.lift, putD, Arb.set, ev, Arb.get, keepFr, bin, intBin, strBin, mk, params, cellsM, load, obRead, fadr, fld, isl, iarr, xarr, idx, len, valid, slc, bound, store, splice, nilc, un, eqs, eq0, evalFeet, footOf, M.foot, orderOk, apartAll, apart1, clash, meets, callM, fcallM, callee, fz1, fzC, fz, flat, flat1, flat0, flatI, Option.bind_some, putAll, M.bind, setAll, app, elems, roomy, hr0, hr1, ht, take_map_len, e1]
    rfl) ?_
  refine Wp.seq ?_
  refine Wp.rgn (K := 0) (fun n _ => by simp [evalRgn, Option.map_some, evalOps, step, wants, osem, M.run_bind, M.mapL, M.run, M.ok, M.fresh, M.write, M.look, M.lift, putD, Arb.set, ev, Arb.get, keepFr, bin, intBin, strBin, mk, params, cellsM, load, obRead, fadr, fld, isl, iarr, xarr, idx, len, valid, slc, bound, store, splice, nilc, un, eqs, eq0, evalFeet, footOf, M.foot, orderOk, apartAll, apart1, clash, meets, callM, fcallM, callee, fz1, fzC, fz, flat, flat1, flat0, flatI, Option.bind_some, putAll, M.bind]; rfl) ?_
  refine Wp.seq ?_
  refine Wp.block ?_
  refine Wp.loop (fun m s1 => ∃ i w, i + m = J.length ∧ s1 = ⟨[(2, .ref 1000 0 0 0), (3, .ref 1064 0 0 0), (4, .ref 1128 0 0 0), (5, .ref 2024 0 0 0), (6, .own 2792 0 (J.take i).length 0)], orDHp x y w (J.take i) [], 2856⟩) (m := J.length) ⟨0, 2, by omega, by simp [keepFr, get, orDHp]⟩ ?_
  rintro m s1 ⟨i, w, hm1, rfl⟩
  have hbj := bestT_join hJ hm (i := i) (by omega)
  have htl : (J.take i).length ≤ 12 := by rw [List.length_take]; omega
  generalize ht : J.take i = t at hbj htl
  refine Wp.block (Wp.seq ?_)
  refine Wp.rgn (K := 0) (fun n _ => by simp [evalRgn, Option.map_some, evalOps, step, wants, osem, M.run_bind, M.mapL, M.run, M.ok, M.fresh, M.write, M.look, M.lift, putD, Arb.set, ev, Arb.get, keepFr, bin, intBin, strBin, mk, params, cellsM, load, obRead, fadr, fld, isl, iarr, xarr, idx, len, valid, slc, bound, store, splice, nilc, un, eqs, eq0, evalFeet, footOf, M.foot, orderOk, apartAll, apart1, clash, meets, callM, fcallM, callee, fz1, fzC, fz, flat, flat1, flat0, flatI, Option.bind_some, putAll, M.bind]; rfl) ?_
  refine Wp.seq ?_
  refine Wp.rgn (K := 0) (fun n _ => by simp [evalRgn, Option.map_some, evalOps, step, wants, osem, M.run_bind, M.mapL, M.run, M.ok, M.fresh, M.write, M.look, M.lift, putD, Arb.set, ev, Arb.get, keepFr, bin, intBin, strBin, mk, params, cellsM, load, obRead, fadr, fld, isl, iarr, xarr, idx, len, valid, slc, bound, store, splice, nilc, un, eqs, eq0, evalFeet, footOf, M.foot, orderOk, apartAll, apart1, clash, meets, callM, fcallM, callee, fz1, fzC, fz, flat, flat1, flat0, flatI, Option.bind_some, putAll, M.bind]; rfl) ?_
  refine Wp.seq ?_
  refine Wp.rgn (K := 0) (s' := ⟨[(2, .ref 1000 0 0 0), (3, .ref 1064 0 0 0), (4, .ref 1128 0 0 0), (5, .ref 2024 0 0 0), (6, .own 2792 0 t.length 0), (7, .iv (.str ⟨#[]⟩)), (8, .iv (.bool false)), (9, .own 2984 0 L.length 2)], orDHp x y w t [] ++ [(2984, .buf 2 1 (L.map st1))], 3496⟩) (fun n _ => by
    have hr0 : x.s.length ≤ 1073741824 := by omega
    have hr1 : x.s.length + y.s.length ≤ 1073741824 := by omega
    simp [evalRgn, Option.map_some, evalOps, step, wants, osem, M.run_bind, M.mapL, M.run, M.ok, M.fresh, M.write, M.look, M.lift, putD, Arb.set, ev, Arb.get, keepFr, bin, intBin, strBin, mk, params, cellsM, load, obRead, fadr, fld, isl, iarr, xarr, idx, len, valid, slc, bound, store, splice, nilc, un, eqs, eq0, evalFeet, footOf, M.foot, orderOk, apartAll, apart1, clash, meets, callM, fcallM, callee, fz1, fzC, fz, flat, flat1, flat0, flatI, Option.bind_some, putAll, M.bind, setAll, app, elems, roomy, hr0, hr1, take_map_len, orDHp, ← hLm, ← hLn]) ?_
  refine Wp.seq (Wp.seq ?_)
  refine Wp.rgn (K := 0) (fun n _ => by simp [evalRgn, Option.map_some, evalOps, step, wants, osem, M.run_bind, M.mapL, M.run, M.ok, M.fresh, M.write, M.look, M.lift, putD, Arb.set, ev, Arb.get, keepFr, bin, intBin, strBin, mk, params, cellsM, load, obRead, fadr, fld, isl, iarr, xarr, idx, len, valid, slc, bound, store, splice, nilc, un, eqs, eq0, evalFeet, footOf, M.foot, orderOk, apartAll, apart1, clash, meets, callM, fcallM, callee, fz1, fzC, fz, flat, flat1, flat0, flatI, Option.bind_some, putAll, M.bind, orDHp]; rfl) ?_
  refine Wp.block ?_
  refine Wp.loop (fun m s1 => ∃ k w v, k + m = L.length ∧ s1 = ⟨[(2, .ref 1000 0 0 0), (3, .ref 1064 0 0 0), (4, .ref 1128 0 0 0), (5, .ref 2024 0 0 0), (6, .own 2792 0 t.length 0), (7, .iv (.str ((bestT L t k).getD ⟨#[]⟩))), (8, .iv (.bool (bestT L t k).isSome)), (9, .own 2984 0 L.length v), (10, .iv (.int .i64 k))], orDHp x y w t [] ++ [(2984, .buf v 1 (L.map st1))], 3560⟩) (m := L.length) ⟨0, w, 2, by omega, by simp [keepFr, get, orDHp, bestT]⟩ ?_
  rintro m2 s2 ⟨k, w, v, hk, rfl⟩
  have hwk : IntKind.wrap .i64 ((k : Int) + 1) = (k : Int) + 1 := IntWalk.i64_in _ (by omega)
  cases m2 with
  | succ m2 =>
    have hk1 : k < L.length := by omega
    have hk2 : (k : Int) < L.length := by omega
    obtain ⟨s, hs'⟩ : ∃ s, L[k]? = some s := ⟨_, List.getElem?_eq_getElem hk1⟩
    have hs'' : L[k]'hk1 = s := (List.getElem?_eq_some_iff.1 hs').2
    have hnext : bestT L t (k + 1) = if okB t s && lessO s (bestT L t k) then some s else bestT L t k := by rw [bestT, hs']
    generalize hbt : bestT L t k = bt at hnext
    refine Wp.seq (Wp.seq ?_)
    refine Wp.rgn (K := 0) (s' := ⟨[(2, .ref 1000 0 0 0), (3, .ref 1064 0 0 0), (4, .ref 1128 0 0 0), (5, .ref 2024 0 0 0), (6, .own 2792 0 t.length 0), (7, .iv (.str (bt.getD ⟨#[]⟩))), (8, .iv (.bool bt.isSome)), (9, .own 2984 0 L.length v), (10, .iv (.int .i64 k)), (45, .iv (.bool true))], orDHp x y w t [] ++ [(2984, .buf v 1 (L.map st1))], 3816⟩) (fun n _ => by simp [evalRgn, Option.map_some, evalOps, step, wants, osem, M.run_bind, M.mapL, M.run, M.ok, M.fresh, M.write, M.look, M.lift, putD, Arb.set, ev, Arb.get, keepFr, bin, intBin, strBin, mk, params, cellsM, load, obRead, fadr, fld, isl, iarr, xarr, idx, len, valid, slc, bound, store, splice, nilc, un, eqs, eq0, evalFeet, footOf, M.foot, orderOk, apartAll, apart1, clash, meets, callM, fcallM, callee, fz1, fzC, fz, flat, flat1, flat0, flatI, Option.bind_some, putAll, M.bind, orDHp, hk1]) ?_
    refine Wp.cond rfl (Wp.skip (Wp.seq (Wp.block (Wp.seq ?_))))
    refine Wp.rgn (K := 0) (s' := ⟨[(2, .ref 1000 0 0 0), (3, .ref 1064 0 0 0), (4, .ref 1128 0 0 0), (5, .ref 2024 0 0 0), (6, .own 2792 0 t.length 0), (7, .iv (.str (bt.getD ⟨#[]⟩))), (8, .iv (.bool bt.isSome)), (9, .own 2984 0 L.length v), (10, .iv (.int .i64 k)), (75, .iv (.bool (okB t s && lessO s bt)))], orDHp x y w t [] ++ [(2984, .buf v 1 (L.map st1))], 5608⟩) (fun n _ => rgn_quiet' rfl (by
      by_cases h0 : t.length = 0
      · obtain rfl : t = [] := List.eq_nil_of_length_eq_zero h0
        cases bt <;> simp [evalRgn, Option.map_some, evalOps, step, wants, osem, M.run_bind, M.mapL, M.run, M.ok, M.fresh, M.write, M.look, M.lift, putD, Arb.set, ev, Arb.get, keepFr, bin, intBin, strBin, mk, params, cellsM, load, obRead, fadr, fld, isl, iarr, xarr, idx, len, valid, slc, bound, store, splice, nilc, un, eqs, eq0, evalFeet, footOf, M.foot, orderOk, apartAll, apart1, clash, meets, callM, fcallM, callee, fz1, fzC, fz, flat, flat1, flat0, flatI, Option.bind_some, putAll, M.bind, orDHp, okB, lessO, hk1, hk2, hs', hs'', st1]
      · have hm1 : ((t.length : Int) == 0) = false := by rw [beq_eq_false_iff_ne]; omega
        have hm2 : IntKind.wrap .i64 ((t.length : Int) - 1) = ((t.length - 1 : Nat) : Int) := by rw [IntWalk.i64_in _ (by omega)]; omega
        have hm3 : ((t.length - 1 : Nat) : Int) < t.length := by omega
        have hm4 : 0 < t.length := by omega
        have hm5 : ¬ t = [] := by intro e; subst e; simp at h0
        obtain ⟨p, hp⟩ : ∃ p, t[t.length - 1]? = some p := ⟨_, List.getElem?_eq_getElem (by omega)⟩
        have hp' : t[t.length - 1]'(by omega) = p := (List.getElem?_eq_some_iff.1 hp).2
        have hok : okB t s = !(sless s p || s == p) := by unfold okB; rw [hp]
        rw [hok]
        cases a1 : sless s p <;> cases a2 : s == p <;> cases bt <;> simp [evalRgn, Option.map_some, evalOps, step, wants, osem, M.run_bind, M.mapL, M.run, M.ok, M.fresh, M.write, M.look, M.lift, putD, Arb.set, ev, Arb.get, keepFr, bin, intBin, strBin, mk, params, cellsM, load, obRead, fadr, fld, isl, iarr, xarr, idx, len, valid, slc, bound, store, splice, nilc, un, eqs, eq0, evalFeet, footOf, M.foot, orderOk, apartAll, apart1, clash, meets, callM, fcallM, callee, fz1, fzC, fz, flat, flat1, flat0, flatI, Option.bind_some, putAll, M.bind, orDHp, lessO, hk1, hk2, hs', hs'', hm1, hm2, hm3, hm4, hm5, hp, hp', st1, a1, a2])) ?_
    refine Wp.cond rfl ?_
    cases hc : okB t s && lessO s bt with
    | true =>
      rw [hc, if_pos rfl] at hnext
      refine Wp.seq ?_
      refine Wp.rgn (K := 0) (fun n _ => by simp [evalRgn, Option.map_some, evalOps, step, wants, osem, M.run_bind, M.mapL, M.run, M.ok, M.fresh, M.write, M.look, M.lift, putD, Arb.set, ev, Arb.get, keepFr, bin, intBin, strBin, mk, params, cellsM, load, obRead, fadr, fld, isl, iarr, xarr, idx, len, valid, slc, bound, store, splice, nilc, un, eqs, eq0, evalFeet, footOf, M.foot, orderOk, apartAll, apart1, clash, meets, callM, fcallM, callee, fz1, fzC, fz, flat, flat1, flat0, flatI, Option.bind_some, putAll, M.bind, orDHp, hk1, hk2, hs', hs'', st1]; rfl) ?_
      refine Wp.rgn (K := 0) (fun n _ => by simp [evalRgn, Option.map_some, evalOps, step, wants, osem, M.run_bind, M.mapL, M.run, M.ok, M.fresh, M.write, M.look, M.lift, putD, Arb.set, ev, Arb.get, keepFr, bin, intBin, strBin, mk, params, cellsM, load, obRead, fadr, fld, isl, iarr, xarr, idx, len, valid, slc, bound, store, splice, nilc, un, eqs, eq0, evalFeet, footOf, M.foot, orderOk, apartAll, apart1, clash, meets, callM, fcallM, callee, fz1, fzC, fz, flat, flat1, flat0, flatI, Option.bind_some, putAll, M.bind]; rfl) ?_
      simp only [Ex.then, Ex.inBlock]
      refine Wp.rgn (K := 0) (fun n _ => by simp [evalRgn, Option.map_some, evalOps, step, wants, osem, M.run_bind, M.mapL, M.run, M.ok, M.fresh, M.write, M.look, M.lift, putD, Arb.set, ev, Arb.get, keepFr, bin, intBin, strBin, mk, params, cellsM, load, obRead, fadr, fld, isl, iarr, xarr, idx, len, valid, slc, bound, store, splice, nilc, un, eqs, eq0, evalFeet, footOf, M.foot, orderOk, apartAll, apart1, clash, meets, callM, fcallM, callee, fz1, fzC, fz, flat, flat1, flat0, flatI, Option.bind_some, putAll, M.bind]; rfl) ?_
      exact ⟨m2, by omega, k + 1, 0, 0, by omega, by rw [hnext]; simp [again, keepFr, get, nrm, nrmO, hwk, orDHp]⟩
    | false =>
      rw [hc, if_neg Bool.false_ne_true] at hnext
      refine Wp.skip ?_
      simp only [Ex.then, Ex.inBlock]
      refine Wp.rgn (K := 0) (fun n _ => by simp [evalRgn, Option.map_some, evalOps, step, wants, osem, M.run_bind, M.mapL, M.run, M.ok, M.fresh, M.write, M.look, M.lift, putD, Arb.set, ev, Arb.get, keepFr, bin, intBin, strBin, mk, params, cellsM, load, obRead, fadr, fld, isl, iarr, xarr, idx, len, valid, slc, bound, store, splice, nilc, un, eqs, eq0, evalFeet, footOf, M.foot, orderOk, apartAll, apart1, clash, meets, callM, fcallM, callee, fz1, fzC, fz, flat, flat1, flat0, flatI, Option.bind_some, putAll, M.bind, orDHp]; rfl) ?_
      exact ⟨m2, by omega, k + 1, 0, 0, by omega, by rw [hnext]; simp [again, keepFr, get, nrm, nrmO, hwk, orDHp]⟩
  | zero =>
    have hkL : k = L.length := by omega
    have hno : ¬ (k : Int) < L.length := by omega
    rw [hkL, hbj]
    refine Wp.seq (Wp.seq ?_)
    refine Wp.rgn (K := 0) (s' := ⟨[(2, .ref 1000 0 0 0), (3, .ref 1064 0 0 0), (4, .ref 1128 0 0 0), (5, .ref 2024 0 0 0), (6, .own 2792 0 t.length 0), (7, .iv (.str ((J[i]?).getD ⟨#[]⟩))), (8, .iv (.bool (J[i]?).isSome)), (9, .own 2984 0 L.length v), (10, .iv (.int .i64 (L.length : Int))), (45, .iv (.bool false))], orDHp x y w t [] ++ [(2984, .buf v 1 (L.map st1))], 3816⟩) (fun n _ => by simp [evalRgn, Option.map_some, evalOps, step, wants, osem, M.run_bind, M.mapL, M.run, M.ok, M.fresh, M.write, M.look, M.lift, putD, Arb.set, ev, Arb.get, keepFr, bin, intBin, strBin, mk, params, cellsM, load, obRead, fadr, fld, isl, iarr, xarr, idx, len, valid, slc, bound, store, splice, nilc, un, eqs, eq0, evalFeet, footOf, M.foot, orderOk, apartAll, apart1, clash, meets, callM, fcallM, callee, fz1, fzC, fz, flat, flat1, flat0, flatI, Option.bind_some, putAll, M.bind, orDHp]) ?_
    refine Wp.cond rfl (Wp.exit ?_)
    simp only [Ex.then, Ex.inBlock, if_true]
    refine Wp.seq (Wp.seq ?_)
    refine Wp.rgn (K := 0) (fun n _ => by simp [evalRgn, Option.map_some, evalOps, step, wants, osem, M.run_bind, M.mapL, M.run, M.ok, M.fresh, M.write, M.look, M.lift, putD, Arb.set, ev, Arb.get, keepFr, bin, intBin, strBin, mk, params, cellsM, load, obRead, fadr, fld, isl, iarr, xarr, idx, len, valid, slc, bound, store, splice, nilc, un, eqs, eq0, evalFeet, footOf, M.foot, orderOk, apartAll, apart1, clash, meets, callM, fcallM, callee, fz1, fzC, fz, flat, flat1, flat0, flatI, Option.bind_some, putAll, M.bind, orDHp]; rfl) ?_
    refine Wp.cond rfl ?_
    cases m with
    | succ m =>
      obtain ⟨b, hb⟩ : ∃ b, J[i]? = some b := ⟨_, List.getElem?_eq_getElem (by omega)⟩
      have hti : J.take (i + 1) = t ++ [b] := by rw [List.take_add_one, hb, ← ht]; rfl
      have hr1 : t.length + 1 ≤ 1073741824 := by omega
      simp only [hb, Option.isSome_some, Option.getD_some, Bool.not_true, Bool.false_eq_true, if_false]
      refine Wp.skip ?_
      simp only [Ex.then, Ex.inBlock]
      refine Wp.rgn (K := 0) (fun n _ => by simp [evalRgn, Option.map_some, evalOps, step, wants, osem, M.run_bind, M.mapL, M.run, M.ok, M.fresh, M.write, M.look, M.lift, putD, Arb.set, ev, Arb.get, keepFr, bin, intBin, strBin, mk, params, cellsM, load, obRead, fadr, fld, isl, iarr, xarr, idx, len, valid, slc, bound, store, splice, nilc, un, eqs, eq0, evalFeet, footOf, M.foot, orderOk, apartAll, apart1, clash, meets, callM, fcallM, callee, fz1, fzC, fz, flat, flat1, flat0, flatI, Option.bind_some, putAll, M.bind, setAll, app, elems, roomy, hr1, take_map_len]; rfl) ?_
      exact ⟨m, by omega, i + 1, 0, by omega, by rw [hti]; simp [again, keepFr, get, nrm, nrmO, orDHp, st1]⟩
    | zero =>
      have hiJ : i = J.length := by omega
      have hb : J[i]? = none := List.getElem?_eq_none (by omega)
      have htJ : t = J := by rw [← ht, hiJ, List.take_length]
      subst htJ
      simp only [hb, Option.isSome_none, Option.getD_none, Bool.not_false, if_true]
      refine Wp.exit ?_
      simp only [Ex.then, Ex.inBlock, if_true]
      refine Wp.seq (Wp.seq ?_)
      refine Wp.rgn (K := 0) (fun n _ => by simp [evalRgn, Option.map_some, evalOps, step, wants, osem, M.run_bind, M.mapL, M.run, M.ok, M.fresh, M.write, M.look, M.lift, putD, Arb.set, ev, Arb.get, keepFr, bin, intBin, strBin, mk, params, cellsM, load, obRead, fadr, fld, isl, iarr, xarr, idx, len, valid, slc, bound, store, splice, nilc, un, eqs, eq0, evalFeet, footOf, M.foot, orderOk, apartAll, apart1, clash, meets, callM, fcallM, callee, fz1, fzC, fz, flat, flat1, flat0, flatI, Option.bind_some, putAll, M.bind, orDHp]; rfl) ?_
      refine Wp.block ?_
      refine Wp.loop (fun m s1 => ∃ k w v, k + m = t.length ∧ s1 = ⟨[(2, .ref 1000 0 0 0), (3, .ref 1064 0 0 0), (4, .ref 1128 0 0 0), (5, .ref 2024 0 0 0), (6, .own 2792 0 t.length 0), (11, .iv (.int .i64 k))], orDHp x y w t ((t.take k).filter (keepT x y)) ++ [(2984, .buf v 1 (L.map st1))], 4008⟩) (m := t.length) ⟨0, w, v, by omega, by simp [keepFr, get, orDHp]⟩ ?_
      rintro m3 s3 ⟨k, w, v, hk, rfl⟩
      have hwk : IntKind.wrap .i64 ((k : Int) + 1) = (k : Int) + 1 := IntWalk.i64_in _ (by omega)
      have hol : ((t.take k).filter (keepT x y)).length ≤ 12 := Nat.le_trans (filter_take_le _ _ _) hJl
      cases m3 with
      | succ m3 =>
        have hk1 : k < t.length := by omega
        have hk2 : (k : Int) < t.length := by omega
        obtain ⟨s, hs'⟩ : ∃ s, t[k]? = some s := ⟨_, List.getElem?_eq_getElem hk1⟩
        have hs'' : t[k]'hk1 = s := (List.getElem?_eq_some_iff.1 hs').2
        have hnext : (t.take (k + 1)).filter (keepT x y) = (t.take k).filter (keepT x y) ++ if keepT x y s then [s] else [] := take_succ_filter hs'
        generalize (t.take k).filter (keepT x y) = o at hol hnext
        obtain ⟨K2, hK2⟩ := p_hasT h49 x.s s (by unfold maxLen; omega)
        obtain ⟨K3, hK3⟩ := p_hasT h49 y.s s (by unfold maxLen; omega)
        refine Wp.seq (Wp.seq ?_)
        refine Wp.rgn (K := 0) (s' := ⟨[(2, .ref 1000 0 0 0), (3, .ref 1064 0 0 0), (4, .ref 1128 0 0 0), (5, .ref 2024 0 0 0), (6, .own 2792 0 t.length 0), (11, .iv (.int .i64 k)), (89, .iv (.bool true))], orDHp x y w t o ++ [(2984, .buf v 1 (L.map st1))], 4264⟩) (fun n _ => by simp [evalRgn, Option.map_some, evalOps, step, wants, osem, M.run_bind, M.mapL, M.run, M.ok, M.fresh, M.write, M.look, M.lift, putD, Arb.set, ev, Arb.get, keepFr, bin, intBin, strBin, mk, params, cellsM, load, obRead, fadr, fld, isl, iarr, xarr, idx, len, valid, slc, bound, store, splice, nilc, un, eqs, eq0, evalFeet, footOf, M.foot, orderOk, apartAll, apart1, clash, meets, callM, fcallM, callee, fz1, fzC, fz, flat, flat1, flat0, flatI, Option.bind_some, putAll, M.bind, orDHp, hk1]) ?_
        refine Wp.cond rfl (Wp.skip (Wp.seq (Wp.block (Wp.seq ?_))))
        refine Wp.rgn (K := max K2 K3) (s' := ⟨[(2, .ref 1000 0 0 0), (3, .ref 1064 0 0 0), (4, .ref 1128 0 0 0), (5, .ref 2024 0 0 0), (6, .own 2792 0 t.length 0), (11, .iv (.int .i64 k)), (12, .iv (.bool ((hasT x.s s != x.c) || (hasT y.s s != y.c))))], orDHp x y w t o ++ [(2984, .buf v 1 (L.map st1))], 5736⟩) (fun n hn => rgn_quiet' rfl (by
          have e1 := hK2 n (by omega)
          have e2 := hK3 n (by omega)
          generalize evalF prog n = g at e1 e2
          have ex : ∀ a b : Bool, (!(a == b)) = (a != b) := fun _ _ => rfl
          cases h1 : hasT x.s s != x.c <;> simp [evalRgn, Option.map_some, evalOps, step, wants, osem, M.run_bind, M.mapL, M.run, M.ok, M.fresh, M.write, M.look, M.lift, putD, Arb.set, ev, Arb.get, keepFr, bin, intBin, strBin, mk, params, cellsM, load, obRead, fadr, fld, isl, iarr, xarr, idx, len, valid, slc, bound, store, splice, nilc, un, eqs, eq0, evalFeet, footOf, M.foot, orderOk, apartAll, apart1, clash, meets, callM, fcallM, callee, fz1, fzC, fz, flat, flat1, flat0, flatI, Option.bind_some, putAll, M.bind, orDHp, hk1, hk2, hs', hs'', st1, e1, e2, ex, h1])) ?_
        refine Wp.seq ?_
        refine Wp.rgn (K := 0) (s' := ⟨[(2, .ref 1000 0 0 0), (3, .ref 1064 0 0 0), (4, .ref 1128 0 0 0), (5, .ref 2024 0 0 0), (6, .own 2792 0 t.length 0), (11, .iv (.int .i64 k)), (117, .iv (.bool (keepT x y s)))], orDHp x y w t o ++ [(2984, .buf v 1 (L.map st1))], 5992⟩) (fun n hn => by
          have ex : ∀ a b : Bool, (!(a == b)) = (a != b) := fun _ _ => rfl
          unfold keepT
          generalize ((hasT x.s s != x.c) || (hasT y.s s != y.c)) = q
          simp [evalRgn, Option.map_some, evalOps, step, wants, osem, M.run_bind, M.mapL, M.run, M.ok, M.fresh, M.write, M.look, M.lift, putD, Arb.set, ev, Arb.get, keepFr, bin, intBin, strBin, mk, params, cellsM, load, obRead, fadr, fld, isl, iarr, xarr, idx, len, valid, slc, bound, store, splice, nilc, un, eqs, eq0, evalFeet, footOf, M.foot, orderOk, apartAll, apart1, clash, meets, callM, fcallM, callee, fz1, fzC, fz, flat, flat1, flat0, flatI, Option.bind_some, putAll, M.bind, orDHp, ex]) ?_
        refine Wp.cond rfl ?_
        cases hkp : keepT x y s with
        | true =>
          rw [hkp, if_pos rfl] at hnext
          have hr1 : o.length + 1 ≤ 1073741824 := by omega
          refine Wp.rgn (K := 0) (fun n _ => by simp [evalRgn, Option.map_some, evalOps, step, wants, osem, M.run_bind, M.mapL, M.run, M.ok, M.fresh, M.write, M.look, M.lift, putD, Arb.set, ev, Arb.get, keepFr, bin, intBin, strBin, mk, params, cellsM, load, obRead, fadr, fld, isl, iarr, xarr, idx, len, valid, slc, bound, store, splice, nilc, un, eqs, eq0, evalFeet, footOf, M.foot, orderOk, apartAll, apart1, clash, meets, callM, fcallM, callee, fz1, fzC, fz, flat, flat1, flat0, flatI, Option.bind_some, putAll, M.bind, orDHp, setAll, app, elems, roomy, hk1, hk2, hs', hs'', hr1, st1, take_map_len]; rfl) ?_
          simp only [Ex.then, Ex.inBlock]
          refine Wp.rgn (K := 0) (fun n _ => by simp [evalRgn, Option.map_some, evalOps, step, wants, osem, M.run_bind, M.mapL, M.run, M.ok, M.fresh, M.write, M.look, M.lift, putD, Arb.set, ev, Arb.get, keepFr, bin, intBin, strBin, mk, params, cellsM, load, obRead, fadr, fld, isl, iarr, xarr, idx, len, valid, slc, bound, store, splice, nilc, un, eqs, eq0, evalFeet, footOf, M.foot, orderOk, apartAll, apart1, clash, meets, callM, fcallM, callee, fz1, fzC, fz, flat, flat1, flat0, flatI, Option.bind_some, putAll, M.bind]; rfl) ?_
          exact ⟨m3, by omega, k + 1, 0, 0, by omega, by rw [hnext]; simp [again, keepFr, get, nrm, nrmO, hwk, orDHp, st1]⟩
        | false =>
          rw [hkp, if_neg Bool.false_ne_true, List.append_nil] at hnext
          refine Wp.skip ?_
          simp only [Ex.then, Ex.inBlock]
          refine Wp.rgn (K := 0) (fun n _ => by simp [evalRgn, Option.map_some, evalOps, step, wants, osem, M.run_bind, M.mapL, M.run, M.ok, M.fresh, M.write, M.look, M.lift, putD, Arb.set, ev, Arb.get, keepFr, bin, intBin, strBin, mk, params, cellsM, load, obRead, fadr, fld, isl, iarr, xarr, idx, len, valid, slc, bound, store, splice, nilc, un, eqs, eq0, evalFeet, footOf, M.foot, orderOk, apartAll, apart1, clash, meets, callM, fcallM, callee, fz1, fzC, fz, flat, flat1, flat0, flatI, Option.bind_some, putAll, M.bind, orDHp]; rfl) ?_
          exact ⟨m3, by omega, k + 1, 0, 0, by omega, by rw [hnext]; simp [again, keepFr, get, nrm, nrmO, hwk, orDHp]⟩
      | zero =>
        have hkt : k = t.length := by omega
        have hno : ¬ (k : Int) < t.length := by omega
        rw [hkt, List.take_length, hfil]
        refine Wp.seq (Wp.seq ?_)
        refine Wp.rgn (K := 0) (s' := ⟨[(2, .ref 1000 0 0 0), (3, .ref 1064 0 0 0), (4, .ref 1128 0 0 0), (5, .ref 2024 0 0 0), (6, .own 2792 0 t.length 0), (11, .iv (.int .i64 (t.length : Int))), (89, .iv (.bool false))], orDHp x y w t (orT x y) ++ [(2984, .buf v 1 (L.map st1))], 4264⟩) (fun n _ => by simp [evalRgn, Option.map_some, evalOps, step, wants, osem, M.run_bind, M.mapL, M.run, M.ok, M.fresh, M.write, M.look, M.lift, putD, Arb.set, ev, Arb.get, keepFr, bin, intBin, strBin, mk, params, cellsM, load, obRead, fadr, fld, isl, iarr, xarr, idx, len, valid, slc, bound, store, splice, nilc, un, eqs, eq0, evalFeet, footOf, M.foot, orderOk, apartAll, apart1, clash, meets, callM, fcallM, callee, fz1, fzC, fz, flat, flat1, flat0, flatI, Option.bind_some, putAll, M.bind, orDHp]) ?_
        refine Wp.cond rfl (Wp.exit ?_)
        simp only [Ex.then, Ex.inBlock, if_true]
        refine Wp.seq ?_
        refine Wp.rgn (K := 0) (fun n _ => by simp [evalRgn, Option.map_some, evalOps, step, wants, osem, M.run_bind, M.mapL, M.run, M.ok, M.fresh, M.write, M.look, M.lift, putD, Arb.set, ev, Arb.get, keepFr, bin, intBin, strBin, mk, params, cellsM, load, obRead, fadr, fld, isl, iarr, xarr, idx, len, valid, slc, bound, store, splice, nilc, un, eqs, eq0, evalFeet, footOf, M.foot, orderOk, apartAll, apart1, clash, meets, callM, fcallM, callee, fz1, fzC, fz, flat, flat1, flat0, flatI, Option.bind_some, putAll, M.bind, orDHp]; rfl) ?_
        refine Wp.ret ?_
        show FinS F97.res (orS x y).av .ret _
        simp [FinS, F97, resAll, resM, outA, load, obRead, mk, ev, get, M.look, M.bind, M.run, M.run_bind, M.ok, M.lift, M.write, shut, fzA, fz1, fzC, fz, M.mapL, S.av, orS, take_map_len]
end
end Arb

/-
  THE DOCUMENT'S PERFECT MERGER IS THE SAME.
-/
set_option linter.unusedSimpArgs false
namespace Arb
open Go

theorem besideD_nonef {a b : List B} (h : sole a b = none) : besideD a b = -1 := by unfold besideD; rw [h]
theorem besideD_some {a b : List B} {x y : B} {i : Nat} (h : sole a b = some (x, y, i)) : besideD a b = (i : Int) := by unfold besideD; rw [h]
theorem grew_two (x y s : S) : grew x y s = (decide ((x.i.length : Int) < s.i.length) && decide ((y.i.length : Int) < s.i.length)) := by
  unfold grew
  rw [Bool.eq_iff_iff]
  simp only [decide_eq_true_eq, Bool.and_eq_true]
  split <;> omega

structure Doc (prog : Nat → Option IFn) : Prop extends In6 prog where
  h41 : prog 41 = some F41
  h92 : prog 92 = some F92
  h93 : prog 93 = some F93
  h94 : prog 94 = some F94
  h96 : prog 96 = some F96
  h97 : prog 97 = some F97
  h102 : prog 102 = some F102
  h107 : prog 107 = some F107
  h112 : prog 112 = some F112
  h28 : prog 28 = some F28
  h44 : prog 44 = some F44

section
variable {prog : Nat → Option IFn}

set_option maxHeartbeats 8000000 in
theorem p_perfectD (D : Doc prog) (a b : List B) (la : a.length ≤ maxLen) (lb : b.length ≤ maxLen) (ha : ∀ x ∈ a, x.ok) (hb : ∀ x ∈ b, x.ok) : Ans prog 92 [filt a, filt b] (.tup [filt (perfF a b).1, .iv (.bool (perfF a b).2)]) := by
  obtain ⟨K1, hK1⟩ := p_besideD D.toIn6 D.h41 D.h102 D.h96 a b la lb ha hb
  refine Ans.of D.h92 rfl rfl (Wp.seq ?_)
  refine Wp.rgn (K := 0) (fun n _ => by simp [evalRgn, Option.map_some, evalOps, step, wants, osem, M.run_bind, M.mapL, M.run, M.ok, M.fresh, M.write, M.look, M.lift, putD, Arb.set, ev, Arb.get, keepFr, bin, intBin, strBin, mk, params, cellsM, load, obRead, fadr, fld, isl, iarr, xarr, idx, len, valid, slc, bound, store, splice, nilc, un, eqs, eq0, evalFeet, footOf, M.foot, orderOk, apartAll, apart1, clash, meets, callM, fcallM, callee, fz1, fzC, fz, flat, flat1, flat0, flatI, Option.bind_some, putAll, M.bind]; rfl) ?_
  refine Wp.seq ?_
  refine Wp.rgn (K := K1) (s' := ⟨[(0, filt a), (1, filt b), (6, .iv (.int .i64 (besideD a b)))], [(1000, .buf 0 16 [])], 1384⟩) (fun n hn => by
    have e1 := hK1 n hn
    simp only [filt] at e1
    generalize evalF prog n = g at e1
    simp [evalRgn, Option.map_some, evalOps, step, wants, osem, M.run_bind, M.mapL, M.run, M.ok, M.fresh, M.write, M.look, M.lift, putD, Arb.set, ev, Arb.get, keepFr, bin, intBin, strBin, mk, params, cellsM, load, obRead, fadr, fld, isl, iarr, xarr, idx, len, valid, slc, bound, store, splice, nilc, un, eqs, eq0, evalFeet, footOf, M.foot, orderOk, apartAll, apart1, clash, meets, callM, fcallM, callee, fz1, fzC, fz, flat, flat1, flat0, flatI, Option.bind_some, putAll, M.bind, filt, e1]) ?_
  refine Wp.seq (Wp.seq ?_)
  unfold perfF
  cases hso : sole a b with
  | none =>
    rw [besideD_nonef hso]
    refine Wp.rgn (K := 0) (fun n _ => by simp [evalRgn, Option.map_some, evalOps, step, wants, osem, M.run_bind, M.mapL, M.run, M.ok, M.fresh, M.write, M.look, M.lift, putD, Arb.set, ev, Arb.get, keepFr, bin, intBin, strBin, mk, params, cellsM, load, obRead, fadr, fld, isl, iarr, xarr, idx, len, valid, slc, bound, store, splice, nilc, un, eqs, eq0, evalFeet, footOf, M.foot, orderOk, apartAll, apart1, clash, meets, callM, fcallM, callee, fz1, fzC, fz, flat, flat1, flat0, flatI, Option.bind_some, putAll, M.bind]; rfl) ?_
    refine Wp.cond rfl (Wp.seq ?_)
    refine Wp.rgn (K := 0) (fun n _ => by simp [evalRgn, Option.map_some, evalOps, step, wants, osem, M.run_bind, M.mapL, M.run, M.ok, M.fresh, M.write, M.look, M.lift, putD, Arb.set, ev, Arb.get, keepFr, bin, intBin, strBin, mk, params, cellsM, load, obRead, fadr, fld, isl, iarr, xarr, idx, len, valid, slc, bound, store, splice, nilc, un, eqs, eq0, evalFeet, footOf, M.foot, orderOk, apartAll, apart1, clash, meets, callM, fcallM, callee, fz1, fzC, fz, flat, flat1, flat0, flatI, Option.bind_some, putAll, M.bind]; rfl) ?_
    exact Wp.ret rfl
  | some q =>
    obtain ⟨x, y, i⟩ := q
    rw [besideD_some hso]
    obtain ⟨rfl, rfl, hx, hy, hi, -, -, -⟩ := sole_some hso
    have lx := right1_small hx hi
    have ly := right1_small hy hi
    have kx := ha x (by simp)
    have ky := hb y (by simp)
    have fx := right1_fine kx hx hi
    have fy := right1_fine ky hy hi
    simp only
    have hi0 : (i : Int) < 4 := by omega
    have hi1 : i * 4 ≤ 16 := by omega
    have hi2 : i * 4 + 4 ≤ 16 := by omega
    have hi3 : min 4 (16 - i * 4) = 4 := by omega
    have hi6 : 1 ≤ 16 - i * 4 := by omega
    have hi7 : min 1 (16 - (i * 4 + 1)) = 1 := by omega
    have hi8 : ¬ (i : Int) < 0 := by omega
    refine Wp.rgn (K := 0) (s' := ⟨[(0, filt [x]), (1, filt [y]), (6, .iv (.int .i64 i)), (13, .iv (.bool false))], [(1000, .buf 0 16 [])], 1512⟩) (fun n _ => by simp [evalRgn, Option.map_some, evalOps, step, wants, osem, M.run_bind, M.mapL, M.run, M.ok, M.fresh, M.write, M.look, M.lift, putD, Arb.set, ev, Arb.get, keepFr, bin, intBin, strBin, mk, params, cellsM, load, obRead, fadr, fld, isl, iarr, xarr, idx, len, valid, slc, bound, store, splice, nilc, un, eqs, eq0, evalFeet, footOf, M.foot, orderOk, apartAll, apart1, clash, meets, callM, fcallM, callee, fz1, fzC, fz, flat, flat1, flat0, flatI, Option.bind_some, putAll, M.bind, hi8]) ?_
    refine Wp.cond rfl (Wp.skip (Wp.seq ?_))
    obtain ⟨K2, hK2⟩ := p_orD D.h49 D.h107 D.h97 (x.get i) (y.get i) (by omega) (by omega) (kx.at hi).ri (ky.at hi).ri fx.s fy.s
    generalize hz : orS (x.get i) (y.get i) = z at hK2
    refine Wp.rgn (K := K2) (s' := ⟨[(0, filt [x]), (1, filt [y]), (6, .iv (.int .i64 i)), (7, .ref 2216 0 0 0)], [(1000, .buf 0 16 []), (2218, .buf 0 2 []), (2220, .buf 0 1 []), (2216, .cells [.iv (.bool z.a), .iv (.sl 2 (z.i.map rng)), .iv (.bool z.c), .iv (.sl 1 (z.s.map st1))])], 2344⟩) (fun n hn => by
      have e2 := hK2 n hn
      simp only [S.av] at e2
      generalize evalF prog n = g at e2
      simp [evalRgn, Option.map_some, evalOps, step, wants, osem, M.run_bind, M.mapL, M.run, M.ok, M.fresh, M.write, M.look, M.lift, putD, Arb.set, ev, Arb.get, keepFr, bin, intBin, strBin, mk, params, cellsM, load, obRead, fadr, fld, isl, iarr, xarr, idx, len, valid, slc, bound, store, splice, nilc, un, eqs, eq0, evalFeet, footOf, M.foot, orderOk, apartAll, apart1, clash, meets, callM, fcallM, callee, fz1, fzC, fz, flat, flat1, flat0, flatI, Option.bind_some, putAll, M.bind, filt, B.enc_len, B.enc_at x hi, B.enc_at y hi, hi0, hi1, hi2, hi3, e2]) ?_
    refine Wp.seq (Wp.seq ?_)
    obtain ⟨K3, hK3⟩ := p_smallS3 D.h106 z
    refine Wp.rgn (K := K3) (s' := ⟨[(0, filt [x]), (6, .iv (.int .i64 i)), (7, .ref 2216 0 0 0), (53, .iv (.bool (!smallS z || grew (x.get i) (y.get i) z)))], [(1000, .buf 0 16 []), (2218, .buf 0 2 []), (2220, .buf 0 1 []), (2216, .cells [.iv (.bool z.a), .iv (.sl 2 (z.i.map rng)), .iv (.bool z.c), .iv (.sl 1 (z.s.map st1))])], 4200⟩) (fun n hn => rgn_quiet' rfl (by
      have e3 := hK3 n hn
      simp only [S.av] at e3
      generalize evalF prog n = g at e3
      rw [grew_two]
      cases hsm : smallS z with
      | false => rw [hsm] at e3; simp [evalRgn, Option.map_some, evalOps, step, wants, osem, M.run_bind, M.mapL, M.run, M.ok, M.fresh, M.write, M.look, M.lift, putD, Arb.set, ev, Arb.get, keepFr, bin, intBin, strBin, mk, params, cellsM, load, obRead, fadr, fld, isl, iarr, xarr, idx, len, valid, slc, bound, store, splice, nilc, un, eqs, eq0, evalFeet, footOf, M.foot, orderOk, apartAll, apart1, clash, meets, callM, fcallM, callee, fz1, fzC, fz, flat, flat1, flat0, flatI, Option.bind_some, putAll, M.bind, filt, B.enc_len, B.enc_at1 x hi, B.enc_at1 y hi, hi0, hi1, hi2, hi3, hi6, hi7, e3]
      | true =>
        rw [hsm] at e3
        cases h1 : decide ((x.get i).i.length < z.i.length) <;> simp [evalRgn, Option.map_some, evalOps, step, wants, osem, M.run_bind, M.mapL, M.run, M.ok, M.fresh, M.write, M.look, M.lift, putD, Arb.set, ev, Arb.get, keepFr, bin, intBin, strBin, mk, params, cellsM, load, obRead, fadr, fld, isl, iarr, xarr, idx, len, valid, slc, bound, store, splice, nilc, un, eqs, eq0, evalFeet, footOf, M.foot, orderOk, apartAll, apart1, clash, meets, callM, fcallM, callee, fz1, fzC, fz, flat, flat1, flat0, flatI, Option.bind_some, putAll, M.bind, filt, B.enc_len, B.enc_at1 x hi, B.enc_at1 y hi, hi0, hi1, hi2, hi3, hi6, hi7, e3, h1])) ?_
    refine Wp.cond rfl ?_
    cases hg : !smallS z || grew (x.get i) (y.get i) z with
    | true =>
      refine Wp.seq ?_
      refine Wp.rgn (K := 0) (fun n _ => by simp [evalRgn, Option.map_some, evalOps, step, wants, osem, M.run_bind, M.mapL, M.run, M.ok, M.fresh, M.write, M.look, M.lift, putD, Arb.set, ev, Arb.get, keepFr, bin, intBin, strBin, mk, params, cellsM, load, obRead, fadr, fld, isl, iarr, xarr, idx, len, valid, slc, bound, store, splice, nilc, un, eqs, eq0, evalFeet, footOf, M.foot, orderOk, apartAll, apart1, clash, meets, callM, fcallM, callee, fz1, fzC, fz, flat, flat1, flat0, flatI, Option.bind_some, putAll, M.bind]; rfl) ?_
      exact Wp.ret rfl
    | false =>
      refine Wp.skip (Wp.seq ?_)
      refine Wp.rgn (K := 0) (fun n _ => by simp [evalRgn, Option.map_some, evalOps, step, wants, osem, M.run_bind, M.mapL, M.run, M.ok, M.fresh, M.write, M.look, M.lift, putD, Arb.set, ev, Arb.get, keepFr, bin, intBin, strBin, mk, params, cellsM, load, obRead, fadr, fld, isl, iarr, xarr, idx, len, valid, slc, bound, store, nilc, un, eqs, eq0, evalFeet, footOf, M.foot, orderOk, apartAll, apart1, clash, meets, callM, fcallM, callee, fz1, flat, flat1, flat0, flatI, Option.bind_some, putAll, M.bind, filt, B.enc_len, B.enc_take, B.enc_cs, B.cs_len, B.cs_nilc, B.put_all]; rfl) ?_
      refine Wp.seq ?_
      refine Wp.rgn (K := 0) (fun n _ => by
        simp [evalRgn, Option.map_some, evalOps, step, wants, osem, M.run_bind, M.mapL, M.run, M.ok, M.fresh, M.write, M.look, M.lift, putD, Arb.set, ev, Arb.get, keepFr, bin, intBin, strBin, mk, params, cellsM, load, obRead, fadr, fld, isl, iarr, xarr, idx, len, valid, slc, bound, store, nilc, un, eqs, eq0, evalFeet, footOf, M.foot, orderOk, apartAll, apart1, clash, meets, callM, fcallM, callee, fz1, flat, flat1, flat0, flatI, Option.bind_some, putAll, M.bind, B.cs_len, hi0, hi2, B.put_cs x hi z]
        rfl) ?_
      refine Wp.seq ?_
      refine Wp.rgn (K := 0) (fun n _ => by
        simp [evalRgn, Option.map_some, evalOps, step, wants, osem, M.run_bind, M.mapL, M.run, M.ok, M.fresh, M.write, M.look, M.lift, putD, Arb.set, ev, Arb.get, keepFr, bin, intBin, strBin, mk, params, cellsM, load, obRead, fadr, fld, isl, iarr, xarr, idx, len, valid, slc, bound, store, splice, nilc, un, eqs, eq0, evalFeet, footOf, M.foot, orderOk, apartAll, apart1, clash, meets, callM, fcallM, callee, fz1, flat, flat1, flat0, flatI, Option.bind_some, putAll, M.bind, B.cs_16, B.cs_len, B.cs_fzC, B.cs_fz, setAll]
        rfl) ?_
      exact Wp.ret rfl
end
end Arb

/-
  THE DOCUMENT'S HULL IS THE SAME.
-/
set_option linter.unusedSimpArgs false
namespace Arb
open Go

def hullDHp (s t : S) (rest : Hp) : Hp := [(1000, .buf 0 16 []), (2218, .buf 0 2 []), (2220, .buf 0 1 []), (2216, .cells [.iv (.bool s.a), .iv (.sl 2 (s.i.map rng)), .iv (.bool s.c), .iv (.sl 1 (s.s.map st1))]), (2282, .buf 0 2 []), (2284, .buf 0 1 []), (2280, .cells [.iv (.bool t.a), .iv (.sl 2 (t.i.map rng)), .iv (.bool t.c), .iv (.sl 1 (t.s.map st1))])] ++ rest

section
variable {prog : Nat → Option IFn}

set_option maxHeartbeats 16000000 in
theorem p_hullD (D : Doc prog) (a b : List B) (la : a.length ≤ maxLen) (lb : b.length ≤ maxLen) (ha : ∀ x ∈ a, x.ok) (hb : ∀ x ∈ b, x.ok) : Ans prog 93 [filt a, filt b] (.tup [filt (hullF a b).1, .iv (.int .u64 (hullF a b).2.1), .iv (.bool (hullF a b).2.2)]) := by
  obtain ⟨K1, hK1⟩ := p_besideD D.toIn6 D.h41 D.h102 D.h96 a b la lb ha hb
  refine Ans.of D.h93 rfl rfl (Wp.seq ?_)
  refine Wp.rgn (K := 0) (fun n _ => by simp [evalRgn, Option.map_some, evalOps, step, wants, osem, M.run_bind, M.mapL, M.run, M.ok, M.fresh, M.write, M.look, M.lift, putD, Arb.set, ev, Arb.get, keepFr, bin, intBin, strBin, mk, params, cellsM, load, obRead, fadr, fld, isl, iarr, xarr, idx, len, valid, slc, bound, store, splice, nilc, un, eqs, eq0, evalFeet, footOf, M.foot, orderOk, apartAll, apart1, clash, meets, callM, fcallM, callee, fz1, fzC, fz, flat, flat1, flat0, flatI, Option.bind_some, putAll, M.bind]; rfl) ?_
  refine Wp.seq ?_
  refine Wp.rgn (K := K1) (s' := ⟨[(0, filt a), (1, filt b), (7, .iv (.int .i64 (besideD a b)))], [(1000, .buf 0 16 [])], 1448⟩) (fun n hn => by
    have e1 := hK1 n hn
    simp only [filt] at e1
    generalize evalF prog n = g at e1
    simp [evalRgn, Option.map_some, evalOps, step, wants, osem, M.run_bind, M.mapL, M.run, M.ok, M.fresh, M.write, M.look, M.lift, putD, Arb.set, ev, Arb.get, keepFr, bin, intBin, strBin, mk, params, cellsM, load, obRead, fadr, fld, isl, iarr, xarr, idx, len, valid, slc, bound, store, splice, nilc, un, eqs, eq0, evalFeet, footOf, M.foot, orderOk, apartAll, apart1, clash, meets, callM, fcallM, callee, fz1, fzC, fz, flat, flat1, flat0, flatI, Option.bind_some, putAll, M.bind, filt, e1]) ?_
  refine Wp.seq (Wp.seq ?_)
  unfold hullF
  cases hso : sole a b with
  | none =>
    rw [besideD_nonef hso]
    refine Wp.rgn (K := 0) (fun n _ => by simp [evalRgn, Option.map_some, evalOps, step, wants, osem, M.run_bind, M.mapL, M.run, M.ok, M.fresh, M.write, M.look, M.lift, putD, Arb.set, ev, Arb.get, keepFr, bin, intBin, strBin, mk, params, cellsM, load, obRead, fadr, fld, isl, iarr, xarr, idx, len, valid, slc, bound, store, splice, nilc, un, eqs, eq0, evalFeet, footOf, M.foot, orderOk, apartAll, apart1, clash, meets, callM, fcallM, callee, fz1, fzC, fz, flat, flat1, flat0, flatI, Option.bind_some, putAll, M.bind]; rfl) ?_
    refine Wp.cond rfl (Wp.seq ?_)
    refine Wp.rgn (K := 0) (fun n _ => by simp [evalRgn, Option.map_some, evalOps, step, wants, osem, M.run_bind, M.mapL, M.run, M.ok, M.fresh, M.write, M.look, M.lift, putD, Arb.set, ev, Arb.get, keepFr, bin, intBin, strBin, mk, params, cellsM, load, obRead, fadr, fld, isl, iarr, xarr, idx, len, valid, slc, bound, store, splice, nilc, un, eqs, eq0, evalFeet, footOf, M.foot, orderOk, apartAll, apart1, clash, meets, callM, fcallM, callee, fz1, fzC, fz, flat, flat1, flat0, flatI, Option.bind_some, putAll, M.bind]; rfl) ?_
    exact Wp.ret rfl
  | some q =>
    obtain ⟨x, y, i⟩ := q
    rw [besideD_some hso]
    obtain ⟨rfl, rfl, hx, hy, hi, -, -, -⟩ := sole_some hso
    have lx := right1_small hx hi
    have ly := right1_small hy hi
    simp only
    have hi0 : (i : Int) < 4 := by omega
    have hi1 : i * 4 ≤ 16 := by omega
    have hi2 : i * 4 + 4 ≤ 16 := by omega
    have hi3 : min 4 (16 - i * 4) = 4 := by omega
    have hi8 : ¬ (i : Int) < 0 := by omega
    refine Wp.rgn (K := 0) (s' := ⟨[(0, filt [x]), (1, filt [y]), (7, .iv (.int .i64 i)), (20, .iv (.bool false))], [(1000, .buf 0 16 [])], 1576⟩) (fun n _ => by simp [evalRgn, Option.map_some, evalOps, step, wants, osem, M.run_bind, M.mapL, M.run, M.ok, M.fresh, M.write, M.look, M.lift, putD, Arb.set, ev, Arb.get, keepFr, bin, intBin, strBin, mk, params, cellsM, load, obRead, fadr, fld, isl, iarr, xarr, idx, len, valid, slc, bound, store, splice, nilc, un, eqs, eq0, evalFeet, footOf, M.foot, orderOk, apartAll, apart1, clash, meets, callM, fcallM, callee, fz1, fzC, fz, flat, flat1, flat0, flatI, Option.bind_some, putAll, M.bind, hi8]) ?_
    refine Wp.cond rfl (Wp.skip (Wp.seq ?_))
    generalize hs : x.get i = s at lx
    generalize ht : y.get i = t at ly
    refine Wp.rgn (K := 0) (s' := ⟨[(0, filt [x]), (7, .iv (.int .i64 i)), (8, .ref 2216 0 0 0), (9, .ref 2280 0 0 0)], hullDHp s t [], 2472⟩) (fun n hn => by
      simp [evalRgn, Option.map_some, evalOps, step, wants, osem, M.run_bind, M.mapL, M.run, M.ok, M.fresh, M.write, M.look, M.lift, putD, Arb.set, ev, Arb.get, keepFr, bin, intBin, strBin, mk, params, cellsM, load, obRead, fadr, fld, isl, iarr, xarr, idx, len, valid, slc, bound, store, splice, nilc, un, eqs, eq0, evalFeet, footOf, M.foot, orderOk, apartAll, apart1, clash, meets, callM, fcallM, callee, fz1, fzC, fz, flat, flat1, flat0, flatI, Option.bind_some, putAll, M.bind, filt, B.enc_len, B.enc_at x hi, B.enc_at y hi, hi0, hi1, hi2, hi3, hs, ht, hullDHp]) ?_
    refine Wp.seq (Wp.seq ?_)
    by_cases hn : s.i.length ≠ 1 ∨ t.i.length ≠ 1
    · rw [hull1_ne hn]
      refine Wp.rgn (K := 0) (s' := ⟨[(0, filt [x]), (7, .iv (.int .i64 i)), (8, .ref 2216 0 0 0), (9, .ref 2280 0 0 0), (40, .iv (.bool true))], hullDHp s t [], 3112⟩) (fun n _ => by
        cases h1 : ((s.i.length : Int) != 1) with
        | true => simp [evalRgn, Option.map_some, evalOps, step, wants, osem, M.run_bind, M.mapL, M.run, M.ok, M.fresh, M.write, M.look, M.lift, putD, Arb.set, ev, Arb.get, keepFr, bin, intBin, strBin, mk, params, cellsM, load, obRead, fadr, fld, isl, iarr, xarr, idx, len, valid, slc, bound, store, splice, nilc, un, eqs, eq0, evalFeet, footOf, M.foot, orderOk, apartAll, apart1, clash, meets, callM, fcallM, callee, fz1, fzC, fz, flat, flat1, flat0, flatI, Option.bind_some, putAll, M.bind, hullDHp, h1]
        | false =>
          have h2 : ((t.i.length : Int) != 1) = true := by simp at h1 hn ⊢; omega
          simp [evalRgn, Option.map_some, evalOps, step, wants, osem, M.run_bind, M.mapL, M.run, M.ok, M.fresh, M.write, M.look, M.lift, putD, Arb.set, ev, Arb.get, keepFr, bin, intBin, strBin, mk, params, cellsM, load, obRead, fadr, fld, isl, iarr, xarr, idx, len, valid, slc, bound, store, splice, nilc, un, eqs, eq0, evalFeet, footOf, M.foot, orderOk, apartAll, apart1, clash, meets, callM, fcallM, callee, fz1, fzC, fz, flat, flat1, flat0, flatI, Option.bind_some, putAll, M.bind, hullDHp, h1, h2]) ?_
      refine Wp.cond rfl (Wp.seq ?_)
      refine Wp.rgn (K := 0) (fun n _ => by simp [evalRgn, Option.map_some, evalOps, step, wants, osem, M.run_bind, M.mapL, M.run, M.ok, M.fresh, M.write, M.look, M.lift, putD, Arb.set, ev, Arb.get, keepFr, bin, intBin, strBin, mk, params, cellsM, load, obRead, fadr, fld, isl, iarr, xarr, idx, len, valid, slc, bound, store, splice, nilc, un, eqs, eq0, evalFeet, footOf, M.foot, orderOk, apartAll, apart1, clash, meets, callM, fcallM, callee, fz1, fzC, fz, flat, flat1, flat0, flatI, Option.bind_some, putAll, M.bind, hullDHp]; rfl) ?_
      exact Wp.ret rfl
    · obtain ⟨p, hp⟩ : ∃ p, s.i = [p] := List.length_eq_one_iff.1 (by omega)
      obtain ⟨q, hq⟩ : ∃ q, t.i = [q] := List.length_eq_one_iff.1 (by omega)
      have hh : hull1 x s t i = if !sameS s ⟨t.a, [p], t.c, t.s⟩ then ([], 0, false) else if decide (q.1 < p.1) then hull2 x s i q p else hull2 x s i p q := by unfold hull1; rw [hp, hq]
      rw [hh]
      refine Wp.rgn (K := 0) (s' := ⟨[(0, filt [x]), (7, .iv (.int .i64 i)), (8, .ref 2216 0 0 0), (9, .ref 2280 0 0 0), (40, .iv (.bool false))], hullDHp s t [], 3112⟩) (fun n _ => by simp [evalRgn, Option.map_some, evalOps, step, wants, osem, M.run_bind, M.mapL, M.run, M.ok, M.fresh, M.write, M.look, M.lift, putD, Arb.set, ev, Arb.get, keepFr, bin, intBin, strBin, mk, params, cellsM, load, obRead, fadr, fld, isl, iarr, xarr, idx, len, valid, slc, bound, store, splice, nilc, un, eqs, eq0, evalFeet, footOf, M.foot, orderOk, apartAll, apart1, clash, meets, callM, fcallM, callee, fz1, fzC, fz, flat, flat1, flat0, flatI, Option.bind_some, putAll, M.bind, hullDHp, hp, hq]) ?_
      refine Wp.cond rfl (Wp.skip (Wp.seq ?_))
      refine Wp.rgn (K := 0) (s' := ⟨[(0, filt [x]), (7, .iv (.int .i64 i)), (8, .ref 2216 0 0 0), (9, .ref 2280 0 0 0), (10, .ref 3176 0 0 0)], hullDHp s t [(3178, .buf 0 2 []), (3180, .buf 0 1 []), (3176, .cells [.iv (.bool t.a), .iv (.sl 2 [rng q]), .iv (.bool t.c), .iv (.sl 1 (t.s.map st1))])], 3304⟩) (fun n _ => by simp [evalRgn, Option.map_some, evalOps, step, wants, osem, M.run_bind, M.mapL, M.run, M.ok, M.fresh, M.write, M.look, M.lift, putD, Arb.set, ev, Arb.get, keepFr, bin, intBin, strBin, mk, params, cellsM, load, obRead, fadr, fld, isl, iarr, xarr, idx, len, valid, slc, bound, store, splice, nilc, un, eqs, eq0, evalFeet, footOf, M.foot, orderOk, apartAll, apart1, clash, meets, callM, fcallM, callee, fz1, fzC, fz, flat, flat1, flat0, flatI, Option.bind_some, putAll, M.bind, hullDHp, hp, hq]) ?_
      refine Wp.seq ?_
      refine Wp.rgn (K := 0) (s' := ⟨[(0, filt [x]), (7, .iv (.int .i64 i)), (8, .ref 2216 0 0 0), (9, .ref 2280 0 0 0), (10, .ref 3176 0 0 0)], hullDHp s t [(3178, .buf 0 2 []), (3180, .buf 0 1 []), (3176, .cells [.iv (.bool t.a), .iv (.sl 2 [rng p]), .iv (.bool t.c), .iv (.sl 1 (t.s.map st1))])], 3560⟩) (fun n _ => by simp [evalRgn, Option.map_some, evalOps, step, wants, osem, M.run_bind, M.mapL, M.run, M.ok, M.fresh, M.write, M.look, M.lift, putD, Arb.set, ev, Arb.get, keepFr, bin, intBin, strBin, mk, params, cellsM, load, obRead, fadr, fld, isl, iarr, xarr, idx, len, valid, slc, bound, store, splice, nilc, un, eqs, eq0, evalFeet, footOf, M.foot, orderOk, apartAll, apart1, clash, meets, callM, fcallM, callee, fz1, fzC, fz, flat, flat1, flat0, flatI, Option.bind_some, putAll, M.bind, hullDHp, hp, hq]) ?_
      refine Wp.seq (Wp.seq ?_)
      obtain ⟨K2, hK2⟩ := p_same3 D.h41 s ⟨t.a, [p], t.c, t.s⟩ (by unfold maxLen; omega) (by unfold maxLen; omega)
      refine Wp.rgn (K := K2) (s' := ⟨[(0, filt [x]), (7, .iv (.int .i64 i)), (8, .ref 2216 0 0 0), (9, .ref 2280 0 0 0), (48, .iv (.bool (!sameS s ⟨t.a, [p], t.c, t.s⟩)))], hullDHp s t [(3178, .buf 0 2 []), (3180, .buf 0 1 []), (3176, .cells [.iv (.bool t.a), .iv (.sl 2 [rng p]), .iv (.bool t.c), .iv (.sl 1 (t.s.map st1))])], 3816⟩) (fun n hn => by
        have e2 := hK2 n hn
        simp only [S.av, hp, List.map_cons, List.map_nil] at e2
        generalize evalF prog n = g at e2
        simp [evalRgn, Option.map_some, evalOps, step, wants, osem, M.run_bind, M.mapL, M.run, M.ok, M.fresh, M.write, M.look, M.lift, putD, Arb.set, ev, Arb.get, keepFr, bin, intBin, strBin, mk, params, cellsM, load, obRead, fadr, fld, isl, iarr, xarr, idx, len, valid, slc, bound, store, splice, nilc, un, eqs, eq0, evalFeet, footOf, M.foot, orderOk, apartAll, apart1, clash, meets, callM, fcallM, callee, fz1, fzC, fz, flat, flat1, flat0, flatI, Option.bind_some, putAll, M.bind, hullDHp, hp, hq, e2]) ?_
      refine Wp.cond rfl ?_
      cases hsm : sameS s ⟨t.a, [p], t.c, t.s⟩ with
      | false =>
        refine Wp.seq ?_
        refine Wp.rgn (K := 0) (fun n _ => by simp [evalRgn, Option.map_some, evalOps, step, wants, osem, M.run_bind, M.mapL, M.run, M.ok, M.fresh, M.write, M.look, M.lift, putD, Arb.set, ev, Arb.get, keepFr, bin, intBin, strBin, mk, params, cellsM, load, obRead, fadr, fld, isl, iarr, xarr, idx, len, valid, slc, bound, store, splice, nilc, un, eqs, eq0, evalFeet, footOf, M.foot, orderOk, apartAll, apart1, clash, meets, callM, fcallM, callee, fz1, fzC, fz, flat, flat1, flat0, flatI, Option.bind_some, putAll, M.bind, hullDHp]; rfl) ?_
        exact Wp.ret rfl
      | true =>
        refine Wp.skip (Wp.seq ?_)
        refine Wp.rgn (K := 0) (s' := ⟨[(0, filt [x]), (7, .iv (.int .i64 i)), (8, .ref 2216 0 0 0), (11, .ref 4328 0 0 0), (12, .ref 4392 0 0 0)], hullDHp s t [(3178, .buf 0 2 []), (3180, .buf 0 1 []), (3176, .cells [.iv (.bool t.a), .iv (.sl 2 [rng p]), .iv (.bool t.c), .iv (.sl 1 (t.s.map st1))]), (4328, .cells (cellsR p)), (4392, .cells (cellsR q))], 4584⟩) (fun n _ => by simp [evalRgn, Option.map_some, evalOps, step, wants, osem, M.run_bind, M.mapL, M.run, M.ok, M.fresh, M.write, M.look, M.lift, putD, Arb.set, ev, Arb.get, keepFr, bin, intBin, strBin, mk, params, cellsM, load, obRead, fadr, fld, isl, iarr, xarr, idx, len, valid, slc, bound, store, splice, nilc, un, eqs, eq0, evalFeet, footOf, M.foot, orderOk, apartAll, apart1, clash, meets, callM, fcallM, callee, fz1, fzC, fz, flat, flat1, flat0, flatI, Option.bind_some, putAll, M.bind, hullDHp, hp, hq, rng, cellsR]) ?_
        refine Wp.seq (Wp.seq ?_)
        refine Wp.rgn (K := 0) (s' := ⟨[(0, filt [x]), (7, .iv (.int .i64 i)), (8, .ref 2216 0 0 0), (11, .ref 4328 0 0 0), (12, .ref 4392 0 0 0), (61, .iv (.bool (decide (q.1 < p.1))))], hullDHp s t [(3178, .buf 0 2 []), (3180, .buf 0 1 []), (3176, .cells [.iv (.bool t.a), .iv (.sl 2 [rng p]), .iv (.bool t.c), .iv (.sl 1 (t.s.map st1))]), (4328, .cells (cellsR p)), (4392, .cells (cellsR q))], 4904⟩) (fun n _ => by simp [evalRgn, Option.map_some, evalOps, step, wants, osem, M.run_bind, M.mapL, M.run, M.ok, M.fresh, M.write, M.look, M.lift, putD, Arb.set, ev, Arb.get, keepFr, bin, intBin, strBin, mk, params, cellsM, load, obRead, fadr, fld, isl, iarr, xarr, idx, len, valid, slc, bound, store, splice, nilc, un, eqs, eq0, evalFeet, footOf, M.foot, orderOk, apartAll, apart1, clash, meets, callM, fcallM, callee, fz1, fzC, fz, flat, flat1, flat0, flatI, Option.bind_some, putAll, M.bind, hullDHp, hp, hq, cellsR]) ?_
        refine Wp.mono (Q := fun e s' => e = .norm ∧ ∃ p' q', (if decide (q.1 < p.1) then hull2 x s i q p else hull2 x s i p q) = hull2 x s i p' q' ∧ ∃ nx ex, (nx = 4904 ∧ ex = [(61, .iv (.bool false))] ∨ nx = 5160 ∧ ex = []) ∧
          s' = ⟨[(0, filt [x]), (7, .iv (.int .i64 i)), (8, .ref 2216 0 0 0), (11, .ref 4328 0 0 0), (12, .ref 4392 0 0 0)] ++ ex, hullDHp s t [(3178, .buf 0 2 []), (3180, .buf 0 1 []), (3176, .cells [.iv (.bool t.a), .iv (.sl 2 [rng p]), .iv (.bool t.c), .iv (.sl 1 (t.s.map st1))]), (4328, .cells (cellsR p')), (4392, .cells (cellsR q'))], nx⟩) ?_ ?_
        · refine Wp.cond rfl ?_
          cases hlt : decide (q.1 < p.1) with
          | true =>
            refine Wp.rgn (K := 0) (s' := ⟨[(0, filt [x]), (7, .iv (.int .i64 i)), (8, .ref 2216 0 0 0), (11, .ref 4328 0 0 0), (12, .ref 4392 0 0 0)], hullDHp s t [(3178, .buf 0 2 []), (3180, .buf 0 1 []), (3176, .cells [.iv (.bool t.a), .iv (.sl 2 [rng p]), .iv (.bool t.c), .iv (.sl 1 (t.s.map st1))]), (4328, .cells (cellsR q)), (4392, .cells (cellsR p))], 5160⟩) (fun n _ => by simp [evalRgn, Option.map_some, evalOps, step, wants, osem, M.run_bind, M.mapL, M.run, M.ok, M.fresh, M.write, M.look, M.lift, putD, Arb.set, ev, Arb.get, keepFr, bin, intBin, strBin, mk, params, cellsM, load, obRead, fadr, fld, isl, iarr, xarr, idx, len, valid, slc, bound, store, splice, nilc, un, eqs, eq0, evalFeet, footOf, M.foot, orderOk, apartAll, apart1, clash, meets, callM, fcallM, callee, fz1, fzC, fz, flat, flat1, flat0, flatI, Option.bind_some, putAll, M.bind, hullDHp, cellsR]) ⟨rfl, q, p, rfl, 5160, [], .inr ⟨rfl, rfl⟩, rfl⟩
          | false =>
            exact Wp.skip ⟨rfl, p, q, rfl, 4904, [(61, .iv (.bool false))], .inl ⟨rfl, rfl⟩, rfl⟩
        · rintro e s' ⟨rfl, p', q', hpq, nx, ex, hnx, rfl⟩
          simp only [Ex.then, Bool.not_true, Bool.false_eq_true, if_false]
          rw [hpq]
          obtain ⟨K3, hK3⟩ := p_betweenD D.h44 D.h112 p' q'
          unfold hull2
          rcases hnx with ⟨rfl, rfl⟩ | ⟨rfl, rfl⟩
          all_goals
            refine Wp.seq ?_
            refine Wp.rgn (K := K3) (s' := ⟨[(0, filt [x]), (7, .iv (.int .i64 i)), (8, .ref 2216 0 0 0), (11, .ref 4328 0 0 0), (12, .ref 4392 0 0 0), (13, .iv (.int .u64 (between p' q').1)), (14, .iv (.bool (between p' q').2))], hullDHp s t [(3178, .buf 0 2 []), (3180, .buf 0 1 []), (3176, .cells [.iv (.bool t.a), .iv (.sl 2 [rng p]), .iv (.bool t.c), .iv (.sl 1 (t.s.map st1))]), (4328, .cells (cellsR p')), (4392, .cells (cellsR q'))], _⟩) (fun n hn => by
              have e3 := hK3 n hn
              generalize evalF prog n = g at e3
              simp [evalRgn, Option.map_some, evalOps, step, wants, osem, M.run_bind, M.mapL, M.run, M.ok, M.fresh, M.write, M.look, M.lift, putD, Arb.set, ev, Arb.get, keepFr, bin, intBin, strBin, mk, params, cellsM, load, obRead, fadr, fld, isl, iarr, xarr, idx, len, valid, slc, bound, store, splice, nilc, un, eqs, eq0, evalFeet, footOf, M.foot, orderOk, apartAll, apart1, clash, meets, callM, fcallM, callee, fz1, fzC, fz, flat, flat1, flat0, flatI, Option.bind_some, putAll, M.bind, hullDHp, cellsR, e3]
              rfl) ?_
            refine Wp.seq (Wp.seq ?_)
            refine Wp.rgn (K := 0) (s' := ⟨[(0, filt [x]), (7, .iv (.int .i64 i)), (8, .ref 2216 0 0 0), (11, .ref 4328 0 0 0), (12, .ref 4392 0 0 0), (13, .iv (.int .u64 (between p' q').1)), (79, .iv (.bool (!(between p' q').2 || IntKind.wrap .i64 (p'.2 + 1) == q'.1)))], hullDHp s t [(3178, .buf 0 2 []), (3180, .buf 0 1 []), (3176, .cells [.iv (.bool t.a), .iv (.sl 2 [rng p]), .iv (.bool t.c), .iv (.sl 1 (t.s.map st1))]), (4328, .cells (cellsR p')), (4392, .cells (cellsR q'))], _⟩) (fun n hn => by
              cases hb : (between p' q').2 <;> simp [evalRgn, Option.map_some, evalOps, step, wants, osem, M.run_bind, M.mapL, M.run, M.ok, M.fresh, M.write, M.look, M.lift, putD, Arb.set, ev, Arb.get, keepFr, bin, intBin, strBin, mk, params, cellsM, load, obRead, fadr, fld, isl, iarr, xarr, idx, len, valid, slc, bound, store, splice, nilc, un, eqs, eq0, evalFeet, footOf, M.foot, orderOk, apartAll, apart1, clash, meets, callM, fcallM, callee, fz1, fzC, fz, flat, flat1, flat0, flatI, Option.bind_some, putAll, M.bind, hullDHp, cellsR] <;> rfl) ?_
            refine Wp.cond rfl ?_
            cases hc : !(between p' q').2 || IntKind.wrap .i64 (p'.2 + 1) == q'.1 with
            | true =>
              refine Wp.seq ?_
              refine Wp.rgn (K := 0) (fun n _ => by simp [evalRgn, Option.map_some, evalOps, step, wants, osem, M.run_bind, M.mapL, M.run, M.ok, M.fresh, M.write, M.look, M.lift, putD, Arb.set, ev, Arb.get, keepFr, bin, intBin, strBin, mk, params, cellsM, load, obRead, fadr, fld, isl, iarr, xarr, idx, len, valid, slc, bound, store, splice, nilc, un, eqs, eq0, evalFeet, footOf, M.foot, orderOk, apartAll, apart1, clash, meets, callM, fcallM, callee, fz1, fzC, fz, flat, flat1, flat0, flatI, Option.bind_some, putAll, M.bind, hullDHp]; rfl) ?_
              exact Wp.ret rfl
            | false =>
              refine Wp.skip (Wp.seq ?_)
              refine Wp.rgn (K := 0) (fun n _ => by simp [evalRgn, Option.map_some, evalOps, step, wants, osem, M.run_bind, M.mapL, M.run, M.ok, M.fresh, M.write, M.look, M.lift, putD, Arb.set, ev, Arb.get, keepFr, bin, intBin, strBin, mk, params, cellsM, load, obRead, fadr, fld, isl, iarr, xarr, idx, len, valid, slc, bound, store, nilc, un, eqs, eq0, evalFeet, footOf, M.foot, orderOk, apartAll, apart1, clash, meets, callM, fcallM, callee, fz1, flat, flat1, flat0, flatI, Option.bind_some, putAll, M.bind, hullDHp, filt, B.enc_len, B.enc_take, B.enc_cs, B.cs_len, B.cs_nilc, B.put_all]; rfl) ?_
              subst hs
              match i, hi with
              | 0, _ =>
                refine Wp.seq ?_
                refine Wp.rgn (K := 0) (fun n _ => by simp [evalRgn, Option.map_some, evalOps, step, wants, osem, M.run_bind, M.mapL, M.run, M.ok, M.fresh, M.write, M.look, M.lift, putD, Arb.set, ev, Arb.get, keepFr, bin, intBin, strBin, mk, params, cellsM, load, obRead, fadr, fld, isl, iarr, xarr, idx, len, valid, slc, bound, store, splice, nilc, un, eqs, eq0, evalFeet, footOf, M.foot, orderOk, apartAll, apart1, clash, meets, callM, fcallM, callee, fz1, fzC, fz, flat, flat1, flat0, flatI, Option.bind_some, putAll, M.bind, setAll, cellsR, B.cs, B.enc, S.enc]; rfl) ?_
                refine Wp.seq ?_
                refine Wp.rgn (K := 0) (fun n _ => by simp [evalRgn, Option.map_some, evalOps, step, wants, osem, M.run_bind, M.mapL, M.run, M.ok, M.fresh, M.write, M.look, M.lift, putD, Arb.set, ev, Arb.get, keepFr, bin, intBin, strBin, mk, params, cellsM, load, obRead, fadr, fld, isl, iarr, xarr, idx, len, valid, slc, bound, store, splice, nilc, un, eqs, eq0, evalFeet, footOf, M.foot, orderOk, apartAll, apart1, clash, meets, callM, fcallM, callee, fz1, fzC, fz, flat, flat1, flat0, flatI, Option.bind_some, putAll, M.bind, setAll]; rfl) ?_
                exact Wp.ret rfl
              | 1, _ =>
                refine Wp.seq ?_
                refine Wp.rgn (K := 0) (fun n _ => by simp [evalRgn, Option.map_some, evalOps, step, wants, osem, M.run_bind, M.mapL, M.run, M.ok, M.fresh, M.write, M.look, M.lift, putD, Arb.set, ev, Arb.get, keepFr, bin, intBin, strBin, mk, params, cellsM, load, obRead, fadr, fld, isl, iarr, xarr, idx, len, valid, slc, bound, store, splice, nilc, un, eqs, eq0, evalFeet, footOf, M.foot, orderOk, apartAll, apart1, clash, meets, callM, fcallM, callee, fz1, fzC, fz, flat, flat1, flat0, flatI, Option.bind_some, putAll, M.bind, setAll, cellsR, B.cs, B.enc, S.enc]; rfl) ?_
                refine Wp.seq ?_
                refine Wp.rgn (K := 0) (fun n _ => by simp [evalRgn, Option.map_some, evalOps, step, wants, osem, M.run_bind, M.mapL, M.run, M.ok, M.fresh, M.write, M.look, M.lift, putD, Arb.set, ev, Arb.get, keepFr, bin, intBin, strBin, mk, params, cellsM, load, obRead, fadr, fld, isl, iarr, xarr, idx, len, valid, slc, bound, store, splice, nilc, un, eqs, eq0, evalFeet, footOf, M.foot, orderOk, apartAll, apart1, clash, meets, callM, fcallM, callee, fz1, fzC, fz, flat, flat1, flat0, flatI, Option.bind_some, putAll, M.bind, setAll]; rfl) ?_
                exact Wp.ret rfl
              | 2, _ =>
                refine Wp.seq ?_
                refine Wp.rgn (K := 0) (fun n _ => by simp [evalRgn, Option.map_some, evalOps, step, wants, osem, M.run_bind, M.mapL, M.run, M.ok, M.fresh, M.write, M.look, M.lift, putD, Arb.set, ev, Arb.get, keepFr, bin, intBin, strBin, mk, params, cellsM, load, obRead, fadr, fld, isl, iarr, xarr, idx, len, valid, slc, bound, store, splice, nilc, un, eqs, eq0, evalFeet, footOf, M.foot, orderOk, apartAll, apart1, clash, meets, callM, fcallM, callee, fz1, fzC, fz, flat, flat1, flat0, flatI, Option.bind_some, putAll, M.bind, setAll, cellsR, B.cs, B.enc, S.enc]; rfl) ?_
                refine Wp.seq ?_
                refine Wp.rgn (K := 0) (fun n _ => by simp [evalRgn, Option.map_some, evalOps, step, wants, osem, M.run_bind, M.mapL, M.run, M.ok, M.fresh, M.write, M.look, M.lift, putD, Arb.set, ev, Arb.get, keepFr, bin, intBin, strBin, mk, params, cellsM, load, obRead, fadr, fld, isl, iarr, xarr, idx, len, valid, slc, bound, store, splice, nilc, un, eqs, eq0, evalFeet, footOf, M.foot, orderOk, apartAll, apart1, clash, meets, callM, fcallM, callee, fz1, fzC, fz, flat, flat1, flat0, flatI, Option.bind_some, putAll, M.bind, setAll]; rfl) ?_
                exact Wp.ret rfl
              | 3, _ =>
                refine Wp.seq ?_
                refine Wp.rgn (K := 0) (fun n _ => by simp [evalRgn, Option.map_some, evalOps, step, wants, osem, M.run_bind, M.mapL, M.run, M.ok, M.fresh, M.write, M.look, M.lift, putD, Arb.set, ev, Arb.get, keepFr, bin, intBin, strBin, mk, params, cellsM, load, obRead, fadr, fld, isl, iarr, xarr, idx, len, valid, slc, bound, store, splice, nilc, un, eqs, eq0, evalFeet, footOf, M.foot, orderOk, apartAll, apart1, clash, meets, callM, fcallM, callee, fz1, fzC, fz, flat, flat1, flat0, flatI, Option.bind_some, putAll, M.bind, setAll, cellsR, B.cs, B.enc, S.enc]; rfl) ?_
                refine Wp.seq ?_
                refine Wp.rgn (K := 0) (fun n _ => by simp [evalRgn, Option.map_some, evalOps, step, wants, osem, M.run_bind, M.mapL, M.run, M.ok, M.fresh, M.write, M.look, M.lift, putD, Arb.set, ev, Arb.get, keepFr, bin, intBin, strBin, mk, params, cellsM, load, obRead, fadr, fld, isl, iarr, xarr, idx, len, valid, slc, bound, store, splice, nilc, un, eqs, eq0, evalFeet, footOf, M.foot, orderOk, apartAll, apart1, clash, meets, callM, fcallM, callee, fz1, fzC, fz, flat, flat1, flat0, flatI, Option.bind_some, putAll, M.bind, setAll]; rfl) ?_
                exact Wp.ret rfl
end
end Arb

/-
  THE DOCUMENT'S ENTRY FOR TWO IS THE SAME.
-/
set_option linter.unusedSimpArgs false
namespace Arb
open Go

def finE (f : List B) (ok : Bool) (fr slack : Int) : List B × Int × Bool := if !ok || decide (slack < fr) || fr == 18446744073709551615 then ([], 0, false) else (f, fr, true)
theorem mxU_range {a b : Int} (ha : 0 ≤ a ∧ a ≤ far) (hb : 0 ≤ b ∧ b ≤ far) : 0 ≤ mxU a b ∧ mxU a b ≤ far := by unfold mxU; split <;> omega
theorem entries_perf {a b : List B} {sa sb slack : Int} (ha : 0 ≤ sa ∧ sa ≤ far) (hb : 0 ≤ sb ∧ sb ≤ far) (h : (perfF a b).2 = true) : entriesF a b sa sb slack = finE (perfF a b).1 true (mxU sa sb) slack := by
  unfold entriesF
  rw [if_pos h]
  unfold tryF perfH finE
  rw [h]
  have hr := mxU_range ha hb
  have : addG (mxU sa sb) 0 = mxU sa sb := by rw [addG_eq hr ⟨Int.le_refl _, by unfold far; omega⟩]; omega
  simp only [this]
theorem entries_hull {a b : List B} {sa sb slack : Int} (ka : ∀ x ∈ a, x.ok) (kb : ∀ x ∈ b, x.ok) (ha : 0 ≤ sa ∧ sa ≤ far) (hb : 0 ≤ sb ∧ sb ≤ far) (h : (perfF a b).2 = false) :
    entriesF a b sa sb slack = finE (hullF a b).1 (hullF a b).2.2 (addF (mxU sa sb) (hullF a b).2.1) slack := by
  unfold entriesF
  rw [if_neg (by rw [h]; decide)]
  have hr := mxU_range ha hb
  have hd : 0 ≤ (hullF a b).2.1 ∧ (hullF a b).2.1 ≤ far := by
    cases hh : (hullF a b).2.2 with
    | false => rw [hullF_no hh]; unfold far; decide
    | true => have := hullF_ge ka kb hh; unfold far; omega
  cases hh : (hullF a b).2.2 with
  | false => rw [if_neg (by decide)]; unfold finE; rfl
  | true =>
    rw [if_pos rfl]
    unfold tryF finE
    rw [hh, addF_eq hr hd, addG_eq hr hd]

section
variable {prog : Nat → Option IFn}

set_option maxHeartbeats 8000000 in
theorem p_entriesD (D : Doc prog) (a b : List B) (la : a.length ≤ maxLen) (lb : b.length ≤ maxLen) (ha : ∀ x ∈ a, x.ok) (hb : ∀ x ∈ b, x.ok) (ia ib sa sb slack : Int) (hsa : 0 ≤ sa ∧ sa ≤ far) (hsb : 0 ≤ sb ∧ sb ≤ far) :
    Ans prog 94 [.agg ((entry ia a sa).map .iv), .agg ((entry ib b sb).map .iv), .iv (.int .u64 slack)]
      (.tup [.agg ((entry 0 (entriesF a b sa sb slack).1 (entriesF a b sa sb slack).2.1).map .iv), .iv (.bool (entriesF a b sa sb slack).2.2)]) := by
  obtain ⟨K1, hK1⟩ := p_perfectD D a b la lb ha hb
  obtain ⟨K2, hK2⟩ := p_hullD D a b la lb ha hb
  obtain ⟨K3, hK3⟩ := p_add D.h28 (mxU sa sb) (hullF a b).2.1
  refine Ans.of D.h94 rfl rfl (Wp.seq ?_)
  refine Wp.rgn (K := 0) (fun n _ => by simp [evalRgn, Option.map_some, evalOps, step, wants, osem, M.run_bind, M.mapL, M.run, M.ok, M.fresh, M.write, M.look, M.lift, putD, Arb.set, ev, Arb.get, keepFr, bin, intBin, strBin, mk, params, cellsM, load, obRead, fadr, fld, isl, iarr, xarr, idx, len, valid, slc, bound, store, splice, nilc, un, eqs, eq0, evalFeet, footOf, M.foot, orderOk, apartAll, apart1, clash, meets, callM, fcallM, callee, fz1, fzC, fz, flat, flat1, flat0, flatI, Option.bind_some, putAll, M.bind, entry]; rfl) ?_
  refine Wp.seq ?_
  refine Wp.rgn (K := 0) (s' := ⟨[(2, .iv (.int .u64 slack)), (3, .ref 1000 0 0 0), (4, .ref 1064 0 0 0), (6, .ref 1128 0 0 0), (8, .iv (.int .u64 (mxU sa sb)))], [(1000, .cells [.iv (.int .i64 ia), filt a, .iv (.int .u64 sa)]), (1064, .cells [.iv (.int .i64 ib), filt b, .iv (.int .u64 sb)]), (1130, .buf 0 16 []), (1128, .cells [.iv (.int .i64 0), .own 1130 0 0 0, .iv (.int .u64 0)])], 1640⟩) (fun n _ => by simp [evalRgn, Option.map_some, evalOps, step, wants, osem, M.run_bind, M.mapL, M.run, M.ok, M.fresh, M.write, M.look, M.lift, putD, Arb.set, ev, Arb.get, keepFr, bin, intBin, strBin, mk, params, cellsM, load, obRead, fadr, fld, isl, iarr, xarr, idx, len, valid, slc, bound, store, splice, nilc, un, eqs, eq0, evalFeet, footOf, M.foot, orderOk, apartAll, apart1, clash, meets, callM, fcallM, callee, fz1, fzC, fz, flat, flat1, flat0, flatI, Option.bind_some, putAll, M.bind, mxI, mxU, filt]) ?_
  refine Wp.seq ?_
  refine Wp.rgn (K := K1) (s' := ⟨[(2, .iv (.int .u64 slack)), (3, .ref 1000 0 0 0), (4, .ref 1064 0 0 0), (6, .ref 1128 0 0 0), (8, .iv (.int .u64 (mxU sa sb))), (9, filt (perfF a b).1), (10, .iv (.bool (perfF a b).2))], [(1000, .cells [.iv (.int .i64 ia), filt a, .iv (.int .u64 sa)]), (1064, .cells [.iv (.int .i64 ib), filt b, .iv (.int .u64 sb)]), (1130, .buf 0 16 []), (1128, .cells [.iv (.int .i64 0), .own 1130 0 0 0, .iv (.int .u64 0)])], 2280⟩) (fun n hn => by
    have e1 := hK1 n hn
    simp only [filt] at e1
    generalize evalF prog n = g at e1
    simp [evalRgn, Option.map_some, evalOps, step, wants, osem, M.run_bind, M.mapL, M.run, M.ok, M.fresh, M.write, M.look, M.lift, putD, Arb.set, ev, Arb.get, keepFr, bin, intBin, strBin, mk, params, cellsM, load, obRead, fadr, fld, isl, iarr, xarr, idx, len, valid, slc, bound, store, splice, nilc, un, eqs, eq0, evalFeet, footOf, M.foot, orderOk, apartAll, apart1, clash, meets, callM, fcallM, callee, fz1, fzC, fz, flat, flat1, flat0, flatI, Option.bind_some, putAll, M.bind, filt, e1]) ?_
  refine Wp.seq (Wp.seq ?_)
  refine Wp.rgn (K := 0) (fun n _ => by simp [evalRgn, Option.map_some, evalOps, step, wants, osem, M.run_bind, M.mapL, M.run, M.ok, M.fresh, M.write, M.look, M.lift, putD, Arb.set, ev, Arb.get, keepFr, bin, intBin, strBin, mk, params, cellsM, load, obRead, fadr, fld, isl, iarr, xarr, idx, len, valid, slc, bound, store, splice, nilc, un, eqs, eq0, evalFeet, footOf, M.foot, orderOk, apartAll, apart1, clash, meets, callM, fcallM, callee, fz1, fzC, fz, flat, flat1, flat0, flatI, Option.bind_some, putAll, M.bind]; rfl) ?_
  refine Wp.mono (Q := fun e s' => e = .norm ∧ ∃ f ok fr' nx fm, entriesF a b sa sb slack = finE f ok fr' slack ∧
      (nx = 2408 ∧ fm = [(2, .iv (.int .u64 slack)), (3, .ref 1000 0 0 0), (4, .ref 1064 0 0 0), (6, .ref 1128 0 0 0), (8, .iv (.int .u64 fr')), (9, filt f), (10, .iv (.bool ok)), (26, .iv (.bool false))] ∨
       nx = 3496 ∧ fm = [(2, .iv (.int .u64 slack)), (6, .ref 1128 0 0 0), (8, .iv (.int .u64 fr')), (9, filt f), (10, .iv (.bool ok))]) ∧
      s' = ⟨fm, [(1000, .cells [.iv (.int .i64 ia), filt a, .iv (.int .u64 sa)]), (1064, .cells [.iv (.int .i64 ib), filt b, .iv (.int .u64 sb)]), (1130, .buf 0 16 []), (1128, .cells [.iv (.int .i64 0), .own 1130 0 0 0, .iv (.int .u64 0)])], nx⟩) ?_ ?_
  · refine Wp.cond rfl ?_
    cases hp : (perfF a b).2 with
    | true =>
      exact Wp.skip ⟨rfl, (perfF a b).1, true, mxU sa sb, 2408, _, entries_perf hsa hsb hp, .inl ⟨rfl, rfl⟩, rfl⟩
    | false =>
      refine Wp.seq ?_
      refine Wp.rgn (K := 0) (fun n _ => by simp [evalRgn, Option.map_some, evalOps, step, wants, osem, M.run_bind, M.mapL, M.run, M.ok, M.fresh, M.write, M.look, M.lift, putD, Arb.set, ev, Arb.get, keepFr, bin, intBin, strBin, mk, params, cellsM, load, obRead, fadr, fld, isl, iarr, xarr, idx, len, valid, slc, bound, store, splice, nilc, un, eqs, eq0, evalFeet, footOf, M.foot, orderOk, apartAll, apart1, clash, meets, callM, fcallM, callee, fz1, fzC, fz, flat, flat1, flat0, flatI, Option.bind_some, putAll, M.bind]; rfl) ?_
      refine Wp.seq ?_
      refine Wp.rgn (K := K2) (s' := ⟨[(2, .iv (.int .u64 slack)), (6, .ref 1128 0 0 0), (8, .iv (.int .u64 (mxU sa sb))), (9, filt (hullF a b).1), (10, .iv (.bool (hullF a b).2.2)), (11, .iv (.int .u64 (hullF a b).2.1))], [(1000, .cells [.iv (.int .i64 ia), filt a, .iv (.int .u64 sa)]), (1064, .cells [.iv (.int .i64 ib), filt b, .iv (.int .u64 sb)]), (1130, .buf 0 16 []), (1128, .cells [.iv (.int .i64 0), .own 1130 0 0 0, .iv (.int .u64 0)])], 3240⟩) (fun n hn => by
        have e1 := hK2 n hn
        simp only [filt] at e1
        generalize evalF prog n = g at e1
        simp [evalRgn, Option.map_some, evalOps, step, wants, osem, M.run_bind, M.mapL, M.run, M.ok, M.fresh, M.write, M.look, M.lift, putD, Arb.set, ev, Arb.get, keepFr, bin, intBin, strBin, mk, params, cellsM, load, obRead, fadr, fld, isl, iarr, xarr, idx, len, valid, slc, bound, store, splice, nilc, un, eqs, eq0, evalFeet, footOf, M.foot, orderOk, apartAll, apart1, clash, meets, callM, fcallM, callee, fz1, fzC, fz, flat, flat1, flat0, flatI, Option.bind_some, putAll, M.bind, filt, e1]) ?_
      refine Wp.rgn (K := K3) (s' := ⟨[(2, .iv (.int .u64 slack)), (6, .ref 1128 0 0 0), (8, .iv (.int .u64 (addF (mxU sa sb) (hullF a b).2.1))), (9, filt (hullF a b).1), (10, .iv (.bool (hullF a b).2.2))], [(1000, .cells [.iv (.int .i64 ia), filt a, .iv (.int .u64 sa)]), (1064, .cells [.iv (.int .i64 ib), filt b, .iv (.int .u64 sb)]), (1130, .buf 0 16 []), (1128, .cells [.iv (.int .i64 0), .own 1130 0 0 0, .iv (.int .u64 0)])], 3496⟩) (fun n hn => by
        have e1 := hK3 n hn
        generalize evalF prog n = g at e1
        simp [evalRgn, Option.map_some, evalOps, step, wants, osem, M.run_bind, M.mapL, M.run, M.ok, M.fresh, M.write, M.look, M.lift, putD, Arb.set, ev, Arb.get, keepFr, bin, intBin, strBin, mk, params, cellsM, load, obRead, fadr, fld, isl, iarr, xarr, idx, len, valid, slc, bound, store, splice, nilc, un, eqs, eq0, evalFeet, footOf, M.foot, orderOk, apartAll, apart1, clash, meets, callM, fcallM, callee, fz1, fzC, fz, flat, flat1, flat0, flatI, Option.bind_some, putAll, M.bind, filt, e1]) ?_
      exact ⟨rfl, _, _, _, 3496, _, entries_hull ha hb hsa hsb hp, .inr ⟨rfl, rfl⟩, rfl⟩
  · rintro e s' ⟨rfl, f, ok, fr', nx, fm, he, hfm, rfl⟩
    simp only [Ex.then]
    rw [he]
    unfold finE
    rcases hfm with ⟨rfl, rfl⟩ | ⟨rfl, rfl⟩
    all_goals
      refine Wp.seq (Wp.seq ?_)
      refine Wp.rgn (K := 0) (s' := ⟨[(6, .ref 1128 0 0 0), (8, .iv (.int .u64 fr')), (9, filt f), (49, .iv (.bool (!ok || decide (slack < fr') || fr' == 18446744073709551615)))], [(1000, .cells [.iv (.int .i64 ia), filt a, .iv (.int .u64 sa)]), (1064, .cells [.iv (.int .i64 ib), filt b, .iv (.int .u64 sb)]), (1130, .buf 0 16 []), (1128, .cells [.iv (.int .i64 0), .own 1130 0 0 0, .iv (.int .u64 0)])], _⟩) (fun n hn => by
        cases h1 : ok <;> cases h2 : decide (slack < fr') <;> simp [evalRgn, Option.map_some, evalOps, step, wants, osem, M.run_bind, M.mapL, M.run, M.ok, M.fresh, M.write, M.look, M.lift, putD, Arb.set, ev, Arb.get, keepFr, bin, intBin, strBin, mk, params, cellsM, load, obRead, fadr, fld, isl, iarr, xarr, idx, len, valid, slc, bound, store, splice, nilc, un, eqs, eq0, evalFeet, footOf, M.foot, orderOk, apartAll, apart1, clash, meets, callM, fcallM, callee, fz1, fzC, fz, flat, flat1, flat0, flatI, Option.bind_some, putAll, M.bind, filt, h1, h2] <;> rfl) ?_
      refine Wp.cond rfl ?_
      cases hc : !ok || decide (slack < fr') || fr' == 18446744073709551615 with
      | true =>
        refine Wp.seq ?_
        refine Wp.rgn (K := 0) (fun n _ => by simp [evalRgn, Option.map_some, evalOps, step, wants, osem, M.run_bind, M.mapL, M.run, M.ok, M.fresh, M.write, M.look, M.lift, putD, Arb.set, ev, Arb.get, keepFr, bin, intBin, strBin, mk, params, cellsM, load, obRead, fadr, fld, isl, iarr, xarr, idx, len, valid, slc, bound, store, splice, nilc, un, eqs, eq0, evalFeet, footOf, M.foot, orderOk, apartAll, apart1, clash, meets, callM, fcallM, callee, fz1, fzC, fz, flat, flat1, flat0, flatI, Option.bind_some, putAll, M.bind, filt]; rfl) ?_
        exact Wp.ret rfl
      | false =>
        refine Wp.skip (Wp.seq ?_)
        refine Wp.rgn (K := 0) (fun n _ => by simp [evalRgn, Option.map_some, evalOps, step, wants, osem, M.run_bind, M.mapL, M.run, M.ok, M.fresh, M.write, M.look, M.lift, putD, Arb.set, ev, Arb.get, keepFr, bin, intBin, strBin, mk, params, cellsM, load, obRead, fadr, fld, isl, iarr, xarr, idx, len, valid, slc, bound, store, splice, nilc, un, eqs, eq0, evalFeet, footOf, M.foot, orderOk, apartAll, apart1, clash, meets, callM, fcallM, callee, fz1, fzC, fz, flat, flat1, flat0, flatI, Option.bind_some, putAll, M.bind, filt]; rfl) ?_
        exact Wp.ret rfl
end
end Arb

/-
  THE DOCUMENT'S FUNCTIONS ARE THE PROGRAM'S.
-/
set_option linter.unusedSimpArgs false
namespace Arb
open Go

theorem in6 : In6 (get Tied.fns) := ⟨⟨rfl, rfl, rfl, rfl, rfl, rfl, rfl, rfl⟩, ⟨rfl, rfl, rfl, rfl⟩, rfl, rfl, rfl, rfl, rfl, rfl⟩
theorem doc : Doc (get Tied.fns) := ⟨in6, rfl, rfl, rfl, rfl, rfl, rfl, rfl, rfl, rfl, rfl, rfl⟩
end Arb

/-
  MergeTells: THE WALK.
-/
set_option linter.unusedSimpArgs false
namespace Arb
open Go

section
variable {prog : Nat → Option IFn}

end
end Arb
