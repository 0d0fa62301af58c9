/-
  OPERATIONS THAT WRITE NOTHING: a region of these alone is the same in every order.
-/
import Derived.IntWalk
import Derived.KernelRfl
import Derived.Test.YtngjdhmpcgifbaaGreatArbA
import Derived.Test.YtngjdhmpcgifbaaGreatArbB
import Derived.Test.YtngjdhmpcgifbaaGreatArbC
import Derived.Test.YtngjdhmpcgifbaaGreatArbD
import Derived.Test.YtngjdhmpcgifbaaGreatArbE
import Derived.Test.YtngjdhmpcgifbaaGreatArbF
import Derived.Test.YtngjdhmpcgifbaaGreatArbG
import Derived.Test.YtngjdhmpcgifbaaGreatArbH
import Derived.Test.YtngjdhmpcgifbaaGreatArbI
import Derived.Test.YtngjdhmpcgifbaaGreatArbJ
namespace Arb
open Go

def NP {α : Type} (m : M α) : Prop := ∀ h, (m.foot h).2 = []
theorem NP.ret {α : Type} (a : α) : NP (M.ret a) := fun _ => rfl
theorem NP.fail {α : Type} : NP (M.fail : M α) := fun _ => rfl
theorem NP.bind {α β : Type} {m : M α} {f : α → M β} (h : NP m) (hf : ∀ a, NP (f a)) : NP (m.bind f) := by
  intro g
  rw [M.foot_bind]
  cases hr : m.run g with
  | none => exact h g
  | some p => simp [h g, hf p.1 p.2]
theorem NP.ok (b : Bool) : NP (M.ok b) := by cases b <;> exact fun _ => rfl
theorem NP.lift {α : Type} (x : Option α) : NP (M.lift x) := by cases x <;> exact fun _ => rfl
theorem NP.look (id : Nat) : NP (M.look id) := by
  intro h
  simp only [M.look, M.foot]
  cases get h id <;> rfl
theorem NP.mapL {α β : Type} {f : α → M β} (hf : ∀ a, NP (f a)) : ∀ l : List α, NP (M.mapL f l)
  | [] => .ret _
  | x :: r => .bind (hf x) fun _ => .bind (NP.mapL hf r) fun _ => .ret _

theorem NP.fz : ∀ (n : Nat) (a : AV), NP (fz false n a)
  | 0, a => .fail
  | n + 1, a => by
    have ih := NP.fz n
    unfold Arb.fz
    cases a with
    | iv x => cases x <;> exact .ret _
    | own id o m ver =>
      refine .bind (.look id) fun ob => ?_
      cases ob with
      | cells cs => exact .fail
      | buf v e es => exact .bind (.ok _) fun _ => .ret _
      | imm v e es => exact .bind (.ok _) fun _ => .ret _
      | map _ => exact .fail
    | ref id ver i j =>
      refine .bind (.look id) fun ob => ?_
      cases ob with
      | cells cs => exact .bind (.ok _) fun _ => .bind (.mapL ih _) fun _ => .ret _
      | buf v e es => exact .bind (.ok _) fun _ => .bind (.lift _) fun _ => .ret _
      | imm v e es => exact .bind (.ok _) fun _ => .bind (.lift _) fun _ => .ret _
      | map _ => exact .fail
    | clo f caps => exact .bind (.mapL ih _) fun _ => .ret _
    | undef => exact .fail
    | agg cs => exact .fail
    | tup vs => exact .fail
theorem NP.fzC (a : AV) : NP (fzC false a) := .bind (NP.fz 8 a) fun _ => .ret _
theorem NP.fz1 (a : AV) : NP (fz1 false a) := by
  cases a with
  | agg cs => exact .bind (.mapL NP.fzC _) fun _ => .ret _
  | iv x => exact NP.fzC _
  | own id o n v => exact NP.fzC _
  | ref id v i j => exact NP.fzC _
  | clo f c => exact NP.fzC _
  | undef => exact NP.fzC _
  | tup vs => exact NP.fzC _

theorem NP.mk (agg : Bool) (l : List AV) : NP (mk agg l) := by
  unfold Arb.mk
  cases agg
  · match l with
    | [] => exact .fail
    | [x] => exact .ret _
    | _ :: _ :: _ => exact .fail
  · exact .ret _
theorem NP.load (agg : Bool) (sz : Nat) (a : AV) : NP (load agg sz a) := by
  unfold Arb.load
  split
  · exact .bind (.look _) fun o => .bind (.lift _) fun _ => .bind (.ok _) fun _ => .mk _ _
  · exact .bind (.ok _) fun _ => .mk _ _
  · exact .fail
theorem NP.idx (a : AV) : NP (idx a) := by unfold Arb.idx; split <;> first | exact .ret _ | exact .fail
theorem NP.bound (y : Nat) (a : Option AV) : NP (bound y a) := by unfold Arb.bound; split <;> first | exact .ret _ | exact .fail | exact .bind (.ok _) fun _ => .ret _
theorem NP.fld (agg : Bool) (off sz : Nat) (a : AV) : NP (fld agg off sz a) := by
  unfold Arb.fld
  split
  · exact .bind (.ok _) fun _ => .mk _ _
  · exact .fail

end Arb

/-
  THE SHAPES OF WHAT THE LAWS TAKE.
-/
namespace Arb
open Go

def shSet : List Sh := [.bool, .sl [.int .i64, .int .i64], .bool, .sl [.str]]
end Arb

/-
  THE LAWS' DATA, as plain lists.
-/
set_option linter.unusedSimpArgs false
namespace Arb
open Go

structure S where
  a : Bool
  i : List (Int × Int)
  c : Bool
  s : List ByteArray

def rng (p : Int × Int) : List IV := [.int .i64 p.1, .int .i64 p.2]
def st1 (s : ByteArray) : List IV := [.str s]
def S.enc (x : S) : List IV := [.bool x.a, .sl 2 (x.i.map rng), .bool x.c, .sl 1 (x.s.map st1)]
def S.av (x : S) : AV := .agg [.iv (.bool x.a), .iv (.sl 2 (x.i.map rng)), .iv (.bool x.c), .iv (.sl 1 (x.s.map st1))]
structure B where
  s0 : S
  s1 : S
  s2 : S
  s3 : S
def B.enc (b : B) : List IV := b.s0.enc ++ (b.s1.enc ++ (b.s2.enc ++ b.s3.enc))
def sets (l : List S) : AV := .iv (.sl 4 (l.map S.enc))

theorem wrap_succ {k N : Nat} (h : k < N) (hN : N ≤ maxLen) : IntKind.i64.wrap ((k : Int) + 1) = (k : Int) + 1 := IntWalk.i64_in _ (by unfold maxLen at hN; omega)
theorem take_succ_all {α : Type} {l : List α} {i : Nat} {x : α} {f : α → Bool} (hx : l[i]? = some x) : (l.take (i + 1)).all f = ((l.take i).all f && f x) := by
  rw [List.take_add_one, hx]; simp
theorem all_false {α : Type} {l : List α} {i : Nat} {x : α} {f : α → Bool} (hx : l[i]? = some x) (h : f x = false) : l.all f = false := by
  rw [List.all_eq_false]
  exact ⟨x, List.mem_of_getElem? hx, by simp [h]⟩

theorem nrm_iv (n0 : Nat) (h : Hp) (x : IV) : nrm n0 h 8 (.iv x) = .iv x := rfl
theorem nrm_ivs (n0 : Nat) (h : Hp) : ∀ l : List IV, (l.map AV.iv).map (nrm n0 h 8) = l.map .iv
  | [] => rfl
  | x :: r => by rw [List.map_cons, List.map_cons, nrm_iv, nrm_ivs n0 h r]
theorem Wp.range {prog : Nat → Option IFn} {keep : List Nat} {b : IC} {s : St} {Q : Ex → St → Prop} (N : Nat) (σ : Nat → St) (G : Nat → Prop) (h0 : ({ s with fr := keepFr keep s.fr } : St) = σ 0) (g0 : G 0)
    (round : ∀ i, i < N → G i → Wp prog b (σ i) (Ex.then (fun s2 => again keep s.nx s2 = σ (i + 1) ∧ G (i + 1)) Q)) (stop : G N → Wp prog b (σ N) (Ex.then (fun _ => False) Q)) : Wp prog (.loop keep b) s Q := by
  refine Wp.loop (fun m s1 => ∃ i, i + m = N ∧ s1 = σ i ∧ G i) (m := N) ⟨0, by omega, h0, g0⟩ ?_
  rintro m s1 ⟨i, hi, rfl, hg⟩
  cases m with
  | zero =>
    obtain rfl : i = N := by omega
    refine (stop hg).mono fun e s2 h => ?_
    cases e with
    | norm => exact h.elim
    | exit j => exact h
    | ret => exact h
  | succ m =>
    refine (round i (by omega) hg).mono fun e s2 h => ?_
    cases e with
    | norm => exact ⟨m, by omega, i + 1, by omega, h.1, h.2⟩
    | exit j => exact h
    | ret => exact h
end Arb

/-
  ROWS THAT ARE THE SAME; SETS THAT ARE; SMALL ONES; EMPTY ONES.
-/
set_option linter.unusedSimpArgs false
namespace Arb
open Go

section
variable {prog : Nat → Option IFn}

end
end Arb

/-
  BOXES: SMALL ONES, EMPTY ONES.
-/
set_option linter.unusedSimpArgs false
namespace Arb
open Go

def B.get (b : B) : Nat → S
  | 0 => b.s0
  | 1 => b.s1
  | 2 => b.s2
  | _ => b.s3
def B.cs (b : B) : List AV := b.enc.map .iv
def B.av (b : B) : AV := .agg b.cs
theorem B.cs_len (b : B) : b.cs.length = 16 := rfl
theorem B.cs_nrm (b : B) (n0 : Nat) (h : Hp) : b.cs.map (nrm n0 h 8) = b.cs := nrm_ivs n0 h b.enc
def notNil : IV → Bool
  | .nsl _ => false
  | _ => true
theorem nilc_plain : ∀ (l : List IV) (s : Nat), l.all notNil = true → nilc s (l.map .iv) = .ret (l.map .iv)
  | [], s, _ => by simp [nilc]
  | x :: r, s, h => by
    simp only [List.all_cons, Bool.and_eq_true] at h
    have ih := nilc_plain r (s + 1) h.2
    cases x with
    | nsl e => simp [notNil] at h
    | _ => simp only [List.map_cons, nilc, ih, M.bind]
theorem fzC_plain (w : Bool) : ∀ (l : List IV), l.all notNil = true → M.mapL (fzC w) (l.map .iv) = .ret (l.map .iv)
  | [], _ => by simp [M.mapL]
  | x :: r, h => by
    simp only [List.all_cons, Bool.and_eq_true] at h
    have ih := fzC_plain w r h.2
    cases x with
    | nsl e => simp [notNil] at h
    | _ => rw [List.map_cons, M.mapL, ih]; rfl
theorem B.enc_all (b : B) : b.enc.all notNil = true := by simp [B.enc, S.enc, notNil]
theorem B.cs_fzC (b : B) (w : Bool) : M.mapL (fzC w) b.cs = .ret b.cs := fzC_plain w b.enc b.enc_all
theorem B.cs_nilc (b : B) (s : Nat) : nilc s b.cs = .ret b.cs := nilc_plain b.enc s (by simp [B.enc, S.enc, notNil])
section
variable {prog : Nat → Option IFn}

end
end Arb

/-
  RIGHT SETS.
-/
set_option linter.unusedSimpArgs false
namespace Arb
open Go

def S.cs (x : S) : List AV := x.enc.map .iv
theorem S.cs_nrm (x : S) (n0 : Nat) (h : Hp) : x.cs.map (nrm n0 h 8) = x.cs := nrm_ivs n0 h x.enc
section
variable {prog : Nat → Option IFn}

end
end Arb

/-
  ONE BOX: TIDY, RIGHT.
-/
set_option linter.unusedSimpArgs false
namespace Arb
open Go

theorem B.enc_len (b : B) : b.enc.length = 16 := rfl
section
variable {prog : Nat → Option IFn}

end
end Arb

/-
  IN HOW MANY ATTRIBUTES TWO BOXES DIFFER.
-/
set_option linter.unusedSimpArgs false
namespace Arb
open Go

section
variable {prog : Nat → Option IFn}

end
end Arb

/-
  IN WHICH ATTRIBUTE TWO FILTERS DIFFER ALONE.
-/
set_option linter.unusedSimpArgs false
namespace Arb
open Go

def B.fits (b : B) : Prop := ∀ i, i < 4 → (b.get i).i.length ≤ maxLen ∧ (b.get i).s.length ≤ maxLen

section
variable {prog : Nat → Option IFn}
end
end Arb

/-
  SMALL FUNCTIONS.
-/
set_option linter.unusedSimpArgs false
namespace Arb
open Go

section
variable {prog : Nat → Option IFn}

def far : Int := 18446744073709551615
/-! ### gap.Add, set.Small, box.With .. -/
end
end Arb

/-
  COMPARING; DISTANCES.
-/
set_option linter.unusedSimpArgs false
namespace Arb
open Go

section
variable {prog : Nat → Option IFn}

end
end Arb

/-
  A BOX WITH ANOTHER SET.
-/
set_option linter.unusedSimpArgs false
namespace Arb
open Go

def B.put (b : B) (i : Nat) (x : S) : B :=
  match i with
  | 0 => ⟨x, b.s1, b.s2, b.s3⟩
  | 1 => ⟨b.s0, x, b.s2, b.s3⟩
  | 2 => ⟨b.s0, b.s1, x, b.s3⟩
  | _ => ⟨b.s0, b.s1, b.s2, x⟩
section
variable {prog : Nat → Option IFn}

end
end Arb

/-
  THE DOCUMENT's 'SAME', OF SETS.
-/
set_option linter.unusedSimpArgs false
namespace Arb
open Go

section
variable {prog : Nat → Option IFn}

end
end Arb

/-
  THE DOCUMENT's 'SAME', OF BOXES AND OF FILTERS.
-/
set_option linter.unusedSimpArgs false
namespace Arb
open Go

section
variable {prog : Nat → Option IFn}

end
end Arb

/-
  STRINGS IN LISTS.
-/
set_option linter.unusedSimpArgs false
namespace Arb
open Go

section
variable {prog : Nat → Option IFn}

end
end Arb

/-
  THOSE OF A LIST THAT ARE, OR AREN'T, IN ANOTHER ONE.
-/
set_option linter.unusedSimpArgs false
namespace Arb
open Go

section
variable {prog : Nat → Option IFn}

end
end Arb

/-
  HOW MANY BITS: some number.
-/
set_option linter.unusedSimpArgs false
namespace Arb
open Go

section
variable {prog : Nat → Option IFn}

end
end Arb

/-
  SORTING BY INSERTION: ranges.
-/
set_option linter.unusedSimpArgs false
namespace Arb
open Go

section
variable {α : Type} (lt : α → α → Bool)
end
section
variable {prog : Nat → Option IFn}

end
end Arb

/-
  SORTING BY INSERTION: strings.
-/
set_option linter.unusedSimpArgs false
namespace Arb
open Go

section
variable {prog : Nat → Option IFn}

end
end Arb

/-
  SORTING: rows of at most 12.
-/
set_option linter.unusedSimpArgs false
namespace Arb
open Go

section
variable {prog : Nat → Option IFn}

end
end Arb

/-
  slices.Compact OF STRINGS.
-/
set_option linter.unusedSimpArgs false
namespace Arb
open Go

section
variable {prog : Nat → Option IFn}

end
end Arb

/-
  RANGES IN THEIR NORMAL FORM.
-/
set_option linter.unusedSimpArgs false
namespace Arb
open Go

section
variable {prog : Nat → Option IFn}

end
end Arb

/-
  TWO RISING LISTS IN ONE; THE UNION OF TWO SETS.
-/
set_option linter.unusedSimpArgs false
namespace Arb
open Go

section
variable {prog : Nat → Option IFn}

end
end Arb

/-
  THE UNION OF TWO SETS.
-/
set_option linter.unusedSimpArgs false
namespace Arb
open Go

section
variable {prog : Nat → Option IFn}

end
end Arb

/-
  THE PERFECT MERGER OF TWO FILTERS.
-/
set_option linter.unusedSimpArgs false
namespace Arb
open Go

section
variable {prog : Nat → Option IFn}

end
end Arb

/-
  THE HULL OF TWO FILTERS.
-/
set_option linter.unusedSimpArgs false
namespace Arb
open Go

section
variable {prog : Nat → Option IFn}

end
end Arb

/-
  ENTRIES.
-/
set_option linter.unusedSimpArgs false
namespace Arb
open Go

def entry (i : Int) (f : List B) (s : Int) : List IV := [.int .i64 i, .sl 16 (f.map B.enc), .int .u64 s]

section
variable {prog : Nat → Option IFn}

end
end Arb

/-
  WHAT COMES IN, as plain lists.
-/
set_option linter.unusedSimpArgs false
namespace Arb
open Go

def in64 (n : Int) : Prop := -9223372036854775808 ≤ n ∧ n ≤ 9223372036854775807
structure S.ok (s : S) : Prop where
  li : s.i.length ≤ maxLen
  ls : s.s.length ≤ maxLen
  ri : ∀ p ∈ s.i, in64 p.1 ∧ in64 p.2
  rs : ∀ t ∈ s.s, t.size ≤ maxLen
def B.ok (b : B) : Prop := b.s0.ok ∧ b.s1.ok ∧ b.s2.ok ∧ b.s3.ok
theorem B.ok.at {b : B} (h : b.ok) {i : Nat} (hi : i < 4) : (b.get i).ok := by
  match i, hi with
  | 0, _ => exact h.1
  | 1, _ => exact h.2.1
  | 2, _ => exact h.2.2.1
  | 3, _ => exact h.2.2.2
theorem B.ok.fits {b : B} (h : b.ok) : b.fits := fun _ hi => ⟨(h.at hi).li, (h.at hi).ls⟩

theorem rows_map {α : Type} (f : α → List IV) (P : α → Prop) : ∀ rows : List (List IV), (∀ r ∈ rows, ∃ a, r = f a ∧ P a) → ∃ l : List α, rows = l.map f ∧ ∀ a ∈ l, P a
  | [], _ => ⟨[], rfl, fun a h => by cases h⟩
  | r :: rows, h => by
    obtain ⟨a, rfl, ha⟩ := h r (List.mem_cons_self ..)
    obtain ⟨l, rfl, hl⟩ := rows_map f P rows fun r' h' => h r' (List.mem_cons_of_mem _ h')
    exact ⟨a :: l, rfl, fun b hb => (List.mem_cons.1 hb).elim (fun e => e ▸ ha) (hl b)⟩
theorem FitsL.split : ∀ {ss ts : List Sh} {xs : List IV}, FitsL (ss ++ ts) xs → ∃ a b, xs = a ++ b ∧ FitsL ss a ∧ FitsL ts b
  | [], _, xs, h => ⟨[], xs, rfl, trivial, h⟩
  | _ :: _, _, [], h => h.elim
  | _ :: _, _, x :: xs, h => by
    obtain ⟨a, b, rfl, ha, hb⟩ := FitsL.split h.2
    exact ⟨x :: a, b, rfl, ⟨h.1, ha⟩, hb⟩
theorem wf64 {n : Int} (h : (Lit.int .i64 n).wf = true) : in64 n := by
  simp only [Lit.wf, Bool.and_eq_true, decide_eq_true_eq] at h
  rw [show IntKind.i64.min = -9223372036854775808 by decide, show IntKind.i64.max = 9223372036854775807 by decide] at h
  exact h

theorem fit_int {k : IntKind} {x : IV} (h : Fits (.int k) x) : ∃ n, x = .int k n ∧ (Lit.int k n).wf = true := h
theorem fit_str {x : IV} (h : Fits .str x) : ∃ s, x = .str s ∧ s.size ≤ maxLen := h
theorem fit_bool {x : IV} (h : Fits .bool x) : ∃ s, x = .bool s := h
theorem fit_sl {es : List Sh} {x : IV} (h : Fits (.sl es) x) : ∃ rows, x = .sl es.length rows ∧ rows.length ≤ maxLen ∧ ∀ r ∈ rows, FitsL es r := h
theorem FitsL.one {a : Sh} {ss : List Sh} : ∀ {xs : List IV}, FitsL (a :: ss) xs → ∃ x r, xs = x :: r ∧ Fits a x ∧ FitsL ss r
  | [], h => h.elim
  | x :: r, h => ⟨x, r, rfl, h.1, h.2⟩
theorem FitsL.none : ∀ {xs : List IV}, FitsL [] xs → xs = []
  | [], _ => rfl
  | _ :: _, h => h.elim
theorem fit_rng {r : List IV} (h : FitsL [.int .i64, .int .i64] r) : ∃ p, r = rng p ∧ (in64 p.1 ∧ in64 p.2) := by
  obtain ⟨x, r, rfl, hx, h⟩ := h.one
  obtain ⟨y, r, rfl, hy, h⟩ := h.one
  obtain rfl := h.none
  obtain ⟨n, rfl, hn⟩ := fit_int hx
  obtain ⟨m, rfl, hm⟩ := fit_int hy
  exact ⟨(n, m), rfl, wf64 hn, wf64 hm⟩
theorem fit_st1 {r : List IV} (h : FitsL [.str] r) : ∃ p, r = st1 p ∧ p.size ≤ maxLen := by
  obtain ⟨x, r, rfl, hx, h⟩ := h.one
  obtain rfl := h.none
  obtain ⟨n, rfl, hn⟩ := fit_str hx
  exact ⟨n, rfl, hn⟩
theorem fit_set {xs : List IV} (h : FitsL shSet xs) : ∃ s : S, xs = s.enc ∧ s.ok := by
  obtain ⟨a, _, rfl, ha, h⟩ := h.one
  obtain ⟨b, _, rfl, hb, h⟩ := h.one
  obtain ⟨c, _, rfl, hc, h⟩ := h.one
  obtain ⟨d, _, rfl, hd, h⟩ := h.one
  obtain rfl := h.none
  obtain ⟨va, rfl⟩ := fit_bool ha
  obtain ⟨vc, rfl⟩ := fit_bool hc
  obtain ⟨rows, rfl, hr1, hr2⟩ := fit_sl hb
  obtain ⟨strs, rfl, hs1, hs2⟩ := fit_sl hd
  obtain ⟨l, rfl, hl⟩ := rows_map rng (fun p => in64 p.1 ∧ in64 p.2) rows fun r hr => fit_rng (hr2 r hr)
  obtain ⟨t, rfl, ht⟩ := rows_map st1 (fun p => p.size ≤ maxLen) strs fun r hr => fit_st1 (hs2 r hr)
  exact ⟨⟨va, l, vc, t⟩, rfl, by rwa [List.length_map] at hr1, by rwa [List.length_map] at hs1, hl, ht⟩
end Arb

/-
  MAY SETS BE GONE OVER?
-/
set_option linter.unusedSimpArgs false
namespace Arb
open Go

section
variable {prog : Nat → Option IFn}

def fewS (x : S) : Bool := decide (x.i.length ≤ 40) && decide (x.s.length ≤ 40) && x.s.all fun t => decide (t.size ≤ 100)

theorem p_few3 (h : prog 27 = some F27) (l : List S) (hl : l.length ≤ maxLen) : Ans prog 27 [sets l] (.iv (.bool (l.all fewS))) := by
  refine Ans.of h rfl rfl (Wp.seq ?_)
  refine Wp.rgn (K := 0) (fun n _ => by simp [evalRgn, Option.map_some, evalOps, step, wants, osem, M.run_bind, M.mapL, M.run, M.ok, M.fresh, M.write, M.look, M.lift, putD, Arb.set, ev, Arb.get, keepFr, bin, intBin, strBin, mk, params, cellsM, load, obRead, fadr, fld, isl, iarr, xarr, idx, len, valid, slc, bound, store, splice, nilc, un, eqs, eq0, evalFeet, footOf, M.foot, orderOk, apartAll, apart1, clash, meets, callM, fcallM, callee, fz1, fzC, fz, flat, flat1, flat0, flatI, Option.bind_some, putAll, M.bind]; rfl) ?_
  refine Wp.seq (Wp.seq ?_)
  refine Wp.rgn (K := 0) (fun n _ => by simp [evalRgn, Option.map_some, evalOps, step, wants, osem, M.run_bind, M.mapL, M.run, M.ok, M.fresh, M.write, M.look, M.lift, putD, Arb.set, ev, Arb.get, keepFr, bin, intBin, strBin, mk, params, cellsM, load, obRead, fadr, fld, isl, iarr, xarr, idx, len, valid, slc, bound, store, splice, nilc, un, eqs, eq0, evalFeet, footOf, M.foot, orderOk, apartAll, apart1, clash, meets, callM, fcallM, callee, fz1, fzC, fz, flat, flat1, flat0, flatI, Option.bind_some, putAll, M.bind]; rfl) ?_
  refine Wp.block ?_
  refine Wp.range l.length (fun i => ⟨[(0, sets l), (3, .iv (.int .i64 i))], [], 1128⟩) (fun i => (l.take i).all fewS = true) rfl (by simp) ?_ ?_
  · intro i hi hg
    obtain ⟨x, hx⟩ : ∃ x, l[i]? = some x := ⟨_, List.getElem?_eq_getElem hi⟩
    refine Wp.seq (Wp.seq ?_)
    refine Wp.rgn (K := 0) (fun n _ => by simp [evalRgn, Option.map_some, evalOps, step, wants, osem, M.run_bind, M.mapL, M.run, M.ok, M.fresh, M.write, M.look, M.lift, putD, Arb.set, ev, Arb.get, keepFr, bin, intBin, strBin, mk, params, cellsM, load, obRead, fadr, fld, isl, iarr, xarr, idx, len, valid, slc, bound, store, splice, nilc, un, eqs, eq0, evalFeet, footOf, M.foot, orderOk, apartAll, apart1, clash, meets, callM, fcallM, callee, fz1, fzC, fz, flat, flat1, flat0, flatI, Option.bind_some, putAll, M.bind, sets, hi]; rfl) ?_
    refine Wp.cond rfl (Wp.skip (Wp.seq (Wp.block (Wp.seq (Wp.seq ?_)))))
    refine Wp.rgn (K := 0) (s' := ⟨[(0, sets l), (3, .iv (.int .i64 i)), (26, .iv (.bool (decide ((40 : Int) < x.i.length) || decide ((40 : Int) < x.s.length))))], [], 2408⟩) (fun n hn => by
      cases h1 : decide ((40 : Int) < x.i.length) <;> simp [evalRgn, Option.map_some, evalOps, step, wants, osem, M.run_bind, M.mapL, M.run, M.ok, M.fresh, M.write, M.look, M.lift, putD, Arb.set, ev, Arb.get, keepFr, bin, intBin, strBin, mk, params, cellsM, load, obRead, fadr, fld, isl, iarr, xarr, idx, len, valid, slc, bound, store, splice, nilc, un, eqs, eq0, evalFeet, footOf, M.foot, orderOk, apartAll, apart1, clash, meets, callM, fcallM, callee, fz1, fzC, fz, flat, flat1, flat0, flatI, Option.bind_some, putAll, M.bind, sets, hx, S.enc, h1]) ?_
    refine Wp.cond rfl ?_
    cases hb : decide ((40 : Int) < x.i.length) || decide ((40 : Int) < x.s.length) with
    | true =>
      refine Wp.seq ?_
      refine Wp.rgn (K := 0) (fun n _ => by simp [evalRgn, Option.map_some, evalOps, step, wants, osem, M.run_bind, M.mapL, M.run, M.ok, M.fresh, M.write, M.look, M.lift, putD, Arb.set, ev, Arb.get, keepFr, bin, intBin, strBin, mk, params, cellsM, load, obRead, fadr, fld, isl, iarr, xarr, idx, len, valid, slc, bound, store, splice, nilc, un, eqs, eq0, evalFeet, footOf, M.foot, orderOk, apartAll, apart1, clash, meets, callM, fcallM, callee, fz1, fzC, fz, flat, flat1, flat0, flatI, Option.bind_some, putAll, M.bind]; rfl) ?_
      refine Wp.ret ?_
      have : l.all fewS = false := all_false hx (by
        simp only [Bool.or_eq_true, decide_eq_true_eq] at hb
        simp only [fewS, Bool.and_eq_false_iff, decide_eq_false_iff_not]
        omega)
      rw [this]; rfl
    | false =>
      simp only [Bool.or_eq_false_iff, decide_eq_false_iff_not] at hb
      refine Wp.skip (Wp.seq ?_)
      refine Wp.rgn (K := 0) (fun n _ => by simp [evalRgn, Option.map_some, evalOps, step, wants, osem, M.run_bind, M.mapL, M.run, M.ok, M.fresh, M.write, M.look, M.lift, putD, Arb.set, ev, Arb.get, keepFr, bin, intBin, strBin, mk, params, cellsM, load, obRead, fadr, fld, isl, iarr, xarr, idx, len, valid, slc, bound, store, splice, nilc, un, eqs, eq0, evalFeet, footOf, M.foot, orderOk, apartAll, apart1, clash, meets, callM, fcallM, callee, fz1, fzC, fz, flat, flat1, flat0, flatI, Option.bind_some, putAll, M.bind]; rfl) ?_
      refine Wp.block ?_
      refine Wp.range x.s.length (fun k => ⟨[(0, sets l), (3, .iv (.int .i64 i)), (4, .iv (.int .i64 k))], [], 2472⟩) (fun k => (x.s.take k).all (fun t => decide (t.size ≤ 100)) = true) rfl (by simp) ?_ ?_
      · intro k hk hgk
        obtain ⟨t, ht⟩ : ∃ t, x.s[k]? = some t := ⟨_, List.getElem?_eq_getElem hk⟩
        refine Wp.seq (Wp.seq ?_)
        refine Wp.rgn (K := 0) (fun n _ => by simp [evalRgn, Option.map_some, evalOps, step, wants, osem, M.run_bind, M.mapL, M.run, M.ok, M.fresh, M.write, M.look, M.lift, putD, Arb.set, ev, Arb.get, keepFr, bin, intBin, strBin, mk, params, cellsM, load, obRead, fadr, fld, isl, iarr, xarr, idx, len, valid, slc, bound, store, splice, nilc, un, eqs, eq0, evalFeet, footOf, M.foot, orderOk, apartAll, apart1, clash, meets, callM, fcallM, callee, fz1, fzC, fz, flat, flat1, flat0, flatI, Option.bind_some, putAll, M.bind, sets, hx, S.enc, hk]; rfl) ?_
        refine Wp.cond rfl (Wp.skip (Wp.seq (Wp.block (Wp.seq ?_))))
        refine Wp.rgn (K := 0) (s' := ⟨[(0, sets l), (3, .iv (.int .i64 i)), (4, .iv (.int .i64 k)), (46, .iv (.bool (decide ((100 : Int) < t.size))))], [], 3624⟩) (fun n hn => by
          simp [evalRgn, Option.map_some, evalOps, step, wants, osem, M.run_bind, M.mapL, M.run, M.ok, M.fresh, M.write, M.look, M.lift, putD, Arb.set, ev, Arb.get, keepFr, bin, intBin, strBin, mk, params, cellsM, load, obRead, fadr, fld, isl, iarr, xarr, idx, len, valid, slc, bound, store, splice, nilc, un, eqs, eq0, evalFeet, footOf, M.foot, orderOk, apartAll, apart1, clash, meets, callM, fcallM, callee, fz1, fzC, fz, flat, flat1, flat0, flatI, Option.bind_some, putAll, M.bind, sets, hx, S.enc, ht, st1]) ?_
        refine Wp.cond rfl ?_
        cases hb2 : decide ((100 : Int) < t.size) with
        | true =>
          refine Wp.seq ?_
          refine Wp.rgn (K := 0) (fun n _ => by simp [evalRgn, Option.map_some, evalOps, step, wants, osem, M.run_bind, M.mapL, M.run, M.ok, M.fresh, M.write, M.look, M.lift, putD, Arb.set, ev, Arb.get, keepFr, bin, intBin, strBin, mk, params, cellsM, load, obRead, fadr, fld, isl, iarr, xarr, idx, len, valid, slc, bound, store, splice, nilc, un, eqs, eq0, evalFeet, footOf, M.foot, orderOk, apartAll, apart1, clash, meets, callM, fcallM, callee, fz1, fzC, fz, flat, flat1, flat0, flatI, Option.bind_some, putAll, M.bind]; rfl) ?_
          refine Wp.ret ?_
          have : l.all fewS = false := all_false hx (by
            simp only [fewS, Bool.and_eq_false_iff]
            exact .inr (all_false ht (by simp only [decide_eq_true_eq, decide_eq_false_iff_not] at hb2 ⊢; omega)))
          rw [this]; rfl
        | false =>
          refine Wp.skip ?_
          refine Wp.rgn (K := 0) (fun n _ => by simp [evalRgn, Option.map_some, evalOps, step, wants, osem, M.run_bind, M.mapL, M.run, M.ok, M.fresh, M.write, M.look, M.lift, putD, Arb.set, ev, Arb.get, keepFr, bin, intBin, strBin, mk, params, cellsM, load, obRead, fadr, fld, isl, iarr, xarr, idx, len, valid, slc, bound, store, splice, nilc, un, eqs, eq0, evalFeet, footOf, M.foot, orderOk, apartAll, apart1, clash, meets, callM, fcallM, callee, fz1, fzC, fz, flat, flat1, flat0, flatI, Option.bind_some, putAll, M.bind]; rfl) ?_
          refine ⟨by simp [again, keepFr, get, nrm, sets, wrap_succ hk (show x.s.length ≤ maxLen by unfold maxLen; omega)], ?_⟩
          rw [take_succ_all ht, hgk]
          simp only [decide_eq_false_iff_not, Bool.true_and, decide_eq_true_eq] at hb2 ⊢
          omega
      · intro hall
        refine Wp.seq (Wp.seq ?_)
        refine Wp.rgn (K := 0) (fun n _ => by simp [evalRgn, Option.map_some, evalOps, step, wants, osem, M.run_bind, M.mapL, M.run, M.ok, M.fresh, M.write, M.look, M.lift, putD, Arb.set, ev, Arb.get, keepFr, bin, intBin, strBin, mk, params, cellsM, load, obRead, fadr, fld, isl, iarr, xarr, idx, len, valid, slc, bound, store, splice, nilc, un, eqs, eq0, evalFeet, footOf, M.foot, orderOk, apartAll, apart1, clash, meets, callM, fcallM, callee, fz1, fzC, fz, flat, flat1, flat0, flatI, Option.bind_some, putAll, M.bind, sets, hx, S.enc]; rfl) ?_
        refine Wp.cond rfl (Wp.exit ?_)
        simp only [Ex.then, Ex.inBlock, if_true]
        refine Wp.rgn (K := 0) (fun n _ => by simp [evalRgn, Option.map_some, evalOps, step, wants, osem, M.run_bind, M.mapL, M.run, M.ok, M.fresh, M.write, M.look, M.lift, putD, Arb.set, ev, Arb.get, keepFr, bin, intBin, strBin, mk, params, cellsM, load, obRead, fadr, fld, isl, iarr, xarr, idx, len, valid, slc, bound, store, splice, nilc, un, eqs, eq0, evalFeet, footOf, M.foot, orderOk, apartAll, apart1, clash, meets, callM, fcallM, callee, fz1, fzC, fz, flat, flat1, flat0, flatI, Option.bind_some, putAll, M.bind]; rfl) ?_
        refine ⟨by simp [again, keepFr, get, nrm, sets, wrap_succ hi hl], ?_⟩
        rw [take_succ_all hx, hg]
        rw [List.take_length] at hall
        simp only [fewS, hall, Bool.and_true, Bool.true_and, Bool.and_eq_true, decide_eq_true_eq]
        omega
  · intro hg
    refine Wp.seq (Wp.seq ?_)
    refine Wp.rgn (K := 0) (fun n _ => by simp [evalRgn, Option.map_some, evalOps, step, wants, osem, M.run_bind, M.mapL, M.run, M.ok, M.fresh, M.write, M.look, M.lift, putD, Arb.set, ev, Arb.get, keepFr, bin, intBin, strBin, mk, params, cellsM, load, obRead, fadr, fld, isl, iarr, xarr, idx, len, valid, slc, bound, store, splice, nilc, un, eqs, eq0, evalFeet, footOf, M.foot, orderOk, apartAll, apart1, clash, meets, callM, fcallM, callee, fz1, fzC, fz, flat, flat1, flat0, flatI, Option.bind_some, putAll, M.bind, sets]; rfl) ?_
    refine Wp.cond rfl (Wp.exit ?_)
    simp only [Ex.then, Ex.inBlock, if_true]
    refine Wp.seq ?_
    refine Wp.rgn (K := 0) (fun n _ => by simp [evalRgn, Option.map_some, evalOps, step, wants, osem, M.run_bind, M.mapL, M.run, M.ok, M.fresh, M.write, M.look, M.lift, putD, Arb.set, ev, Arb.get, keepFr, bin, intBin, strBin, mk, params, cellsM, load, obRead, fadr, fld, isl, iarr, xarr, idx, len, valid, slc, bound, store, splice, nilc, un, eqs, eq0, evalFeet, footOf, M.foot, orderOk, apartAll, apart1, clash, meets, callM, fcallM, callee, fz1, fzC, fz, flat, flat1, flat0, flatI, Option.bind_some, putAll, M.bind]; rfl) ?_
    refine Wp.ret ?_
    rw [List.take_length] at hg
    rw [hg]; rfl

def fewB (b : B) : Bool := fewS b.s0 && (fewS b.s1 && (fewS b.s2 && fewS b.s3))

def few (l : List B) : Bool := decide (l.length ≤ 20) && l.all fewB

end
end Arb

/-
  EXPRESSIONS: how many parts, how deep, whether they may be gone over.
-/
set_option linter.unusedSimpArgs false
namespace Arb
open Go

theorem nrm_ref0 {n0 : Nat} (h : 1000 < n0) (cs : List AV) : nrm n0 [(1000, .cells cs)] 8 (.ref 1000 0 0 0) = .ref 1000 0 0 0 := by simp [nrm, Arb.get, h]

inductive Xp where
  | mk (k a : Int) (s : S) (sub : List Xp)
mutual
def Xp.enc : Xp → List IV
  | .mk k a s sub => [.int .i64 k, .int .i64 a, .bool s.a, .sl 2 (s.i.map rng), .bool s.c, .sl 1 (s.s.map st1), .sl 7 (Xp.encs sub)]
def Xp.encs : List Xp → List (List IV)
  | [] => []
  | x :: l => x.enc :: Xp.encs l
end
theorem Xp.encs_map : ∀ l : List Xp, Xp.encs l = l.map Xp.enc
  | [] => rfl
  | x :: l => by simp [Xp.encs, Xp.encs_map l]
def Xp.sub : Xp → List Xp
  | .mk _ _ _ l => l
def Xp.set : Xp → S
  | .mk _ _ s _ => s
def Xp.cs (x : Xp) : List AV := x.enc.map .iv
def Xp.av (x : Xp) : AV := .agg x.cs
theorem Xp.enc_all (x : Xp) : x.enc.all notNil = true := by cases x; simp [Xp.enc, notNil]
theorem Xp.cs_fzC (x : Xp) (w : Bool) : M.mapL (fzC w) x.cs = .ret x.cs := fzC_plain w x.enc x.enc_all
theorem Xp.cs_nilc (x : Xp) (s : Nat) : nilc s x.cs = .ret x.cs := nilc_plain x.enc s x.enc_all
theorem Xp.cs_len (x : Xp) : x.cs.length = 7 := by cases x; rfl
theorem Xp.cs_7 (x : Xp) : x.cs.take 7 = x.cs := by cases x; rfl
theorem Xp.cs_sub (x : Xp) : (x.cs.drop 6).take 1 = [.iv (.sl 7 (x.sub.map Xp.enc))] := by cases x; simp [Xp.cs, Xp.enc, Xp.sub, Xp.encs_map]
theorem Xp.cs_set (x : Xp) : (x.cs.drop 2).take 4 = [.iv (.bool x.set.a), .iv (.sl 2 (x.set.i.map rng)), .iv (.bool x.set.c), .iv (.sl 1 (x.set.s.map st1))] := by cases x; rfl
theorem Xp.cs_nrm (x : Xp) (n0 : Nat) (h : Hp) : x.cs.map (nrm n0 h 8) = x.cs := nrm_ivs n0 h x.enc
theorem Xp.take_enc (x : Xp) : (x.enc.take 7).map AV.iv = x.cs := by cases x; rfl
theorem Xp.take_enc2 (x : Xp) : (x.enc.map AV.iv).take 7 = x.cs := by cases x; rfl
theorem Xp.len_enc (x : Xp) : x.enc.length = 7 := by cases x; rfl

/-- rows that may be looked at -/
inductive Xp.ok : Xp → Prop
  | mk {k a : Int} {s : S} {sub : List Xp} (hk : in64 k) (ha : in64 a) (hs : s.ok) (hl : sub.length ≤ maxLen) (h : ∀ x ∈ sub, Xp.ok x) : Xp.ok (.mk k a s sub)

mutual
def Xp.deep : Int → Xp → Int
  | d, .mk _ _ _ sub => if d > 20 then 20 else if 20 < Xp.deeps (d + 1) 100 sub 0 + 1 then 20 else Xp.deeps (d + 1) 100 sub 0 + 1
/-- of the first so many -/
def Xp.deeps : Int → Nat → List Xp → Int → Int
  | _, _, [], n => n
  | _, 0, _ :: _, n => n
  | d, k + 1, x :: l, n => Xp.deeps d k l (if Xp.deep d x > n then Xp.deep d x else n)
end
mutual
theorem Xp.deep_in : ∀ (x : Xp) (d : Int), 1 ≤ x.deep d ∧ x.deep d ≤ 20
  | .mk _ _ _ sub, d => by
    unfold Xp.deep
    split
    · omega
    · have := Xp.deeps_in sub (d + 1) 100 0 (by omega) (by omega)
      split <;> omega
theorem Xp.deeps_in : ∀ (l : List Xp) (d : Int) (k : Nat) (n : Int), 0 ≤ n → n ≤ 20 → 0 ≤ Xp.deeps d k l n ∧ Xp.deeps d k l n ≤ 20
  | [], d, k, n, h, h' => by unfold Xp.deeps; omega
  | x :: l, d, 0, n, h, h' => by unfold Xp.deeps; omega
  | x :: l, d, k + 1, n, h, h' => by
    have h1 := Xp.deep_in x d
    unfold Xp.deeps
    split
    · exact Xp.deeps_in l d k _ (by omega) (by omega)
    · exact Xp.deeps_in l d k _ (by omega) (by omega)
end
mutual
def Xp.sets : Xp → Bool
  | .mk _ _ s sub => fewS s && Xp.setss sub
def Xp.setss : List Xp → Bool
  | [] => true
  | x :: l => x.sets && Xp.setss l
end
theorem Xp.setss_all : ∀ l : List Xp, Xp.setss l = l.all Xp.sets
  | [] => by unfold Xp.setss; rfl
  | x :: l => by unfold Xp.setss; simp [Xp.setss_all l]
mutual
def Xp.count : Int → Xp → Int
  | d, .mk _ _ _ sub => if d > 20 then 100 else if 100 < Xp.counts (d + 1) sub 1 then 100 else Xp.counts (d + 1) sub 1
def Xp.counts : Int → List Xp → Int → Int
  | _, [], n => n
  | d, x :: l, n => if n < 100 then Xp.counts d l (n + Xp.count d x) else n
end
mutual
theorem Xp.count_in : ∀ (x : Xp) (d : Int), 1 ≤ x.count d ∧ x.count d ≤ 100
  | .mk _ _ _ sub, d => by
    unfold Xp.count
    split
    · omega
    · have := Xp.counts_in sub (d + 1) 1 (by omega)
      split <;> omega
theorem Xp.counts_in : ∀ (l : List Xp) (d n : Int), 1 ≤ n → n ≤ Xp.counts d l n
  | [], d, n, _ => by unfold Xp.counts; omega
  | x :: l, d, n, hn => by
    have h1 := Xp.count_in x d
    unfold Xp.counts
    split
    · have := Xp.counts_in l d (n + x.count d) (by omega)
      omega
    · omega
end

section
variable {prog : Nat → Option IFn}

theorem Xp.counts_done {d n : Int} (h : ¬ n < 100) : ∀ l : List Xp, Xp.counts d l n = n
  | [] => by unfold Xp.counts; rfl
  | x :: l => by unfold Xp.counts; rw [if_neg h]

theorem p_count (h : prog 169 = some F169) {x : Xp} (hx : x.ok) : ∀ d : Int, 0 ≤ d → d ≤ 21 → Ans prog 169 [x.av, .iv (.int .i64 d)] (.iv (.int .i64 (x.count d))) := by
  induction hx with
  | @mk k a s sub _ _ _ hl _ ih =>
    intro d hd0 hd
    generalize hX : Xp.mk k a s sub = X
    have hsub : X.sub = sub := by rw [← hX]; rfl
    refine Ans.of h rfl rfl (Wp.seq ?_)
    refine Wp.rgn (K := 0) (s' := ⟨[(1, .iv (.int .i64 d)), (2, .ref 1000 0 0 0)], [(1000, .cells X.cs)], 1128⟩) (fun n _ => by simp [evalRgn, Option.map_some, evalOps, step, wants, osem, M.run_bind, M.mapL, M.run, M.ok, M.fresh, M.write, M.look, M.lift, putD, Arb.set, ev, Arb.get, keepFr, bin, intBin, strBin, mk, params, cellsM, load, obRead, fadr, fld, isl, iarr, xarr, idx, len, valid, slc, bound, store, splice, nilc, un, eqs, eq0, evalFeet, footOf, M.foot, orderOk, apartAll, apart1, clash, meets, callM, fcallM, callee, fz1, fzC, fz, flat, flat1, flat0, flatI, Option.bind_some, putAll, M.bind, Xp.av, Xp.cs_nilc]) ?_
    refine Wp.seq ?_
    refine Wp.rgn (K := 0) (fun n _ => by simp [evalRgn, Option.map_some, evalOps, step, wants, osem, M.run_bind, M.mapL, M.run, M.ok, M.fresh, M.write, M.look, M.lift, putD, Arb.set, ev, Arb.get, keepFr, bin, intBin, strBin, mk, params, cellsM, load, obRead, fadr, fld, isl, iarr, xarr, idx, len, valid, slc, bound, store, splice, nilc, un, eqs, eq0, evalFeet, footOf, M.foot, orderOk, apartAll, apart1, clash, meets, callM, fcallM, callee, fz1, fzC, fz, flat, flat1, flat0, flatI, Option.bind_some, putAll, M.bind]; rfl) ?_
    refine Wp.seq (Wp.seq ?_)
    refine Wp.rgn (K := 0) (s' := ⟨[(1, .iv (.int .i64 d)), (2, .ref 1000 0 0 0), (5, .iv (.int .i64 1)), (8, .iv (.bool (decide (20 < d))))], [(1000, .cells X.cs)], 1320⟩) (fun n _ => by simp [evalRgn, Option.map_some, evalOps, step, wants, osem, M.run_bind, M.mapL, M.run, M.ok, M.fresh, M.write, M.look, M.lift, putD, Arb.set, ev, Arb.get, keepFr, bin, intBin, strBin, mk, params, cellsM, load, obRead, fadr, fld, isl, iarr, xarr, idx, len, valid, slc, bound, store, splice, nilc, un, eqs, eq0, evalFeet, footOf, M.foot, orderOk, apartAll, apart1, clash, meets, callM, fcallM, callee, fz1, fzC, fz, flat, flat1, flat0, flatI, Option.bind_some, putAll, M.bind]) ?_
    by_cases hdeep : 20 < d
    · refine Wp.cond (t := true) (by simp [ev, Arb.get, hdeep]) ?_
      simp only [if_true]
      refine Wp.seq ?_
      refine Wp.rgn (K := 0) (fun n _ => by simp [evalRgn, Option.map_some, evalOps, step, wants, osem, M.run_bind, M.mapL, M.run, M.ok, M.fresh, M.write, M.look, M.lift, putD, Arb.set, ev, Arb.get, keepFr, bin, intBin, strBin, mk, params, cellsM, load, obRead, fadr, fld, isl, iarr, xarr, idx, len, valid, slc, bound, store, splice, nilc, un, eqs, eq0, evalFeet, footOf, M.foot, orderOk, apartAll, apart1, clash, meets, callM, fcallM, callee, fz1, fzC, fz, flat, flat1, flat0, flatI, Option.bind_some, putAll, M.bind]; rfl) ?_
      refine Wp.ret ?_
      have : X.count d = 100 := by rw [← hX]; unfold Xp.count; rw [if_pos hdeep]
      rw [this]; rfl
    · refine Wp.cond (t := false) (by simp [ev, Arb.get, hdeep]) ?_
      simp only [Bool.false_eq_true, if_false]
      refine Wp.skip (Wp.seq (Wp.seq ?_))
      refine Wp.rgn (K := 0) (fun n _ => by simp [evalRgn, Option.map_some, evalOps, step, wants, osem, M.run_bind, M.mapL, M.run, M.ok, M.fresh, M.write, M.look, M.lift, putD, Arb.set, ev, Arb.get, keepFr, bin, intBin, strBin, mk, params, cellsM, load, obRead, fadr, fld, isl, iarr, xarr, idx, len, valid, slc, bound, store, splice, nilc, un, eqs, eq0, evalFeet, footOf, M.foot, orderOk, apartAll, apart1, clash, meets, callM, fcallM, callee, fz1, fzC, fz, flat, flat1, flat0, flatI, Option.bind_some, putAll, M.bind]; rfl) ?_
      -- the parts
      refine Wp.block ?_
      have hcnt : X.count d = if 100 < Xp.counts (d + 1) sub 1 then 100 else Xp.counts (d + 1) sub 1 := by rw [← hX]; unfold Xp.count; rw [if_neg hdeep]
      refine Wp.loop (fun m s1 => ∃ (i : Nat) (n : Int), i + m = sub.length ∧ 1 ≤ n ∧ n < 200 ∧ Xp.counts (d + 1) (sub.drop i) n = Xp.counts (d + 1) sub 1 ∧
        s1 = ⟨[(1, .iv (.int .i64 d)), (2, .ref 1000 0 0 0), (5, .iv (.int .i64 n)), (6, .iv (.int .i64 i))], [(1000, .cells X.cs)], 1384⟩) (m := sub.length) ⟨0, 1, by omega, by omega, by omega, rfl, rfl⟩ ?_
      rintro m s1 ⟨i, n, him, hn1, hn2, hc, rfl⟩
      refine Wp.seq (Wp.seq ?_)
      refine Wp.rgn (K := 0) (s' := ⟨[(1, .iv (.int .i64 d)), (2, .ref 1000 0 0 0), (5, .iv (.int .i64 n)), (6, .iv (.int .i64 i)), (17, .iv (.bool (decide (i < sub.length) && decide (n < 100))))], [(1000, .cells X.cs)], 1960⟩) (fun n' _ => by
        have hlt : decide ((i : Int) < (sub.length : Int)) = decide (i < sub.length) := decide_eq_decide.2 (by omega)
        cases hb : decide (i < sub.length) <;> simp [evalRgn, Option.map_some, evalOps, step, wants, osem, M.run_bind, M.mapL, M.run, M.ok, M.fresh, M.write, M.look, M.lift, putD, Arb.set, ev, Arb.get, keepFr, bin, intBin, strBin, mk, params, cellsM, load, obRead, fadr, fld, isl, iarr, xarr, idx, len, valid, slc, bound, store, splice, nilc, un, eqs, eq0, evalFeet, footOf, M.foot, orderOk, apartAll, apart1, clash, meets, callM, fcallM, callee, fz1, fzC, fz, flat, flat1, flat0, flatI, Option.bind_some, putAll, M.bind, X.cs_sub, hsub, hlt, hb]) ?_
      by_cases hgo : i < sub.length ∧ n < 100
      · refine Wp.cond (t := true) (by simp [ev, Arb.get, hgo.1, hgo.2]) ?_
        simp only [if_true]
        refine Wp.skip (Wp.seq (Wp.block ?_))
        have hx : sub[i]? = some sub[i] := List.getElem?_eq_getElem hgo.1
        obtain ⟨K, hK⟩ := ih sub[i] (List.getElem_mem _) (d + 1) (by omega) (by omega)
        have hin := Xp.count_in sub[i] (d + 1)
        have hw : IntKind.i64.wrap (d + 1) = d + 1 := IntWalk.i64_in _ (by omega)
        have hw2 : IntKind.i64.wrap (n + sub[i].count (d + 1)) = n + sub[i].count (d + 1) := IntWalk.i64_in _ (by omega)
        refine Wp.rgn (K := K) (s' := ⟨[(1, .iv (.int .i64 d)), (2, .ref 1000 0 0 0), (5, .iv (.int .i64 (n + sub[i].count (d + 1)))), (6, .iv (.int .i64 i))], [(1000, .cells X.cs)], 2664⟩) (fun n' hn' => by
          have hc' := hK n' hn'
          simp only [Xp.av] at hc'
          simp [evalRgn, Option.map_some, evalOps, step, wants, osem, M.run_bind, M.mapL, M.run, M.ok, M.fresh, M.write, M.look, M.lift, putD, Arb.set, ev, Arb.get, keepFr, bin, intBin, strBin, mk, params, cellsM, load, obRead, fadr, fld, isl, iarr, xarr, idx, len, valid, slc, bound, store, splice, nilc, un, eqs, eq0, evalFeet, footOf, M.foot, orderOk, apartAll, apart1, clash, meets, callM, fcallM, callee, fz1, fzC, fz, flat, flat1, flat0, flatI, Option.bind_some, putAll, M.bind, X.cs_sub, hsub, hx, Xp.take_enc, Xp.take_enc2, Xp.len_enc, Xp.cs_len, Xp.cs_fzC, hw, hw2, hc']) ?_
        refine Wp.rgn (K := 0) (fun n _ => by simp [evalRgn, Option.map_some, evalOps, step, wants, osem, M.run_bind, M.mapL, M.run, M.ok, M.fresh, M.write, M.look, M.lift, putD, Arb.set, ev, Arb.get, keepFr, bin, intBin, strBin, mk, params, cellsM, load, obRead, fadr, fld, isl, iarr, xarr, idx, len, valid, slc, bound, store, splice, nilc, un, eqs, eq0, evalFeet, footOf, M.foot, orderOk, apartAll, apart1, clash, meets, callM, fcallM, callee, fz1, fzC, fz, flat, flat1, flat0, flatI, Option.bind_some, putAll, M.bind, wrap_succ hgo.1 hl]; rfl) ?_
        refine ⟨m - 1, by omega, i + 1, n + sub[i].count (d + 1), by omega, by omega, by omega, ?_, by simp [again, keepFr, get, nrm_iv, nrm_ref0, nrmO, Xp.cs_nrm]⟩
        rw [← hc, List.drop_eq_getElem_cons hgo.1]
        conv => rhs; unfold Xp.counts
        rw [if_pos hgo.2]
      · have hfalse : (decide (i < sub.length) && decide (n < 100)) = false := by simpa using fun h => Int.not_lt.1 fun h' => hgo ⟨h, h'⟩
        refine Wp.cond (t := false) (by simp [ev, Arb.get, hfalse]) ?_
        simp only [Bool.false_eq_true, if_false]
        refine Wp.exit ?_
        simp only [Ex.then, Ex.inBlock, if_true]
        have hfin : Xp.counts (d + 1) sub 1 = n := by
          rw [← hc]
          by_cases hi : i < sub.length
          · exact Xp.counts_done (fun h => hgo ⟨hi, h⟩) _
          · rw [List.drop_eq_nil_of_le (by omega)]; unfold Xp.counts; rfl
        refine Wp.seq ?_
        refine Wp.rgn (K := 0) (s' := ⟨[(4, .iv (.int .i64 (X.count d)))], [(1000, .cells X.cs)], 2152⟩) (fun n' _ => by
          rw [hcnt, hfin]
          by_cases hb : 100 < n <;> simp [evalRgn, Option.map_some, evalOps, step, wants, osem, M.run_bind, M.mapL, M.run, M.ok, M.fresh, M.write, M.look, M.lift, putD, Arb.set, ev, Arb.get, keepFr, bin, intBin, strBin, mk, params, cellsM, load, obRead, fadr, fld, isl, iarr, xarr, idx, len, valid, slc, bound, store, splice, nilc, un, eqs, eq0, evalFeet, footOf, M.foot, orderOk, apartAll, apart1, clash, meets, callM, fcallM, callee, fz1, fzC, fz, flat, flat1, flat0, flatI, Option.bind_some, putAll, M.bind, mnI, hb]) ?_
        exact Wp.ret rfl

theorem Xp.deeps_none (d : Int) (n : Int) : ∀ l : List Xp, Xp.deeps d 0 l n = n
  | [] => by unfold Xp.deeps; rfl
  | x :: l => by unfold Xp.deeps; rfl

theorem p_deep (h : prog 170 = some F170) {x : Xp} (hx : x.ok) : ∀ d : Int, 0 ≤ d → d ≤ 21 → Ans prog 170 [x.av, .iv (.int .i64 d)] (.iv (.int .i64 (x.deep d))) := by
  induction hx with
  | @mk k a s sub _ _ _ hl _ ih =>
    intro d hd0 hd
    generalize hX : Xp.mk k a s sub = X
    have hsub : X.sub = sub := by rw [← hX]; rfl
    refine Ans.of h rfl rfl (Wp.seq ?_)
    refine Wp.rgn (K := 0) (s' := ⟨[(1, .iv (.int .i64 d)), (2, .ref 1000 0 0 0)], [(1000, .cells X.cs)], 1128⟩) (fun n _ => by simp [evalRgn, Option.map_some, evalOps, step, wants, osem, M.run_bind, M.mapL, M.run, M.ok, M.fresh, M.write, M.look, M.lift, putD, Arb.set, ev, Arb.get, keepFr, bin, intBin, strBin, mk, params, cellsM, load, obRead, fadr, fld, isl, iarr, xarr, idx, len, valid, slc, bound, store, splice, nilc, un, eqs, eq0, evalFeet, footOf, M.foot, orderOk, apartAll, apart1, clash, meets, callM, fcallM, callee, fz1, fzC, fz, flat, flat1, flat0, flatI, Option.bind_some, putAll, M.bind, Xp.av, Xp.cs_nilc]) ?_
    refine Wp.seq ?_
    refine Wp.rgn (K := 0) (fun n _ => by simp [evalRgn, Option.map_some, evalOps, step, wants, osem, M.run_bind, M.mapL, M.run, M.ok, M.fresh, M.write, M.look, M.lift, putD, Arb.set, ev, Arb.get, keepFr, bin, intBin, strBin, mk, params, cellsM, load, obRead, fadr, fld, isl, iarr, xarr, idx, len, valid, slc, bound, store, splice, nilc, un, eqs, eq0, evalFeet, footOf, M.foot, orderOk, apartAll, apart1, clash, meets, callM, fcallM, callee, fz1, fzC, fz, flat, flat1, flat0, flatI, Option.bind_some, putAll, M.bind]; rfl) ?_
    refine Wp.seq (Wp.seq ?_)
    refine Wp.rgn (K := 0) (s' := ⟨[(1, .iv (.int .i64 d)), (2, .ref 1000 0 0 0), (5, .iv (.int .i64 0)), (8, .iv (.bool (decide (20 < d))))], [(1000, .cells X.cs)], 1320⟩) (fun n _ => by simp [evalRgn, Option.map_some, evalOps, step, wants, osem, M.run_bind, M.mapL, M.run, M.ok, M.fresh, M.write, M.look, M.lift, putD, Arb.set, ev, Arb.get, keepFr, bin, intBin, strBin, mk, params, cellsM, load, obRead, fadr, fld, isl, iarr, xarr, idx, len, valid, slc, bound, store, splice, nilc, un, eqs, eq0, evalFeet, footOf, M.foot, orderOk, apartAll, apart1, clash, meets, callM, fcallM, callee, fz1, fzC, fz, flat, flat1, flat0, flatI, Option.bind_some, putAll, M.bind]) ?_
    by_cases hdeep : 20 < d
    · refine Wp.cond (t := true) (by simp [ev, Arb.get, hdeep]) ?_
      simp only [if_true]
      refine Wp.seq ?_
      refine Wp.rgn (K := 0) (fun n _ => by simp [evalRgn, Option.map_some, evalOps, step, wants, osem, M.run_bind, M.mapL, M.run, M.ok, M.fresh, M.write, M.look, M.lift, putD, Arb.set, ev, Arb.get, keepFr, bin, intBin, strBin, mk, params, cellsM, load, obRead, fadr, fld, isl, iarr, xarr, idx, len, valid, slc, bound, store, splice, nilc, un, eqs, eq0, evalFeet, footOf, M.foot, orderOk, apartAll, apart1, clash, meets, callM, fcallM, callee, fz1, fzC, fz, flat, flat1, flat0, flatI, Option.bind_some, putAll, M.bind]; rfl) ?_
      refine Wp.ret ?_
      have : X.deep d = 20 := by rw [← hX]; unfold Xp.deep; rw [if_pos hdeep]
      rw [this]; rfl
    · refine Wp.cond (t := false) (by simp [ev, Arb.get, hdeep]) ?_
      simp only [Bool.false_eq_true, if_false]
      refine Wp.skip (Wp.seq (Wp.seq ?_))
      refine Wp.rgn (K := 0) (fun n _ => by simp [evalRgn, Option.map_some, evalOps, step, wants, osem, M.run_bind, M.mapL, M.run, M.ok, M.fresh, M.write, M.look, M.lift, putD, Arb.set, ev, Arb.get, keepFr, bin, intBin, strBin, mk, params, cellsM, load, obRead, fadr, fld, isl, iarr, xarr, idx, len, valid, slc, bound, store, splice, nilc, un, eqs, eq0, evalFeet, footOf, M.foot, orderOk, apartAll, apart1, clash, meets, callM, fcallM, callee, fz1, fzC, fz, flat, flat1, flat0, flatI, Option.bind_some, putAll, M.bind]; rfl) ?_
      refine Wp.block ?_
      have hcnt : X.deep d = if 20 < Xp.deeps (d + 1) 100 sub 0 + 1 then 20 else Xp.deeps (d + 1) 100 sub 0 + 1 := by rw [← hX]; unfold Xp.deep; rw [if_neg hdeep]
      refine Wp.loop (fun m s1 => ∃ (i : Nat) (n : Int), i + m = sub.length ∧ i ≤ 100 ∧ 0 ≤ n ∧ n ≤ 20 ∧ Xp.deeps (d + 1) (100 - i) (sub.drop i) n = Xp.deeps (d + 1) 100 sub 0 ∧
        s1 = ⟨[(1, .iv (.int .i64 d)), (2, .ref 1000 0 0 0), (5, .iv (.int .i64 n)), (6, .iv (.int .i64 i))], [(1000, .cells X.cs)], 1384⟩) (m := sub.length) ⟨0, 0, by omega, by omega, by omega, by omega, rfl, rfl⟩ ?_
      rintro m s1 ⟨i, n, him, hi100, hn1, hn2, hc, rfl⟩
      refine Wp.seq (Wp.seq ?_)
      refine Wp.rgn (K := 0) (s' := ⟨[(1, .iv (.int .i64 d)), (2, .ref 1000 0 0 0), (5, .iv (.int .i64 n)), (6, .iv (.int .i64 i)), (17, .iv (.bool (decide (i < sub.length) && decide (i < 100))))], [(1000, .cells X.cs)], 1960⟩) (fun n' _ => by
        have hlt : decide ((i : Int) < (sub.length : Int)) = decide (i < sub.length) := decide_eq_decide.2 (by omega)
        have hlt2 : decide ((i : Int) < 100) = decide (i < 100) := decide_eq_decide.2 (by omega)
        cases hb : decide (i < sub.length) <;> simp [evalRgn, Option.map_some, evalOps, step, wants, osem, M.run_bind, M.mapL, M.run, M.ok, M.fresh, M.write, M.look, M.lift, putD, Arb.set, ev, Arb.get, keepFr, bin, intBin, strBin, mk, params, cellsM, load, obRead, fadr, fld, isl, iarr, xarr, idx, len, valid, slc, bound, store, splice, nilc, un, eqs, eq0, evalFeet, footOf, M.foot, orderOk, apartAll, apart1, clash, meets, callM, fcallM, callee, fz1, fzC, fz, flat, flat1, flat0, flatI, Option.bind_some, putAll, M.bind, X.cs_sub, hsub, hlt, hlt2, hb]) ?_
      by_cases hgo : i < sub.length ∧ i < 100
      · refine Wp.cond (t := true) (by simp [ev, Arb.get, hgo.1, hgo.2]) ?_
        simp only [if_true]
        refine Wp.skip (Wp.seq (Wp.block ?_))
        have hx : sub[i]? = some sub[i] := List.getElem?_eq_getElem hgo.1
        obtain ⟨K, hK⟩ := ih sub[i] (List.getElem_mem _) (d + 1) (by omega) (by omega)
        have hin := Xp.deep_in sub[i] (d + 1)
        have hw : IntKind.i64.wrap (d + 1) = d + 1 := IntWalk.i64_in _ (by omega)
        refine Wp.rgn (K := K) (s' := ⟨[(1, .iv (.int .i64 d)), (2, .ref 1000 0 0 0), (5, .iv (.int .i64 (if sub[i].deep (d + 1) > n then sub[i].deep (d + 1) else n))), (6, .iv (.int .i64 i))], [(1000, .cells X.cs)], 2664⟩) (fun n' hn' => by
          have hc' := hK n' hn'
          simp only [Xp.av] at hc'
          simp [evalRgn, Option.map_some, evalOps, step, wants, osem, M.run_bind, M.mapL, M.run, M.ok, M.fresh, M.write, M.look, M.lift, putD, Arb.set, ev, Arb.get, keepFr, bin, intBin, strBin, mk, params, cellsM, load, obRead, fadr, fld, isl, iarr, xarr, idx, len, valid, slc, bound, store, splice, nilc, un, eqs, eq0, evalFeet, footOf, M.foot, orderOk, apartAll, apart1, clash, meets, callM, fcallM, callee, fz1, fzC, fz, flat, flat1, flat0, flatI, Option.bind_some, putAll, M.bind, X.cs_sub, hsub, hx, Xp.take_enc, Xp.take_enc2, Xp.len_enc, Xp.cs_len, Xp.cs_fzC, hw, hc', mxI]) ?_
        refine Wp.rgn (K := 0) (fun n _ => by simp [evalRgn, Option.map_some, evalOps, step, wants, osem, M.run_bind, M.mapL, M.run, M.ok, M.fresh, M.write, M.look, M.lift, putD, Arb.set, ev, Arb.get, keepFr, bin, intBin, strBin, mk, params, cellsM, load, obRead, fadr, fld, isl, iarr, xarr, idx, len, valid, slc, bound, store, splice, nilc, un, eqs, eq0, evalFeet, footOf, M.foot, orderOk, apartAll, apart1, clash, meets, callM, fcallM, callee, fz1, fzC, fz, flat, flat1, flat0, flatI, Option.bind_some, putAll, M.bind, wrap_succ hgo.1 hl]; rfl) ?_
        refine ⟨m - 1, by omega, i + 1, if sub[i].deep (d + 1) > n then sub[i].deep (d + 1) else n, by omega, by omega, by split <;> omega, by split <;> omega, ?_, by simp [again, keepFr, get, nrm_iv, nrm_ref0, nrmO, Xp.cs_nrm]⟩
        rw [← hc, List.drop_eq_getElem_cons hgo.1, show 100 - i = (100 - (i + 1)) + 1 by omega]
        conv => rhs; unfold Xp.deeps
      · have hfalse : (decide (i < sub.length) && decide (i < 100)) = false := by simpa using fun h => Nat.not_lt.1 fun h' => hgo ⟨h, h'⟩
        refine Wp.cond (t := false) (by simp [ev, Arb.get, hfalse]) ?_
        simp only [Bool.false_eq_true, if_false]
        refine Wp.exit ?_
        simp only [Ex.then, Ex.inBlock, if_true]
        have hfin : Xp.deeps (d + 1) 100 sub 0 = n := by
          rw [← hc]
          by_cases hi : i < sub.length
          · rw [show 100 - i = 0 by omega]; exact Xp.deeps_none _ _ _
          · rw [List.drop_eq_nil_of_le (by omega)]; unfold Xp.deeps; rfl
        refine Wp.seq ?_
        have hw3 : IntKind.i64.wrap (n + 1) = n + 1 := IntWalk.i64_in _ (by omega)
        refine Wp.rgn (K := 0) (s' := ⟨[(4, .iv (.int .i64 (X.deep d)))], [(1000, .cells X.cs)], 2216⟩) (fun n' _ => by
          rw [hcnt, hfin]
          by_cases hb : 20 < n + 1 <;> simp [evalRgn, Option.map_some, evalOps, step, wants, osem, M.run_bind, M.mapL, M.run, M.ok, M.fresh, M.write, M.look, M.lift, putD, Arb.set, ev, Arb.get, keepFr, bin, intBin, strBin, mk, params, cellsM, load, obRead, fadr, fld, isl, iarr, xarr, idx, len, valid, slc, bound, store, splice, nilc, un, eqs, eq0, evalFeet, footOf, M.foot, orderOk, apartAll, apart1, clash, meets, callM, fcallM, callee, fz1, fzC, fz, flat, flat1, flat0, flatI, Option.bind_some, putAll, M.bind, mnI, hb, hw3]) ?_
        exact Wp.ret rfl

theorem p_sets (h27 : prog 27 = some F27) (h : prog 204 = some F204) {x : Xp} (hx : x.ok) : Ans prog 204 [x.av] (.iv (.bool x.sets)) := by
  induction hx with
  | @mk k a s sub _ _ _ hl _ ih =>
    generalize hX : Xp.mk k a s sub = X
    have hsub : X.sub = sub := by rw [← hX]; rfl
    have hset : X.set = s := by rw [← hX]; rfl
    have hval : X.sets = (fewS s && sub.all Xp.sets) := by rw [← hX]; unfold Xp.sets; rw [Xp.setss_all]
    refine Ans.of h rfl rfl (Wp.seq ?_)
    refine Wp.rgn (K := 0) (s' := ⟨[(1, .ref 1000 0 0 0)], [(1000, .cells X.cs)], 1128⟩) (fun n _ => by simp [evalRgn, Option.map_some, evalOps, step, wants, osem, M.run_bind, M.mapL, M.run, M.ok, M.fresh, M.write, M.look, M.lift, putD, Arb.set, ev, Arb.get, keepFr, bin, intBin, strBin, mk, params, cellsM, load, obRead, fadr, fld, isl, iarr, xarr, idx, len, valid, slc, bound, store, splice, nilc, un, eqs, eq0, evalFeet, footOf, M.foot, orderOk, apartAll, apart1, clash, meets, callM, fcallM, callee, fz1, fzC, fz, flat, flat1, flat0, flatI, Option.bind_some, putAll, M.bind, Xp.av, Xp.cs_nilc]) ?_
    refine Wp.seq (Wp.seq ?_)
    obtain ⟨K, hK⟩ := p_few3 h27 [s] (by simp [maxLen])
    refine Wp.rgn (K := K) (s' := ⟨[(1, .ref 1000 0 0 0), (8, .iv (.bool (!fewS s)))], [(1000, .cells X.cs), (1256, .buf 0 4 [[.bool s.a, .sl 2 (s.i.map rng), .bool s.c, .sl 1 (s.s.map st1)]])], 1448⟩) (fun n' hn' => by
      have hc' := hK n' hn'
      simp only [sets, List.map_cons, List.map_nil, S.enc, List.all_cons, List.all_nil, Bool.and_true] at hc'
      simp [evalRgn, Option.map_some, evalOps, step, wants, osem, M.run_bind, M.mapL, M.run, M.ok, M.fresh, M.write, M.look, M.lift, putD, Arb.set, ev, Arb.get, keepFr, bin, intBin, strBin, mk, params, cellsM, load, obRead, fadr, fld, isl, iarr, xarr, idx, len, valid, slc, bound, store, splice, nilc, un, eqs, eq0, evalFeet, footOf, M.foot, orderOk, apartAll, apart1, clash, meets, callM, fcallM, callee, fz1, fzC, fz, flat, flat1, flat0, flatI, Option.bind_some, putAll, M.bind, X.cs_set, hset, setAll, hc']) ?_
    cases hfs : fewS s with
    | false =>
      refine Wp.cond (t := true) rfl (Wp.seq ?_)
      refine Wp.rgn (K := 0) (fun n _ => by simp [evalRgn, Option.map_some, evalOps, step, wants, osem, M.run_bind, M.mapL, M.run, M.ok, M.fresh, M.write, M.look, M.lift, putD, Arb.set, ev, Arb.get, keepFr, bin, intBin, strBin, mk, params, cellsM, load, obRead, fadr, fld, isl, iarr, xarr, idx, len, valid, slc, bound, store, splice, nilc, un, eqs, eq0, evalFeet, footOf, M.foot, orderOk, apartAll, apart1, clash, meets, callM, fcallM, callee, fz1, fzC, fz, flat, flat1, flat0, flatI, Option.bind_some, putAll, M.bind]; rfl) ?_
      refine Wp.ret ?_
      rw [hval, hfs]; rfl
    | true =>
      refine Wp.cond (t := false) rfl (Wp.skip (Wp.seq (Wp.seq ?_)))
      refine Wp.rgn (K := 0) (fun n _ => by simp [evalRgn, Option.map_some, evalOps, step, wants, osem, M.run_bind, M.mapL, M.run, M.ok, M.fresh, M.write, M.look, M.lift, putD, Arb.set, ev, Arb.get, keepFr, bin, intBin, strBin, mk, params, cellsM, load, obRead, fadr, fld, isl, iarr, xarr, idx, len, valid, slc, bound, store, splice, nilc, un, eqs, eq0, evalFeet, footOf, M.foot, orderOk, apartAll, apart1, clash, meets, callM, fcallM, callee, fz1, fzC, fz, flat, flat1, flat0, flatI, Option.bind_some, putAll, M.bind]; rfl) ?_
      refine Wp.block (Wp.range sub.length (fun i => ⟨[(1, .ref 1000 0 0 0), (3, .iv (.int .i64 i))], [(1000, .cells X.cs), (1256, .buf 0 4 [[.bool s.a, .sl 2 (s.i.map rng), .bool s.c, .sl 1 (s.s.map st1)]])], 1512⟩)
        (fun i => (sub.take i).all Xp.sets = true) rfl (by simp) ?_ ?_)
      · intro i hi hg
        have hlt : decide ((i : Int) < (sub.length : Int)) = true := decide_eq_true (by omega)
        refine Wp.seq (Wp.seq ?_)
        refine Wp.rgn (K := 0) (s' := ⟨[(1, .ref 1000 0 0 0), (3, .iv (.int .i64 i)), (13, .iv (.bool true))], [(1000, .cells X.cs), (1256, .buf 0 4 [[.bool s.a, .sl 2 (s.i.map rng), .bool s.c, .sl 1 (s.s.map st1)]])], 1832⟩) (fun n' _ => by
          simp [evalRgn, Option.map_some, evalOps, step, wants, osem, M.run_bind, M.mapL, M.run, M.ok, M.fresh, M.write, M.look, M.lift, putD, Arb.set, ev, Arb.get, keepFr, bin, intBin, strBin, mk, params, cellsM, load, obRead, fadr, fld, isl, iarr, xarr, idx, len, valid, slc, bound, store, splice, nilc, un, eqs, eq0, evalFeet, footOf, M.foot, orderOk, apartAll, apart1, clash, meets, callM, fcallM, callee, fz1, fzC, fz, flat, flat1, flat0, flatI, Option.bind_some, putAll, M.bind, X.cs_sub, hsub, hi]) ?_
        refine Wp.cond (t := true) rfl (Wp.skip (Wp.seq (Wp.block (Wp.seq ?_))))
        have hx : sub[i]? = some sub[i] := List.getElem?_eq_getElem hi
        obtain ⟨K, hK⟩ := ih sub[i] (List.getElem_mem _)
        refine Wp.rgn (K := K) (s' := ⟨[(1, .ref 1000 0 0 0), (3, .iv (.int .i64 i)), (22, .iv (.bool (!sub[i].sets)))], [(1000, .cells X.cs), (1256, .buf 0 4 [[.bool s.a, .sl 2 (s.i.map rng), .bool s.c, .sl 1 (s.s.map st1)]])], 2280⟩) (fun n' hn' => by
          have hc' := hK n' hn'
          simp only [Xp.av] at hc'
          simp [evalRgn, Option.map_some, evalOps, step, wants, osem, M.run_bind, M.mapL, M.run, M.ok, M.fresh, M.write, M.look, M.lift, putD, Arb.set, ev, Arb.get, keepFr, bin, intBin, strBin, mk, params, cellsM, load, obRead, fadr, fld, isl, iarr, xarr, idx, len, valid, slc, bound, store, splice, nilc, un, eqs, eq0, evalFeet, footOf, M.foot, orderOk, apartAll, apart1, clash, meets, callM, fcallM, callee, fz1, fzC, fz, flat, flat1, flat0, flatI, Option.bind_some, putAll, M.bind, X.cs_sub, hsub, hx, Xp.take_enc, Xp.take_enc2, Xp.len_enc, Xp.cs_len, Xp.cs_fzC, hc']) ?_
        cases hsx : sub[i].sets with
        | false =>
          refine Wp.cond (t := true) rfl (Wp.seq ?_)
          refine Wp.rgn (K := 0) (fun n _ => by simp [evalRgn, Option.map_some, evalOps, step, wants, osem, M.run_bind, M.mapL, M.run, M.ok, M.fresh, M.write, M.look, M.lift, putD, Arb.set, ev, Arb.get, keepFr, bin, intBin, strBin, mk, params, cellsM, load, obRead, fadr, fld, isl, iarr, xarr, idx, len, valid, slc, bound, store, splice, nilc, un, eqs, eq0, evalFeet, footOf, M.foot, orderOk, apartAll, apart1, clash, meets, callM, fcallM, callee, fz1, fzC, fz, flat, flat1, flat0, flatI, Option.bind_some, putAll, M.bind]; rfl) ?_
          refine Wp.ret ?_
          rw [hval, hfs, all_false hx hsx]; rfl
        | true =>
          refine Wp.cond (t := false) rfl (Wp.skip ?_)
          refine Wp.rgn (K := 0) (fun n _ => by simp [evalRgn, Option.map_some, evalOps, step, wants, osem, M.run_bind, M.mapL, M.run, M.ok, M.fresh, M.write, M.look, M.lift, putD, Arb.set, ev, Arb.get, keepFr, bin, intBin, strBin, mk, params, cellsM, load, obRead, fadr, fld, isl, iarr, xarr, idx, len, valid, slc, bound, store, splice, nilc, un, eqs, eq0, evalFeet, footOf, M.foot, orderOk, apartAll, apart1, clash, meets, callM, fcallM, callee, fz1, fzC, fz, flat, flat1, flat0, flatI, Option.bind_some, putAll, M.bind, wrap_succ hi hl]; rfl) ?_
          have hr : nrm 1512 [(1000, .cells X.cs), (1256, .buf 0 4 [[.bool s.a, .sl 2 (s.i.map rng), .bool s.c, .sl 1 (s.s.map st1)]])] 8 (.ref 1000 0 0 0) = .ref 1000 0 0 0 := by simp [nrm, Arb.get]
          refine ⟨by simp [again, keepFr, get, nrm_iv, hr, nrmO, Xp.cs_nrm], ?_⟩
          rw [take_succ_all hx, hg, hsx]; rfl
      · intro hg
        have hlt : decide ((sub.length : Int) < (sub.length : Int)) = false := decide_eq_false (by omega)
        refine Wp.seq (Wp.seq ?_)
        refine Wp.rgn (K := 0) (s' := ⟨[(1, .ref 1000 0 0 0), (3, .iv (.int .i64 sub.length)), (13, .iv (.bool false))], [(1000, .cells X.cs), (1256, .buf 0 4 [[.bool s.a, .sl 2 (s.i.map rng), .bool s.c, .sl 1 (s.s.map st1)]])], 1832⟩) (fun n' _ => by
          simp [evalRgn, Option.map_some, evalOps, step, wants, osem, M.run_bind, M.mapL, M.run, M.ok, M.fresh, M.write, M.look, M.lift, putD, Arb.set, ev, Arb.get, keepFr, bin, intBin, strBin, mk, params, cellsM, load, obRead, fadr, fld, isl, iarr, xarr, idx, len, valid, slc, bound, store, splice, nilc, un, eqs, eq0, evalFeet, footOf, M.foot, orderOk, apartAll, apart1, clash, meets, callM, fcallM, callee, fz1, fzC, fz, flat, flat1, flat0, flatI, Option.bind_some, putAll, M.bind, X.cs_sub, hsub, hlt]) ?_
        refine Wp.cond (t := false) rfl (Wp.exit ?_)
        simp only [Ex.then, Ex.inBlock, if_true]
        refine Wp.seq ?_
        refine Wp.rgn (K := 0) (fun n _ => by simp [evalRgn, Option.map_some, evalOps, step, wants, osem, M.run_bind, M.mapL, M.run, M.ok, M.fresh, M.write, M.look, M.lift, putD, Arb.set, ev, Arb.get, keepFr, bin, intBin, strBin, mk, params, cellsM, load, obRead, fadr, fld, isl, iarr, xarr, idx, len, valid, slc, bound, store, splice, nilc, un, eqs, eq0, evalFeet, footOf, M.foot, orderOk, apartAll, apart1, clash, meets, callM, fcallM, callee, fz1, fzC, fz, flat, flat1, flat0, flatI, Option.bind_some, putAll, M.bind]; rfl) ?_
        refine Wp.ret ?_
        rw [List.take_length] at hg
        rw [hval, hfs, hg]; rfl
end
end Arb

/-
  WITHOUT SLACK ONLY WHAT IS PERFECT IS MERGED.
-/
set_option linter.unusedSimpArgs false
namespace Arb
open Go

section
variable {prog : Nat → Option IFn}

theorem Ev.run {f : Nat} {args : List AV} {p : AV × Hp} (h : Ev prog f args [] p) (hp : p.1 = .iv (.bool true)) : ∃ n hp', evalF prog n f args [] = some (.iv (.bool true), hp') := by
  obtain ⟨K, h⟩ := h
  exact ⟨K, p.2, by rw [h K (Nat.le_refl _), ← hp]⟩
end
end Arb

/-
  SORTING BY INSERTION GIVES THE SAME ELEMENTS, RISING.
-/
set_option linter.unusedSimpArgs false
namespace Arb
open Go

section
variable {α : Type} {lt : α → α → Bool}

end
end Arb

/-
  RANGES IN THEIR NORMAL FORM: the same numbers, and one form alone.
-/
set_option linter.unusedSimpArgs false
namespace Arb
open Go

def inR (l : List (Int × Int)) (n : Int) : Prop := ∃ p ∈ l, p.1 ≤ n ∧ n ≤ p.2
def normal (l : List (Int × Int)) : Prop := (∀ p ∈ l, p.1 ≤ p.2) ∧ l.Pairwise fun p q => p.2 + 1 < q.1

/-! ### how it is made -/
end Arb

/-
  RISING LISTS OF STRINGS; THE UNION OF TWO SETS HAS THE VALUES OF BOTH.
-/
set_option linter.unusedSimpArgs false
namespace Arb
open Go

end Arb

/-
  RIGHT SETS; MERGERS OF TWO, WHICHEVER IS THE FIRST.
-/
set_option linter.unusedSimpArgs false
namespace Arb
open Go

/-! ### whichever is the first -/
end Arb

/-
  WHAT MERGERS THERE ARE; never both.
-/
set_option linter.unusedSimpArgs false
namespace Arb
open Go

section
variable {prog : Nat → Option IFn}

end
end Arb

/-
  VALUES; WHICH EVENTS A FILTER HAS.
-/
set_option linter.unusedSimpArgs false
namespace Arb
open Go

structure V where
  k : Int
  n : Int
  s : ByteArray
def V.enc (v : V) : List IV := [.int .i64 v.k, .int .i64 v.n, .str v.s]
def V.av (v : V) : AV := .agg [.iv (.int .i64 v.k), .iv (.int .i64 v.n), .iv (.str v.s)]
structure E where
  v0 : V
  v1 : V
  v2 : V
  v3 : V
def E.get (e : E) : Nat → V
  | 0 => e.v0
  | 1 => e.v1
  | 2 => e.v2
  | _ => e.v3
def E.enc (e : E) : List IV := e.v0.enc ++ (e.v1.enc ++ (e.v2.enc ++ e.v3.enc))
def E.cs (e : E) : List AV := e.enc.map .iv
def E.av (e : E) : AV := .agg e.cs
theorem E.cs_len (e : E) : e.cs.length = 12 := rfl
theorem E.cs_nrm (e : E) (n0 : Nat) (h : Hp) : e.cs.map (nrm n0 h 8) = e.cs := nrm_ivs n0 h e.enc
theorem E.enc_all (e : E) : e.enc.all notNil = true := by simp [E.enc, V.enc, notNil]
theorem E.cs_fzC (e : E) (w : Bool) : M.mapL (fzC w) e.cs = .ret e.cs := fzC_plain w e.enc e.enc_all
theorem E.cs_nilc (e : E) (s : Nat) : nilc s e.cs = .ret e.cs := nilc_plain e.enc s (by simp [E.enc, V.enc, notNil])

section
variable {prog : Nat → Option IFn}

end
end Arb

/-
  HEADERS, OPERATIONS; MAY A SCRIPT BE PLAYED?
-/
set_option linter.unusedSimpArgs false
namespace Arb
open Go

def Xp.few (x : Xp) : Bool := !(decide (100 ≤ x.count 0) || decide (20 ≤ x.deep 0)) && x.sets

def num1 (n : Int) : List IV := [.int .i64 n]
structure Hd where
  ps : List Int
  hs : List Int
  b : Int
  g : Int
def Hd.enc (h : Hd) : List IV := [.sl 1 (h.ps.map num1), .sl 1 (h.hs.map num1), .int .i64 h.b, .int .u64 h.g]
def Hd.cs (h : Hd) : List AV := h.enc.map .iv
def Hd.av (h : Hd) : AV := .agg h.cs
theorem Hd.enc_all (x : Hd) : x.enc.all notNil = true := by simp [Hd.enc, notNil]
theorem Hd.cs_fzC (x : Hd) (w : Bool) : M.mapL (fzC w) x.cs = .ret x.cs := fzC_plain w x.enc x.enc_all
theorem Hd.cs_nilc (x : Hd) (s : Nat) : nilc s x.cs = .ret x.cs := nilc_plain x.enc s x.enc_all
theorem Hd.cs_len (x : Hd) : x.cs.length = 4 := rfl
theorem Hd.cs_4 (x : Hd) : x.cs.take 4 = x.cs := rfl
theorem Hd.cs_nrm (x : Hd) (n0 : Nat) (h : Hp) : x.cs.map (nrm n0 h 8) = x.cs := nrm_ivs n0 h x.enc
def Hd.few (h : Hd) : Bool := decide (h.ps.length ≤ 100) && decide (h.hs.length ≤ 100)

structure Op where
  k : Int
  c : Int
  u : Int
  f : Int
  t : Int
  x : Xp
  e : E
structure Op.ok (o : Op) : Prop where
  k : in64 o.k
  c : in64 o.c
  u : in64 o.u
  f : in64 o.f
  t : in64 o.t
  x : o.x.ok
  e : ∀ i, i < 4 → in64 (o.e.get i).k ∧ in64 (o.e.get i).n ∧ (o.e.get i).s.size ≤ maxLen
def Op.enc (o : Op) : List IV := .int .i64 o.k :: .int .i64 o.c :: .int .i64 o.u :: .int .i64 o.f :: .int .i64 o.t :: (o.x.enc ++ o.e.enc)
def Op.cs (o : Op) : List AV := o.enc.map .iv
def Op.av (o : Op) : AV := .agg o.cs
def scr (l : List Op) : AV := .iv (.sl 24 (l.map Op.enc))
theorem Op.enc_all (o : Op) : o.enc.all notNil = true := by simp [Op.enc, notNil, List.all_append, Xp.enc_all, E.enc_all]
theorem Op.cs_nilc (o : Op) (s : Nat) : nilc s o.cs = .ret o.cs := nilc_plain o.enc s o.enc_all
theorem Op.cs_fzC (x : Op) (w : Bool) : M.mapL (fzC w) x.cs = .ret x.cs := fzC_plain w x.enc x.enc_all
theorem Op.enc_len (o : Op) : o.enc.length = 24 := by obtain ⟨_, _, _, _, _, x, e⟩ := o; cases x; rfl
theorem Op.cs_len (o : Op) : o.cs.length = 24 := by simp [Op.cs, Op.enc_len]
theorem Op.cs_24 (o : Op) : o.cs.take 24 = o.cs := List.take_of_length_le (by rw [Op.cs_len]; omega)
theorem Op.enc_24 (o : Op) : (o.enc.map AV.iv).take 24 = o.cs := o.cs_24
theorem Op.cs_nrm (o : Op) (n0 : Nat) (h : Hp) : o.cs.map (nrm n0 h 8) = o.cs := nrm_ivs n0 h o.enc
theorem Op.at_k' (o : Op) : o.cs.take 1 = [.iv (.int .i64 o.k)] := rfl
theorem Op.at_x (o : Op) : (o.cs.drop 5).take 7 = o.x.cs := by obtain ⟨_, _, _, _, _, x, e⟩ := o; cases x; rfl
theorem Op.at_s0 (o : Op) : (o.cs.drop 14).take 1 = [.iv (.str o.e.v0.s)] := by obtain ⟨_, _, _, _, _, x, e⟩ := o; cases x; rfl
theorem Op.at_s1 (o : Op) : (o.cs.drop 17).take 1 = [.iv (.str o.e.v1.s)] := by obtain ⟨_, _, _, _, _, x, e⟩ := o; cases x; rfl
theorem Op.at_s2 (o : Op) : (o.cs.drop 20).take 1 = [.iv (.str o.e.v2.s)] := by obtain ⟨_, _, _, _, _, x, e⟩ := o; cases x; rfl
theorem Op.at_s3 (o : Op) : (o.cs.drop 23).take 1 = [.iv (.str o.e.v3.s)] := by obtain ⟨_, _, _, _, _, x, e⟩ := o; cases x; rfl
def E.big (e : E) : Bool := decide (300 < IntKind.i64.wrap (IntKind.i64.wrap (IntKind.i64.wrap (e.v0.s.size + e.v1.s.size) + e.v2.s.size) + e.v3.s.size))
def Op.few (o : Op) : Bool := o.x.few && !o.e.big
/-- so many subscriptions -/
def subsN (l : List Op) : Nat := (l.filter fun o => o.k == 1).length
def fewL (h : Hd) (l : List Op) : Bool := l.all Op.few && (h.few && decide (subsN l ≤ 16) && decide (l.length ≤ 120))

section
variable {prog : Nat → Option IFn}

theorem p_few5 (h27 : prog 27 = some F27) (h169 : prog 169 = some F169) (h170 : prog 170 = some F170) (h204 : prog 204 = some F204) (h : prog 203 = some F203) {x : Xp} (hx : x.ok) : Ans prog 203 [x.av] (.iv (.bool x.few)) := by
  obtain ⟨K1, hK1⟩ := p_count h169 hx 0 (by omega) (by omega)
  obtain ⟨K2, hK2⟩ := p_deep h170 hx 0 (by omega) (by omega)
  obtain ⟨K3, hK3⟩ := p_sets h27 h204 hx
  refine Ans.of h rfl rfl (Wp.seq ?_)
  refine Wp.rgn (K := 0) (s' := ⟨[(1, .ref 1000 0 0 0)], [(1000, .cells x.cs)], 1128⟩) (fun n _ => by simp [evalRgn, Option.map_some, evalOps, step, wants, osem, M.run_bind, M.mapL, M.run, M.ok, M.fresh, M.write, M.look, M.lift, putD, Arb.set, ev, Arb.get, keepFr, bin, intBin, strBin, mk, params, cellsM, load, obRead, fadr, fld, isl, iarr, xarr, idx, len, valid, slc, bound, store, splice, nilc, un, eqs, eq0, evalFeet, footOf, M.foot, orderOk, apartAll, apart1, clash, meets, callM, fcallM, callee, fz1, fzC, fz, flat, flat1, flat0, flatI, Option.bind_some, putAll, M.bind, Xp.av, Xp.cs_nilc]) ?_
  refine Wp.seq (Wp.seq ?_)
  refine Wp.rgn (K := max K1 K2) (s' := ⟨[(1, .ref 1000 0 0 0), (10, .iv (.bool (decide (100 ≤ x.count 0) || decide (20 ≤ x.deep 0))))], [(1000, .cells x.cs)], 1640⟩) (fun n hn => by
    have h1 := hK1 n (by omega)
    have h2 := hK2 n (by omega)
    simp only [Xp.av] at h1 h2
    cases hb : decide (100 ≤ x.count 0) <;> simp [evalRgn, Option.map_some, evalOps, step, wants, osem, M.run_bind, M.mapL, M.run, M.ok, M.fresh, M.write, M.look, M.lift, putD, Arb.set, ev, Arb.get, keepFr, bin, intBin, strBin, mk, params, cellsM, load, obRead, fadr, fld, isl, iarr, xarr, idx, len, valid, slc, bound, store, splice, nilc, un, eqs, eq0, evalFeet, footOf, M.foot, orderOk, apartAll, apart1, clash, meets, callM, fcallM, callee, fz1, fzC, fz, flat, flat1, flat0, flatI, Option.bind_some, putAll, M.bind, Xp.cs_7, Xp.cs_len, Xp.cs_fzC, h1, h2, hb]) ?_
  cases hb : (decide (100 ≤ x.count 0) || decide (20 ≤ x.deep 0)) with
  | true =>
    refine Wp.cond (t := true) rfl (Wp.seq ?_)
    refine Wp.rgn (K := 0) (fun n _ => by simp [evalRgn, Option.map_some, evalOps, step, wants, osem, M.run_bind, M.mapL, M.run, M.ok, M.fresh, M.write, M.look, M.lift, putD, Arb.set, ev, Arb.get, keepFr, bin, intBin, strBin, mk, params, cellsM, load, obRead, fadr, fld, isl, iarr, xarr, idx, len, valid, slc, bound, store, splice, nilc, un, eqs, eq0, evalFeet, footOf, M.foot, orderOk, apartAll, apart1, clash, meets, callM, fcallM, callee, fz1, fzC, fz, flat, flat1, flat0, flatI, Option.bind_some, putAll, M.bind]; rfl) ?_
    refine Wp.ret ?_
    unfold Xp.few; rw [hb]; rfl
  | false =>
    refine Wp.cond (t := false) rfl (Wp.skip (Wp.seq ?_))
    refine Wp.rgn (K := K3) (s' := ⟨[(2, .iv (.bool x.sets))], [(1000, .cells x.cs)], 1832⟩) (fun n hn => by
      have h3 := hK3 n (by omega)
      simp only [Xp.av] at h3
      simp [evalRgn, Option.map_some, evalOps, step, wants, osem, M.run_bind, M.mapL, M.run, M.ok, M.fresh, M.write, M.look, M.lift, putD, Arb.set, ev, Arb.get, keepFr, bin, intBin, strBin, mk, params, cellsM, load, obRead, fadr, fld, isl, iarr, xarr, idx, len, valid, slc, bound, store, splice, nilc, un, eqs, eq0, evalFeet, footOf, M.foot, orderOk, apartAll, apart1, clash, meets, callM, fcallM, callee, fz1, fzC, fz, flat, flat1, flat0, flatI, Option.bind_some, putAll, M.bind, Xp.cs_7, Xp.cs_len, Xp.cs_fzC, h3]) ?_
    refine Wp.ret ?_
    unfold Xp.few; rw [hb]; cases x.sets <;> rfl

theorem p_few16 (h : prog 202 = some F202) (x : Hd) : Ans prog 202 [x.av] (.iv (.bool x.few)) := by
  refine Ans.of h rfl rfl (Wp.seq ?_)
  refine Wp.rgn (K := 0) (s' := ⟨[(1, .ref 1000 0 0 0)], [(1000, .cells x.cs)], 1128⟩) (fun n _ => by simp [evalRgn, Option.map_some, evalOps, step, wants, osem, M.run_bind, M.mapL, M.run, M.ok, M.fresh, M.write, M.look, M.lift, putD, Arb.set, ev, Arb.get, keepFr, bin, intBin, strBin, mk, params, cellsM, load, obRead, fadr, fld, isl, iarr, xarr, idx, len, valid, slc, bound, store, splice, nilc, un, eqs, eq0, evalFeet, footOf, M.foot, orderOk, apartAll, apart1, clash, meets, callM, fcallM, callee, fz1, fzC, fz, flat, flat1, flat0, flatI, Option.bind_some, putAll, M.bind, Hd.av, Hd.cs_nilc]) ?_
  refine Wp.seq ?_
  refine Wp.rgn (K := 0) (s' := ⟨[(2, .iv (.bool x.few))], [(1000, .cells x.cs)], 1832⟩) (fun n _ => by
    have e1 : decide ((x.ps.length : Int) ≤ 100) = decide (x.ps.length ≤ 100) := decide_eq_decide.2 (by omega)
    have e2 : decide ((x.hs.length : Int) ≤ 100) = decide (x.hs.length ≤ 100) := decide_eq_decide.2 (by omega)
    cases hb : decide (x.ps.length ≤ 100) <;> simp [evalRgn, Option.map_some, evalOps, step, wants, osem, M.run_bind, M.mapL, M.run, M.ok, M.fresh, M.write, M.look, M.lift, putD, Arb.set, ev, Arb.get, keepFr, bin, intBin, strBin, mk, params, cellsM, load, obRead, fadr, fld, isl, iarr, xarr, idx, len, valid, slc, bound, store, splice, nilc, un, eqs, eq0, evalFeet, footOf, M.foot, orderOk, apartAll, apart1, clash, meets, callM, fcallM, callee, fz1, fzC, fz, flat, flat1, flat0, flatI, Option.bind_some, putAll, M.bind, Hd.cs, Hd.enc, Hd.few, e1, e2, hb]) ?_
  exact Wp.ret rfl

theorem nrm_refc {n0 : Nat} (h : 1000 < n0) (cs : List AV) (r : Hp) : nrm n0 ((1000, .cells cs) :: r) 8 (.ref 1000 0 0 0) = .ref 1000 0 0 0 := by simp [nrm, Arb.get, h]
theorem subsN_take {l : List Op} {i : Nat} {o : Op} (hx : l[i]? = some o) : subsN (l.take (i + 1)) = subsN (l.take i) + (if o.k = 1 then 1 else 0) := by
  unfold subsN
  rw [List.take_add_one, hx]
  simp only [Option.toList_some, List.filter_append, List.length_append]
  by_cases h : o.k = 1 <;> simp [h]
theorem subsN_le (l : List Op) (i : Nat) : subsN (l.take i) ≤ i := by
  unfold subsN
  have h1 := List.length_filter_le (fun o : Op => o.k == 1) (l.take i)
  have h2 : (l.take i).length ≤ i := List.length_take_le i l
  omega

theorem p_few20 (h27 : prog 27 = some F27) (h169 : prog 169 = some F169) (h170 : prog 170 = some F170) (h204 : prog 204 = some F204) (h203 : prog 203 = some F203) (h202 : prog 202 = some F202) (h : prog 201 = some F201)
    (hd : Hd) (l : List Op) (hl : l.length ≤ maxLen) (hx : ∀ o ∈ l, o.x.ok) : Ans prog 201 [hd.av, scr l] (.iv (.bool (fewL hd l))) := by
  refine Ans.of h rfl rfl (Wp.seq ?_)
  refine Wp.rgn (K := 0) (s' := ⟨[(1, scr l), (2, .ref 1000 0 0 0)], [(1000, .cells hd.cs)], 1128⟩) (fun n _ => by simp [evalRgn, Option.map_some, evalOps, step, wants, osem, M.run_bind, M.mapL, M.run, M.ok, M.fresh, M.write, M.look, M.lift, putD, Arb.set, ev, Arb.get, keepFr, bin, intBin, strBin, mk, params, cellsM, load, obRead, fadr, fld, isl, iarr, xarr, idx, len, valid, slc, bound, store, splice, nilc, un, eqs, eq0, evalFeet, footOf, M.foot, orderOk, apartAll, apart1, clash, meets, callM, fcallM, callee, fz1, fzC, fz, flat, flat1, flat0, flatI, Option.bind_some, putAll, M.bind, Hd.av, Hd.cs_nilc]) ?_
  refine Wp.seq ?_
  refine Wp.rgn (K := 0) (fun n _ => by simp [evalRgn, Option.map_some, evalOps, step, wants, osem, M.run_bind, M.mapL, M.run, M.ok, M.fresh, M.write, M.look, M.lift, putD, Arb.set, ev, Arb.get, keepFr, bin, intBin, strBin, mk, params, cellsM, load, obRead, fadr, fld, isl, iarr, xarr, idx, len, valid, slc, bound, store, splice, nilc, un, eqs, eq0, evalFeet, footOf, M.foot, orderOk, apartAll, apart1, clash, meets, callM, fcallM, callee, fz1, fzC, fz, flat, flat1, flat0, flatI, Option.bind_some, putAll, M.bind]; rfl) ?_
  refine Wp.seq (Wp.seq ?_)
  refine Wp.rgn (K := 0) (fun n _ => by simp [evalRgn, Option.map_some, evalOps, step, wants, osem, M.run_bind, M.mapL, M.run, M.ok, M.fresh, M.write, M.look, M.lift, putD, Arb.set, ev, Arb.get, keepFr, bin, intBin, strBin, mk, params, cellsM, load, obRead, fadr, fld, isl, iarr, xarr, idx, len, valid, slc, bound, store, splice, nilc, un, eqs, eq0, evalFeet, footOf, M.foot, orderOk, apartAll, apart1, clash, meets, callM, fcallM, callee, fz1, fzC, fz, flat, flat1, flat0, flatI, Option.bind_some, putAll, M.bind]; rfl) ?_
  refine Wp.block (Wp.range l.length (fun i => ⟨[(1, scr l), (2, .ref 1000 0 0 0), (5, .iv (.int .i64 (subsN (l.take i)))), (6, .iv (.int .i64 i))], [(1000, .cells hd.cs)], 1256⟩) (fun i => (l.take i).all Op.few = true) rfl (by simp) ?_ ?_)
  · intro i hi hg
    refine Wp.seq (Wp.seq ?_)
    refine Wp.rgn (K := 0) (s' := ⟨[(1, scr l), (2, .ref 1000 0 0 0), (5, .iv (.int .i64 (subsN (l.take i)))), (6, .iv (.int .i64 i)), (11, .iv (.bool true))], [(1000, .cells hd.cs)], 1512⟩) (fun n' _ => by simp [evalRgn, Option.map_some, evalOps, step, wants, osem, M.run_bind, M.mapL, M.run, M.ok, M.fresh, M.write, M.look, M.lift, putD, Arb.set, ev, Arb.get, keepFr, bin, intBin, strBin, mk, params, cellsM, load, obRead, fadr, fld, isl, iarr, xarr, idx, len, valid, slc, bound, store, splice, nilc, un, eqs, eq0, evalFeet, footOf, M.foot, orderOk, apartAll, apart1, clash, meets, callM, fcallM, callee, fz1, fzC, fz, flat, flat1, flat0, flatI, Option.bind_some, putAll, M.bind, scr, hi]) ?_
    refine Wp.cond (t := true) rfl (Wp.skip (Wp.seq (Wp.block (Wp.seq ?_))))
    have hxi : l[i]? = some l[i] := List.getElem?_eq_getElem hi
    generalize ho : l[i] = o at hxi
    have hok : o.x.ok := hx o (by rw [← ho]; exact List.getElem_mem _)
    refine Wp.rgn (K := 0) (s' := ⟨[(1, scr l), (2, .ref 1000 0 0 0), (5, .iv (.int .i64 (subsN (l.take i)))), (6, .iv (.int .i64 i)), (7, .ref 1768 0 0 0)],
      [(1000, .cells hd.cs), (1777, .buf 0 2 []), (1779, .buf 0 1 []), (1780, .buf 0 7 []), (1768, .cells o.cs)], 1896⟩) (fun n' _ => by
        simp [evalRgn, Option.map_some, evalOps, step, wants, osem, M.run_bind, M.mapL, M.run, M.ok, M.fresh, M.write, M.look, M.lift, putD, Arb.set, ev, Arb.get, keepFr, bin, intBin, strBin, mk, params, cellsM, load, obRead, fadr, fld, isl, iarr, xarr, idx, len, valid, slc, bound, store, splice, nilc, un, eqs, eq0, evalFeet, footOf, M.foot, orderOk, apartAll, apart1, clash, meets, callM, fcallM, callee, fz1, fzC, fz, flat, flat1, flat0, flatI, Option.bind_some, putAll, M.bind, scr, hxi, Op.enc_24, Op.enc_len, Op.cs_len, Op.cs_nilc]) ?_
    refine Wp.seq (Wp.seq ?_)
    obtain ⟨K, hK⟩ := p_few5 h27 h169 h170 h204 h203 hok
    refine Wp.rgn (K := K) (s' := ⟨[(1, scr l), (2, .ref 1000 0 0 0), (5, .iv (.int .i64 (subsN (l.take i)))), (6, .iv (.int .i64 i)), (7, .ref 1768 0 0 0), (47, .iv (.bool (!o.few)))],
      [(1000, .cells hd.cs), (1777, .buf 0 2 []), (1779, .buf 0 1 []), (1780, .buf 0 7 []), (1768, .cells o.cs)], 3816⟩) (fun n' hn' => by
        have hc := hK n' hn'
        simp only [Xp.av] at hc
        cases hf : o.x.few <;> simp [evalRgn, Option.map_some, evalOps, step, wants, osem, M.run_bind, M.mapL, M.run, M.ok, M.fresh, M.write, M.look, M.lift, putD, Arb.set, ev, Arb.get, keepFr, bin, intBin, strBin, mk, params, cellsM, load, obRead, fadr, fld, isl, iarr, xarr, idx, len, valid, slc, bound, store, splice, nilc, un, eqs, eq0, evalFeet, footOf, M.foot, orderOk, apartAll, apart1, clash, meets, callM, fcallM, callee, fz1, fzC, fz, flat, flat1, flat0, flatI, Option.bind_some, putAll, M.bind, Op.at_x, Op.at_s0, Op.at_s1, Op.at_s2, Op.at_s3, Xp.cs_len, Xp.cs_fzC, hc, hf, Op.few, E.big]) ?_
    cases hf : o.few with
    | false =>
      refine Wp.cond (t := true) rfl (Wp.seq ?_)
      refine Wp.rgn (K := 0) (fun n _ => by simp [evalRgn, Option.map_some, evalOps, step, wants, osem, M.run_bind, M.mapL, M.run, M.ok, M.fresh, M.write, M.look, M.lift, putD, Arb.set, ev, Arb.get, keepFr, bin, intBin, strBin, mk, params, cellsM, load, obRead, fadr, fld, isl, iarr, xarr, idx, len, valid, slc, bound, store, splice, nilc, un, eqs, eq0, evalFeet, footOf, M.foot, orderOk, apartAll, apart1, clash, meets, callM, fcallM, callee, fz1, fzC, fz, flat, flat1, flat0, flatI, Option.bind_some, putAll, M.bind]; rfl) ?_
      refine Wp.ret ?_
      unfold fewL
      rw [all_false hxi hf]; rfl
    | true =>
      refine Wp.cond (t := false) rfl (Wp.skip (Wp.seq ?_))
      refine Wp.rgn (K := 0) (s' := ⟨[(1, scr l), (2, .ref 1000 0 0 0), (5, .iv (.int .i64 (subsN (l.take i)))), (6, .iv (.int .i64 i)), (50, .iv (.bool (decide (o.k = 1))))],
        [(1000, .cells hd.cs), (1777, .buf 0 2 []), (1779, .buf 0 1 []), (1780, .buf 0 7 []), (1768, .cells o.cs)], 4008⟩) (fun n' _ => by simp [evalRgn, Option.map_some, evalOps, step, wants, osem, M.run_bind, M.mapL, M.run, M.ok, M.fresh, M.write, M.look, M.lift, putD, Arb.set, ev, Arb.get, keepFr, bin, intBin, strBin, mk, params, cellsM, load, obRead, fadr, fld, isl, iarr, xarr, idx, len, valid, slc, bound, store, splice, nilc, un, eqs, eq0, evalFeet, footOf, M.foot, orderOk, apartAll, apart1, clash, meets, callM, fcallM, callee, fz1, fzC, fz, flat, flat1, flat0, flatI, Option.bind_some, putAll, M.bind, Op.at_k']; rfl) ?_
      have hle := subsN_le l i
      have hw : IntKind.i64.wrap ((subsN (l.take i) : Int) + 1) = (subsN (l.take i) : Int) + 1 := wrap_succ (N := l.length) (by omega) hl
      have hstep := subsN_take hxi
      by_cases hk : o.k = 1
      · refine Wp.cond (t := true) (by simp [ev, Arb.get, hk]) ?_
        simp only [if_true]
        refine Wp.rgn (K := 0) (fun n _ => by simp [evalRgn, Option.map_some, evalOps, step, wants, osem, M.run_bind, M.mapL, M.run, M.ok, M.fresh, M.write, M.look, M.lift, putD, Arb.set, ev, Arb.get, keepFr, bin, intBin, strBin, mk, params, cellsM, load, obRead, fadr, fld, isl, iarr, xarr, idx, len, valid, slc, bound, store, splice, nilc, un, eqs, eq0, evalFeet, footOf, M.foot, orderOk, apartAll, apart1, clash, meets, callM, fcallM, callee, fz1, fzC, fz, flat, flat1, flat0, flatI, Option.bind_some, putAll, M.bind, hw]; rfl) ?_
        refine Wp.rgn (K := 0) (fun n _ => by simp [evalRgn, Option.map_some, evalOps, step, wants, osem, M.run_bind, M.mapL, M.run, M.ok, M.fresh, M.write, M.look, M.lift, putD, Arb.set, ev, Arb.get, keepFr, bin, intBin, strBin, mk, params, cellsM, load, obRead, fadr, fld, isl, iarr, xarr, idx, len, valid, slc, bound, store, splice, nilc, un, eqs, eq0, evalFeet, footOf, M.foot, orderOk, apartAll, apart1, clash, meets, callM, fcallM, callee, fz1, fzC, fz, flat, flat1, flat0, flatI, Option.bind_some, putAll, M.bind, wrap_succ hi hl]; rfl) ?_
        refine ⟨?_, by rw [take_succ_all hxi, hg, hf]; rfl⟩
        rw [hstep, if_pos hk]
        simp [again, keepFr, get, nrm_iv, nrm_refc, nrmO, Hd.cs_nrm, scr]
      · refine Wp.cond (t := false) (by simp [ev, Arb.get, hk]) ?_
        simp only [Bool.false_eq_true, if_false]
        refine Wp.skip ?_
        refine Wp.rgn (K := 0) (fun n _ => by simp [evalRgn, Option.map_some, evalOps, step, wants, osem, M.run_bind, M.mapL, M.run, M.ok, M.fresh, M.write, M.look, M.lift, putD, Arb.set, ev, Arb.get, keepFr, bin, intBin, strBin, mk, params, cellsM, load, obRead, fadr, fld, isl, iarr, xarr, idx, len, valid, slc, bound, store, splice, nilc, un, eqs, eq0, evalFeet, footOf, M.foot, orderOk, apartAll, apart1, clash, meets, callM, fcallM, callee, fz1, fzC, fz, flat, flat1, flat0, flatI, Option.bind_some, putAll, M.bind, wrap_succ hi hl]; rfl) ?_
        refine ⟨?_, by rw [take_succ_all hxi, hg, hf]; rfl⟩
        rw [hstep, if_neg hk]
        simp [again, keepFr, get, nrm_iv, nrm_refc, nrmO, Hd.cs_nrm, scr]
  · intro hg
    refine Wp.seq (Wp.seq ?_)
    refine Wp.rgn (K := 0) (s' := ⟨[(1, scr l), (2, .ref 1000 0 0 0), (5, .iv (.int .i64 (subsN l))), (6, .iv (.int .i64 l.length)), (11, .iv (.bool false))], [(1000, .cells hd.cs)], 1512⟩) (fun n' _ => by simp [evalRgn, Option.map_some, evalOps, step, wants, osem, M.run_bind, M.mapL, M.run, M.ok, M.fresh, M.write, M.look, M.lift, putD, Arb.set, ev, Arb.get, keepFr, bin, intBin, strBin, mk, params, cellsM, load, obRead, fadr, fld, isl, iarr, xarr, idx, len, valid, slc, bound, store, splice, nilc, un, eqs, eq0, evalFeet, footOf, M.foot, orderOk, apartAll, apart1, clash, meets, callM, fcallM, callee, fz1, fzC, fz, flat, flat1, flat0, flatI, Option.bind_some, putAll, M.bind, scr]) ?_
    refine Wp.cond (t := false) rfl (Wp.exit ?_)
    simp only [Ex.then, Ex.inBlock, if_true]
    refine Wp.seq ?_
    rw [List.take_length] at hg
    obtain ⟨K, hK⟩ := p_few16 h202 hd
    refine Wp.rgn (K := K) (s' := ⟨[(4, .iv (.bool (fewL hd l)))], [(1000, .cells hd.cs)], 2280⟩) (fun n' hn' => by
      have hc := hK n' hn'
      simp only [Hd.av] at hc
      have e1 : decide ((subsN l : Int) ≤ 16) = decide (subsN l ≤ 16) := decide_eq_decide.2 (by omega)
      have e2 : decide ((l.length : Int) ≤ 120) = decide (l.length ≤ 120) := decide_eq_decide.2 (by omega)
      cases hb : hd.few <;> cases hb2 : decide (subsN l ≤ 16) <;> simp [evalRgn, Option.map_some, evalOps, step, wants, osem, M.run_bind, M.mapL, M.run, M.ok, M.fresh, M.write, M.look, M.lift, putD, Arb.set, ev, Arb.get, keepFr, bin, intBin, strBin, mk, params, cellsM, load, obRead, fadr, fld, isl, iarr, xarr, idx, len, valid, slc, bound, store, splice, nilc, un, eqs, eq0, evalFeet, footOf, M.foot, orderOk, apartAll, apart1, clash, meets, callM, fcallM, callee, fz1, fzC, fz, flat, flat1, flat0, flatI, Option.bind_some, putAll, M.bind, Hd.cs_4, Hd.cs_len, Hd.cs_fzC, scr, hc, e1, e2, hb, hb2, fewL, hg]) ?_
    exact Wp.ret rfl
end
end Arb

/-
  A FLOOD THAT IS NONE DOES NOTHING.
-/
namespace Arx
open Go Arb

section
variable {p1 : Nat → Option Arb.IFn} {p2 : Nat → Option IFn}

theorem ev210 (hp2 : PrimsLe p2) (h : p2 210 = some F210) (H : Hp) (nx : Nat) : Ev p1 p2 210 [.iv .nilp] H nx (.iv (.nsl 3), H, nx + 4) := by
  refine Ev.at hp2 (n := 3) ?_
  simp only [run2, evalF, h]
  rfl
theorem ev212 (hp2 : PrimsLe p2) (h : p2 212 = some F212) (H : Hp) (nx : Nat) : Ev p1 p2 212 [.iv .nilp] H nx (.iv (.int .i64 0), H, nx + 4) := by
  refine Ev.at hp2 (n := 3) ?_
  simp only [run2, evalF, h]
  rfl
theorem ev213 (hp2 : PrimsLe p2) (h : p2 213 = some F213) (H : Hp) (nx : Nat) : Ev p1 p2 213 [.iv .nilp] H nx (.iv (.int .i64 0), H, nx + 4) := by
  refine Ev.at hp2 (n := 3) ?_
  simp only [run2, evalF, h]
  rfl
theorem ev224 (hp2 : PrimsLe p2) (h : p2 224 = some F224) (H : Hp) (nx : Nat) : Ev p1 p2 224 [.iv .nilp] H nx (.iv (.nsl 1), H, nx + 4) := by
  refine Ev.at hp2 (n := 3) ?_
  simp only [run2, evalF, h]
  rfl
theorem ev223 (hp2 : PrimsLe p2) (h : p2 223 = some F223) (H : Hp) (nx : Nat) (k : Int) : Ev p1 p2 223 [.iv .nilp, .iv (.int .i64 k)] H nx (.iv .nilp, H, nx + 17) := by
  refine Ev.of hp2 h rfl rfl (Wp.seq ?_)
  refine Wp.rgn (K := 0) (s' := ⟨[(0, .iv .nilp), (1, .iv (.int .i64 k))], H, nx + 1⟩) (fun n _ => rfl) ?_
  refine Wp.seq (Wp.seq ?_)
  refine Wp.rgn (K := 0) (s' := ⟨[(0, .iv .nilp), (1, .iv (.int .i64 k)), (19, .iv (.bool true))], H, nx + 16⟩) (fun n _ => by
    simp [evalRgn, evalOps, step, wants, isS, osem, binM, bin, M.lift, M.run_bind, M.run, ev, fr_cons, putD, get_set, keepFr]) ?_
  refine Wp.cond (t := true) rfl (Wp.seq ?_)
  refine Wp.rgn (K := 0) (s' := ⟨[(4, .iv .nilp)], H, nx + 17⟩) (fun n _ => rfl) ?_
  exact Wp.ret ⟨rfl, rfl⟩
theorem ev211 (hp2 : PrimsLe p2) (h223 : p2 223 = some F223) (h224 : p2 224 = some F224) (h : p2 211 = some F211) (H : Hp) (nx : Nat) (k : Int) : Ev p1 p2 211 [.iv .nilp, .iv (.int .i64 k)] H nx (.iv (.nsl 1), H, nx + 27) := by
  obtain ⟨K1, hK1⟩ := ev223 (p1 := p1) hp2 h223 H (nx + 1 + 5) k
  obtain ⟨K2, hK2⟩ := ev224 (p1 := p1) hp2 h224 H (nx + 1 + 5 + 17)
  refine Ev.of hp2 h rfl rfl (Wp.seq ?_)
  refine Wp.rgn (K := 0) (s' := ⟨[(0, .iv .nilp), (1, .iv (.int .i64 k))], H, nx + 1⟩) (fun n _ => rfl) ?_
  refine Wp.seq ?_
  refine Wp.rgn (K := max K1 K2) (s' := ⟨[(4, .iv (.nsl 1))], H, nx + 27⟩) (fun n hn => by
    have h1 := hK1 n (by omega)
    have h2 := hK2 n (by omega)
    simp [evalRgn, evalOps, step, wants, isS, osem, callee, ev, fr_cons, fr_nil, M.run, putD, get_set, keepFr, h1, h2]) ?_
  exact Wp.ret ⟨rfl, rfl⟩
theorem ev214 (hp2 : PrimsLe p2) (h : p2 214 = some F214) (H : Hp) (nx : Nat) (cs : List AV) (hf : get H (4 * nx) = none) : Ev p1 p2 214 [.iv .nilp, .agg cs] H nx (.tup [.iv (.int .i64 0), .iv (.int .i64 7)], Arx.set H (4 * nx) (.cells cs), nx + 7) := by
  refine Ev.of hp2 h rfl rfl (Wp.seq ?_)
  refine Wp.rgn (K := 0) (s' := ⟨[(0, .iv .nilp), (3, .ref (4 * nx) 0 0 0)], Arx.set H (4 * nx) (.cells cs), nx + 3⟩) (fun n _ => by
    simp [evalRgn, evalOps, step, wants, isS, osem, cellsM, params, M.run_bind, M.run, M.ok, M.fresh, M.write, hf, ev, fr_cons, fr_nil, putD, get_set, keepFr]) ?_
  refine Wp.seq (Wp.seq ?_)
  refine Wp.rgn (K := 0) (s' := ⟨[(0, .iv .nilp), (3, .ref (4 * nx) 0 0 0), (8, .iv (.bool true))], Arx.set H (4 * nx) (.cells cs), nx + 5⟩) (fun n _ => rfl) ?_
  refine Wp.cond (t := true) rfl (Wp.seq ?_)
  refine Wp.rgn (K := 0) (s' := ⟨[(4, .iv (.int .i64 0)), (5, .iv (.int .i64 7))], Arx.set H (4 * nx) (.cells cs), nx + 7⟩) (fun n _ => rfl) ?_
  exact Wp.ret ⟨rfl, rfl⟩

/-- what the kernel checks: awake, twice, from nothing; what it leaves free -/
def free (h : Hp) (n : Nat) : Bool := (get h 4).isNone && (get h 32).isNone && (List.range 64).all fun k => (get h (4 * (n + k))).isNone
def twice (p1 : Nat → Option Arb.IFn) (p2 : Nat → Option IFn) (K : Nat) : Bool :=
  match run2 p1 p2 K 215 [] .nil 12 with
  | some (.iv (.bool true), h, n) => free h n && (match run2 p1 p2 K 215 [] h (n + 2) with
    | some (.iv (.bool true), h2, n2) => free h2 n2
    | _ => false)
  | _ => false
theorem free_spec {h : Hp} {n : Nat} (hf : free h n = true) : get h 4 = none ∧ get h 32 = none ∧ ∀ k, k < 64 → get h (4 * (n + k)) = none := by
  simp only [free, Bool.and_eq_true, Option.isNone_iff_eq_none, List.all_eq_true, List.mem_range] at hf
  exact ⟨hf.1.1, hf.1.2, hf.2⟩
theorem twice_spec {K : Nat} (ht : twice p1 p2 K = true) : ∃ h n h2 n2, run2 p1 p2 K 215 [] .nil 12 = some (.iv (.bool true), h, n) ∧ free h n = true ∧ run2 p1 p2 K 215 [] h (n + 2) = some (.iv (.bool true), h2, n2) ∧ free h2 n2 = true := by
  unfold twice at ht
  split at ht
  · rename_i h n e
    simp only [Bool.and_eq_true] at ht
    obtain ⟨h1, h3⟩ := ht
    split at h3
    · rename_i h2 n2 e2
      exact ⟨h, n, h2, n2, e, h1, e2, h3⟩
    · cases h3
  · cases ht

/-- with other objects there -/
theorem awake_with (hp2 : PrimsLe p2) (hm : ∀ n, MoreX (run2 p1 p2 n)) {K : Nat} {H h : Hp} {nx n : Nat} {r : AV} (e : run2 p1 p2 K 215 [] H nx = some (r, h, n)) (qs : List (Nat × Ob)) (hq : Off qs h) : Ev p1 p2 215 [] (app_ qs H) nx (r, app_ qs h, n) :=
  Ev.at hp2 ((hm K _ _ _ _ _ _ _ e).2 qs hq)

theorem fz_ivs (w : Bool) (n : Nat) : ∀ l : List IV, l.all notNil = true → M.mapL (fz w (n + 1)) (l.map AV.iv) = .ret l
  | [], _ => by simp [M.mapL]
  | x :: r, h => by
    simp only [List.all_cons, Bool.and_eq_true] at h
    have ih := fz_ivs w n r h.2
    cases x with
    | nsl e => simp [notNil] at h
    | _ => rw [List.map_cons, M.mapL, ih]; rfl

theorem callM_plain {call : Call1} {f : Nat} {args : List AV} {ys : List Arb.AV} {y : Arb.AV} {z : AV} {H : Hp} (h1 : (M.mapL (fz1 false) args).run H = some (ys, H)) (h2 : (call f ys []).bind shut = some y) (h3 : flat y = true) (h4 : ofA y = some z) :
    (callM call (.iv (.fn f [])) args).run H = some (z, H) := by
  simp [callM, callee, M.run_bind, M.lift, M.run, h1, h2, h3, h4, M.ok]

def opC (o : Arb.Op) : List AV := o.enc.map AV.iv
theorem opC_len (o : Arb.Op) : (opC o).length = 24 := by simp [opC, Arb.Op.enc_len]
theorem opC_24 (o : Arb.Op) : (opC o).take 24 = opC o := List.take_of_length_le (by rw [opC_len]; omega)
theorem opC_c (o : Arb.Op) : ((opC o).drop 1).take 1 = [.iv (.int .i64 o.c)] := rfl
theorem opC_c2 (o : Arb.Op) : (opC o).tail.take 1 = [.iv (.int .i64 o.c)] := rfl
theorem opC_fz (o : Arb.Op) : M.mapL (fz false 7) (opC o) = .ret o.enc := fz_ivs false 6 o.enc o.enc_all

theorem floodNil_law (hp2 : PrimsLe p2) (hm : ∀ n, MoreX (run2 p1 p2 n)) (h27 : p1 27 = some Arb.F27) (h169 : p1 169 = some Arb.F169) (h170 : p1 170 = some Arb.F170) (h204 : p1 204 = some Arb.F204) (h203 : p1 203 = some Arb.F203) (h202 : p1 202 = some Arb.F202) (h201 : p1 201 = some Arb.F201)
    (h275 : p2 275 = some F275) (h214 : p2 214 = some F214) (h210 : p2 210 = some F210) (h211 : p2 211 = some F211) (h223 : p2 223 = some F223) (h224 : p2 224 = some F224) (h212 : p2 212 = some F212) (h213 : p2 213 = some F213)
    {K : Nat} (ht : twice p1 p2 K = true) (o : Arb.Op) (ho : o.x.ok) : ∃ n p, run2 p1 p2 n 275 [.agg (opC o)] .nil 1 = some (.iv (.bool true), p) := by
  obtain ⟨h, n, h2, n2, e1, f1, e2, f2⟩ := twice_spec ht
  obtain ⟨f4, f32, ff⟩ := free_spec f1
  obtain ⟨g4, g32, -⟩ := free_spec f2
  obtain ⟨KA, hA⟩ := awake_with hp2 hm e1 [(4, .cells (opC o))] (fun p hp => by simp at hp; subst hp; exact f4)
  obtain ⟨KB, hB⟩ := awake_with hp2 hm e2 [(4, .cells (opC o)), (32, .buf 0 24 [opC o])] (fun p hp => by
    simp at hp; rcases hp with rfl | rfl
    · exact g4
    · exact g32)
  obtain ⟨KF, hF⟩ := p_few20 h27 h169 h170 h204 h203 h202 h201 ⟨[], [], 0, 0⟩ [o] (by simp [maxLen]) (fun x hx => by simp at hx; subst hx; exact ho)
  have hA' : ∀ m, KA ≤ m → run2 p1 p2 m 215 [] (Arx.set (Tr.nil : Hp) 4 (.cells (opC o))) 12 = some (.iv (.bool true), Arx.set h 4 (.cells (opC o)), n) := hA
  have hB' : ∀ m, KB ≤ m → run2 p1 p2 m 215 [] (Arx.set (Arx.set h 4 (.cells (opC o))) 32 (.buf 0 24 [opC o])) (n + 2) = some (.iv (.bool true), Arx.set (Arx.set h2 4 (.cells (opC o))) 32 (.buf 0 24 [opC o]), n2) := hB
  have hF' : ∀ m, KF ≤ m → (one p1 m 201 [.agg [.iv (.sl 1 []), .iv (.sl 1 []), .iv (.int .i64 0), .iv (.int .u64 0)], .iv (.sl 24 [o.enc])] []).bind shut = some (.iv (.bool (fewL ⟨[], [], 0, 0⟩ [o]))) := hF
  suffices hW : ∃ q, Wp p1 p2 F275.body ⟨params [.agg (opC o)] 0, .nil, 1⟩ (Fin F275.res (.iv (.bool true), q)) by
    obtain ⟨q, hW⟩ := hW
    obtain ⟨M, hM⟩ := Ev.of hp2 h275 rfl rfl hW
    exact ⟨M, q, hM M (Nat.le_refl M)⟩
  have g1 : Arx.get (Arx.set h 4 (Ob.cells (opC o))) 32 = none := by rw [get_set_ne _ _ (by omega)]; exact f32
  have few : ∀ (b : Bool), fewL ⟨[], [], 0, 0⟩ [o] = b → ∀ m, KF ≤ m → (callM (one p1 m) (.iv (.fn 201 [])) [.agg [.iv (.nsl 1), .iv (.nsl 1), .iv (.int .i64 0), .iv (.int .u64 0)], .own 32 0 1 0]).run (Arx.set (Arx.set h 4 (.cells (opC o))) 32 (.buf 0 24 [opC o])) =
      some (.iv (.bool b), Arx.set (Arx.set h 4 (.cells (opC o))) 32 (.buf 0 24 [opC o])) := by
    intro b hb m hm
    have a2 := hF' m hm
    rw [hb] at a2
    refine callM_plain (ys := [.agg [.iv (.sl 1 []), .iv (.sl 1 []), .iv (.int .i64 0), .iv (.int .u64 0)], .iv (.sl 24 [o.enc])]) ?_ a2 rfl rfl
    have c1 : fz1 false (.agg [.iv (.nsl 1), .iv (.nsl 1), .iv (.int .i64 0), .iv (.int .u64 0)]) = .ret (.agg [.iv (.sl 1 []), .iv (.sl 1 []), .iv (.int .i64 0), .iv (.int .u64 0)]) := rfl
    have c2 : M.mapL (M.mapL (fz false 7)) [opC o] = .ret [o.enc] := by rw [M.mapL, opC_fz]; rfl
    have c3 : (fz1 false (.own 32 0 1 0)).run (Arx.set (Arx.set h 4 (.cells (opC o))) 32 (.buf 0 24 [opC o])) = some (.iv (.sl 24 [o.enc]), Arx.set (Arx.set h 4 (.cells (opC o))) 32 (.buf 0 24 [opC o])) := by
      unfold fz1
      rw [M.run_bind]
      unfold fz
      simp only [M.run_bind, M.look, M.run, get_set_same]
      simp [M.ok, M.run, M.run_bind, c2]
    simp only [M.mapL, c1, M.bind, M.run_bind, c3, M.run]
  have regA : ∀ m, evalRgn (one p1 m) (run2 p1 p2 m) false [⟨some 1, .box 0 (.t 0), none, []⟩, ⟨some 2, .mov (.c (.iv (.bool false))), none, []⟩] [1] ⟨params [.agg (opC o)] 0, .nil, 1⟩ = some ⟨[(1, .ref 4 0 0 0)], Arx.set (Tr.nil : Hp) 4 (.cells (opC o)), 3⟩ := by
    intro m
    simp [evalRgn, evalOps, step, wants, isS, osem, cellsM, params, M.run_bind, M.run, M.ok, M.fresh, M.write, tr_nil, ev, fr_cons, putD, get_set, keepFr]
  cases hb : fewL ⟨[], [], 0, 0⟩ [o] with
  | false =>
    refine ⟨(Arx.set (Arx.set h2 4 (.cells (opC o))) 32 (.buf 0 24 [opC o]), n2), Wp.seq (Wp.rgn (K := 0) (fun m _ => regA m) (Wp.seq (Wp.seq ?_)))⟩
    refine Wp.rgn (K := max KA KF) (s' := ⟨[(1, .ref 4 0 0 0), (14, .iv (.bool true))], Arx.set (Arx.set h 4 (.cells (opC o))) 32 (.buf 0 24 [opC o]), n⟩) (fun m hm => by
      have a1 := hA' m (by omega)
      have a2 := few false hb m (by omega)
      simp [evalRgn, evalOps, step, wants, isS, osem, callee, cellsM, M.run_bind, M.run, M.ok, M.fresh, M.write, M.look, M.lift, M.mapL, ev, fr_cons, putD, get_set_same, g1, get_set, keepFr, a1, un, putAll, load, obRead, mk, opC_24, opC_len, setAll, a2]) ?_
    refine Wp.cond (t := true) rfl (Wp.seq ?_)
    refine Wp.rgn (K := KB) (s' := ⟨[(2, .iv (.bool true))], Arx.set (Arx.set h2 4 (.cells (opC o))) 32 (.buf 0 24 [opC o]), n2⟩) (fun m hm => by
      have a1 := hB' m (by omega)
      simp [evalRgn, evalOps, step, wants, isS, osem, callee, M.run, ev, fr_cons, putD, get_set, keepFr, a1]) ?_
    exact Wp.ret ⟨rfl, rfl⟩
  | true =>
    generalize hH1 : Arx.set (Arx.set h 4 (Ob.cells (opC o))) 32 (.buf 0 24 [opC o]) = H1
    have k4 : get H1 4 = some (.cells (opC o)) := by rw [← hH1, get_set_ne _ _ (by omega), get_set_same]
    have kf : ∀ k, 9 ≤ k → k < 64 → get H1 (4 * (n + k)) = none := by
      intro k hk hk'
      rw [← hH1, get_set_ne _ _ (by omega), get_set_ne _ _ (by omega)]
      exact ff k hk'
    obtain ⟨K14, h14⟩ := ev214 (p1 := p1) hp2 h214 H1 (n + 1 + 8) (opC o) (kf 9 (by omega) (by omega))
    generalize hH2 : Arx.set H1 (4 * (n + 1 + 8)) (Ob.cells (opC o)) = H2 at h14
    have j4 : get H2 4 = some (.cells (opC o)) := by rw [← hH2, get_set_ne _ _ (by omega)]; exact k4
    obtain ⟨K10, h10⟩ := ev210 (p1 := p1) hp2 h210 H2 (n + 1 + 8 + 7 + 25)
    obtain ⟨K11, h11⟩ := ev211 (p1 := p1) hp2 h223 h224 h211 H2 (n + 1 + 8 + 7 + 25 + 4) o.c
    obtain ⟨K12, h12⟩ := ev212 (p1 := p1) hp2 h212 H2 (n + 1 + 8 + 7 + 25 + 4 + 27)
    obtain ⟨K13, h13⟩ := ev213 (p1 := p1) hp2 h213 H2 (n + 1 + 8 + 7 + 25 + 4 + 27 + 4)
    refine ⟨(H2, n + 1 + 8 + 7 + 25 + 4 + 27 + 4 + 4), Wp.seq (Wp.rgn (K := 0) (fun m _ => regA m) (Wp.seq (Wp.seq ?_)))⟩
    refine Wp.rgn (K := max KA KF) (s' := ⟨[(1, .ref 4 0 0 0), (14, .iv (.bool false))], H1, n⟩) (fun m hm => by
      have a1 := hA' m (by omega)
      have a2 := few true hb m (by omega)
      rw [hH1] at a2
      simp [evalRgn, evalOps, step, wants, isS, osem, callee, cellsM, M.run_bind, M.run, M.ok, M.fresh, M.write, M.look, M.lift, M.mapL, ev, fr_cons, putD, get_set_same, g1, get_set, keepFr, a1, un, putAll, load, obRead, mk, opC_24, opC_len, setAll, hH1, a2]) ?_
    refine Wp.cond (t := false) rfl (Wp.skip (Wp.seq ?_))
    refine Wp.rgn (K := 0) (s' := ⟨[(1, .ref 4 0 0 0), (3, .iv .nilp)], H1, n + 1⟩) (fun m _ => rfl) (Wp.seq ?_)
    refine Wp.rgn (K := K14) (s' := ⟨[(1, .ref 4 0 0 0), (3, .iv .nilp), (5, .iv (.int .i64 7))], H2, n + 1 + 8 + 7⟩) (fun m hm => by
      have a1 := h14 m (by omega)
      simp [evalRgn, evalOps, step, wants, isS, osem, callee, M.run_bind, M.run, M.ok, M.look, M.lift, ev, fr_cons, putD, get_set_same, get_set, keepFr, load, obRead, mk, opC_24, opC_len, k4, a1]) (Wp.seq ?_)
    refine Wp.rgn (K := max (max K10 K11) (max K12 K13)) (s' := ⟨[(2, .iv (.bool true))], H2, n + 1 + 8 + 7 + 25 + 4 + 27 + 4 + 4⟩) (fun m hm => by
      have a1 := h10 m (by omega)
      have a2 := h11 m (by omega)
      have a3 := h12 m (by omega)
      have a4 := h13 m (by omega)
      simp [evalRgn, evalOps, step, wants, isS, osem, binM, bin, intBin, len, fadr, callee, M.run_bind, M.run, M.ok, M.look, M.lift, ev, fr_cons, putD, get_set_same, get_set, keepFr, load, obRead, valid, mk, opC_c, opC_c2, opC_len, j4, a1, a2, a3, a4, show IntKind.i64.wrap 0 = 0 by decide]) ?_
    exact Wp.ret ⟨rfl, rfl⟩
end
end Arx

/-
  WHAT COMES IN: operations, headers, events.
-/
namespace Arx
open Go Arb

def SubOK (x : IV) : Prop := ∃ sub : List Xp, x = .sl 7 (sub.map Xp.enc) ∧ sub.length ≤ maxLen ∧ ∀ y ∈ sub, y.ok

theorem fit_int {k : IntKind} {x : IV} (h : Fit (.int k) x) : ∃ n, x = .int k n ∧ (Lit.int k n).wf = true := by cases h; exact ⟨_, rfl, by assumption⟩
theorem fit_str {x : IV} (h : Fit .str x) : ∃ s, x = .str s ∧ s.size ≤ maxLen := by cases h; exact ⟨_, rfl, by assumption⟩
theorem fit_bool {x : IV} (h : Fit .bool x) : ∃ s, x = .bool s := by cases h; exact ⟨_, rfl⟩
theorem fit_sl {es : List Sh} {x : IV} (h : Fit (.sl es) x) : ∃ rows, x = .sl es.length rows ∧ rows.length ≤ maxLen ∧ ∀ r ∈ rows, FitL es r := by cases h; exact ⟨_, rfl, by assumption, by assumption⟩
theorem FitL.one {a : Sh} {ss : List Sh} {xs : List IV} (h : FitL (a :: ss) xs) : ∃ x r, xs = x :: r ∧ Fit a x ∧ FitL ss r := by cases h; exact ⟨_, _, rfl, by assumption, by assumption⟩
theorem FitL.none {xs : List IV} (h : FitL [] xs) : xs = [] := by cases h; rfl
theorem FitL.split : ∀ {ss ts : List Sh} {xs : List IV}, FitL (ss ++ ts) xs → ∃ a b, xs = a ++ b ∧ FitL ss a ∧ FitL ts b
  | [], _, xs, h => ⟨[], xs, rfl, .nil, h⟩
  | _ :: _, _, _, .cons h hs => by
    obtain ⟨a, b, rfl, ha, hb⟩ := FitL.split hs
    exact ⟨_ :: a, b, rfl, .cons h ha, hb⟩

def shSet : List Sh := [.bool, .sl [.int .i64, .int .i64], .bool, .sl [.str]]
def shVal : List Sh := [.int .i64, .int .i64, .str]
def shEv : List Sh := shVal ++ (shVal ++ (shVal ++ shVal))
def shOp : List Sh := [.int .i64, .int .i64, .int .i64, .int .i64, .int .i64] ++ (shExpr ++ shEv)
theorem fit_rng {r : List IV} (h : FitL [.int .i64, .int .i64] r) : ∃ p, r = rng p ∧ (in64 p.1 ∧ in64 p.2) := by
  obtain ⟨x, r, rfl, hx, h⟩ := h.one
  obtain ⟨y, r, rfl, hy, h⟩ := h.one
  obtain rfl := h.none
  obtain ⟨n, rfl, hn⟩ := fit_int hx
  obtain ⟨m, rfl, hm⟩ := fit_int hy
  exact ⟨(n, m), rfl, wf64 hn, wf64 hm⟩
theorem fit_st1 {r : List IV} (h : FitL [.str] r) : ∃ p, r = st1 p ∧ p.size ≤ maxLen := by
  obtain ⟨x, r, rfl, hx, h⟩ := h.one
  obtain rfl := h.none
  obtain ⟨n, rfl, hn⟩ := fit_str hx
  exact ⟨n, rfl, hn⟩
theorem fit_set {xs : List IV} (h : FitL shSet xs) : ∃ s : S, xs = s.enc ∧ s.ok := by
  obtain ⟨a, _, rfl, ha, h⟩ := h.one
  obtain ⟨b, _, rfl, hb, h⟩ := h.one
  obtain ⟨c, _, rfl, hc, h⟩ := h.one
  obtain ⟨d, _, rfl, hd, h⟩ := h.one
  obtain rfl := h.none
  obtain ⟨va, rfl⟩ := fit_bool ha
  obtain ⟨vc, rfl⟩ := fit_bool hc
  obtain ⟨rows, rfl, hr1, hr2⟩ := fit_sl hb
  obtain ⟨strs, rfl, hs1, hs2⟩ := fit_sl hd
  obtain ⟨l, rfl, hl⟩ := rows_map rng (fun p => in64 p.1 ∧ in64 p.2) rows fun r hr => fit_rng (hr2 r hr)
  obtain ⟨t, rfl, ht⟩ := rows_map st1 (fun p => p.size ≤ maxLen) strs fun r hr => fit_st1 (hs2 r hr)
  exact ⟨⟨va, l, vc, t⟩, rfl, by rwa [List.length_map] at hr1, by rwa [List.length_map] at hs1, hl, ht⟩

theorem exp_of {r : List IV} (h : FitL shExpr r) (hs : ∃ x, r[6]? = some x ∧ SubOK x) : ∃ X : Xp, r = X.enc ∧ X.ok := by
  obtain ⟨k, _, rfl, hk, h⟩ := FitL.one h
  obtain ⟨a, _, rfl, ha, h⟩ := FitL.one h
  obtain ⟨c1, _, rfl, h1, h⟩ := FitL.one h
  obtain ⟨c2, _, rfl, h2, h⟩ := FitL.one h
  obtain ⟨c3, _, rfl, h3, h⟩ := FitL.one h
  obtain ⟨c4, _, rfl, h4, h⟩ := FitL.one h
  obtain ⟨c5, _, rfl, h5, h⟩ := FitL.one h
  obtain rfl := FitL.none h
  obtain ⟨k, rfl, hk'⟩ := fit_int hk
  obtain ⟨a, rfl, ha'⟩ := fit_int ha
  obtain ⟨x, hx, sub, rfl, hl, hok⟩ := hs
  simp at hx; subst hx
  obtain ⟨s, hs, hsok⟩ := fit_set (.cons h1 (.cons h2 (.cons h3 (.cons h4 .nil))))
  refine ⟨.mk k a s sub, ?_, .mk (wf64 hk') (wf64 ha') hsok hl hok⟩
  simp only [S.enc, List.cons.injEq, and_true] at hs
  obtain ⟨rfl, rfl, rfl, rfl⟩ := hs
  simp [Xp.enc, Xp.encs_map]

theorem sub_of_fit {s : Sh} {x : IV} (h : Fit s x) : s = .ex → SubOK x := by
  refine Fit.rec (motive_1 := fun s x _ => s = Sh.ex → SubOK x) (motive_2 := fun ss xs _ => ∀ i : Nat, ss[i]? = some Sh.ex → ∃ x, xs[i]? = some x ∧ SubOK x) ?_ ?_ ?_ ?_ ?_ ?_ ?_ h
  · intro b h; cases h
  · intro k n hw h; cases h
  · intro s hs h; cases h
  · intro es rows hl hr ih h; cases h
  · intro rows hl hr ih _
    obtain ⟨sub, rfl, hok⟩ := rows_map Xp.enc Xp.ok rows fun r hr' => exp_of (hr r hr') (ih r hr' 6 rfl)
    exact ⟨sub, rfl, by rwa [List.length_map] at hl, hok⟩
  · intro i hi; simp at hi
  · intro s ss x xs h hs ih1 ih2 i hi
    cases i with
    | zero =>
      simp at hi
      exact ⟨x, rfl, ih1 hi⟩
    | succ i => exact ih2 i (by simpa using hi)
theorem fit_exp {r : List IV} (h : FitL shExpr r) : ∃ X : Xp, r = X.enc ∧ X.ok := by
  refine exp_of h ?_
  obtain ⟨_, _, rfl, _, h⟩ := FitL.one h
  obtain ⟨_, _, rfl, _, h⟩ := FitL.one h
  obtain ⟨_, _, rfl, _, h⟩ := FitL.one h
  obtain ⟨_, _, rfl, _, h⟩ := FitL.one h
  obtain ⟨_, _, rfl, _, h⟩ := FitL.one h
  obtain ⟨_, _, rfl, _, h⟩ := FitL.one h
  obtain ⟨x, _, rfl, h6, h⟩ := FitL.one h
  exact ⟨x, rfl, sub_of_fit h6 rfl⟩

theorem fit_val {xs : List IV} (h : FitL shVal xs) : ∃ v : V, xs = v.enc ∧ (in64 v.k ∧ in64 v.n ∧ v.s.size ≤ maxLen) := by
  obtain ⟨a, _, rfl, ha, h⟩ := h.one
  obtain ⟨b, _, rfl, hb, h⟩ := h.one
  obtain ⟨c, _, rfl, hc, h⟩ := h.one
  obtain rfl := h.none
  obtain ⟨k, rfl, hk⟩ := fit_int ha
  obtain ⟨n, rfl, hn⟩ := fit_int hb
  obtain ⟨s, rfl, hs⟩ := fit_str hc
  exact ⟨⟨k, n, s⟩, rfl, wf64 hk, wf64 hn, hs⟩
theorem fit_ev {xs : List IV} (h : FitL shEv xs) : ∃ e : E, xs = e.enc ∧ ∀ i, i < 4 → in64 (e.get i).k ∧ in64 (e.get i).n ∧ (e.get i).s.size ≤ maxLen := by
  obtain ⟨_, r1, rfl, h0, h⟩ := FitL.split h
  obtain ⟨_, r2, rfl, h1, h⟩ := FitL.split h
  obtain ⟨_, _, rfl, h2, h3⟩ := FitL.split h
  obtain ⟨v0, rfl, k0⟩ := fit_val h0
  obtain ⟨v1, rfl, k1⟩ := fit_val h1
  obtain ⟨v2, rfl, k2⟩ := fit_val h2
  obtain ⟨v3, rfl, k3⟩ := fit_val h3
  refine ⟨⟨v0, v1, v2, v3⟩, rfl, fun i hi => ?_⟩
  match i, hi with
  | 0, _ => exact k0
  | 1, _ => exact k1
  | 2, _ => exact k2
  | 3, _ => exact k3
theorem fit_op {xs : List IV} (h : FitL shOp xs) : ∃ o : Arb.Op, xs = o.enc ∧ o.ok := by
  obtain ⟨a, _, rfl, ha, h⟩ := FitL.one h
  obtain ⟨b, _, rfl, hb, h⟩ := FitL.one h
  obtain ⟨c, _, rfl, hc, h⟩ := FitL.one h
  obtain ⟨d, _, rfl, hd, h⟩ := FitL.one h
  obtain ⟨e, _, rfl, he, h⟩ := FitL.one h
  obtain ⟨x, v, rfl, hx, hv⟩ := FitL.split (ss := shExpr) (ts := shEv) h
  obtain ⟨a, rfl, ha'⟩ := fit_int ha
  obtain ⟨b, rfl, hb'⟩ := fit_int hb
  obtain ⟨c, rfl, hc'⟩ := fit_int hc
  obtain ⟨d, rfl, hd'⟩ := fit_int hd
  obtain ⟨e, rfl, he'⟩ := fit_int he
  obtain ⟨X, rfl, hX⟩ := fit_exp hx
  obtain ⟨E, rfl, hE⟩ := fit_ev hv
  exact ⟨⟨a, b, c, d, e, X, E⟩, rfl, wf64 ha', wf64 hb', wf64 hc', wf64 hd', wf64 he', hX, hE⟩
theorem arg_op {x : AV} (h : ArgIs true shOp x) : ∃ o : Arb.Op, x = .agg (o.enc.map .iv) ∧ o.ok := by
  obtain ⟨xs, h, rfl⟩ := h
  obtain ⟨o, rfl, ho⟩ := fit_op h
  exact ⟨o, rfl, ho⟩
end Arx

/-
  FloodNil, plain.
-/
namespace Arx
open Go Arb

theorem twice_ok : twice (Arb.get Tied.fns1) (Arx.get Tied.fns2) 60 = true := by kernel_rfl

theorem floodNil_top {x : AV} (h : ArgIs true shOp x) : ∃ n p, run2 (Arb.get Tied.fns1) (Arx.get Tied.fns2) n 275 [x] .nil 1 = some (.iv (.bool true), p) := by
  obtain ⟨o, rfl, ho⟩ := arg_op h
  exact floodNil_law Tied.le2 Tied.more2 rfl rfl rfl rfl rfl rfl rfl rfl rfl rfl rfl rfl rfl rfl rfl twice_ok o ho.x
end Arx
