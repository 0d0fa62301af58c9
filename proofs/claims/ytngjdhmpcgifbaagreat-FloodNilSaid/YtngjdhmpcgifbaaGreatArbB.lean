/-
  MAPS of the call's own.
-/
import Derived.WideKeyRuns
import Derived.Laws.BytesArg
import Derived.WalkLawsBesides
import Derived.WalkSpells
import Derived.Test.YtngjdhmpcgifbaaGreatArbA
namespace Arb
open Go Go.RowKit

def keyB (P : Program) (t : TypeId) (qs : List Nat) : Bool :=
  match P.underlying t with
  | some (.array n e) => qs.length == n && qs.length != 1 && tyB P e 1 false && qs.all fun q => qtyB q (P.underlying e)
  | d => (match qs with | [q] => qtyB q d | _ => false)

section
variable {ν : Nat → Nat} {P : Program} {k : Cx} {g : Gh}

theorem keyB_one {t : TypeId} {qs : List Nat} (h : keyB P t qs = true) : (∃ n e, P.underlying t = some (.array n e) ∧ qs.length = n ∧ qs.length ≠ 1 ∧ tyB P e 1 false = true ∧ ∀ q ∈ qs, qtyB q (P.underlying e) = true) ∨ ∃ q, qs = [q] ∧ qtyB q (P.underlying t) = true := by
  unfold keyB at h
  split at h
  · rename_i n e hu
    simp only [Bool.and_eq_true, beq_iff_eq, bne_iff_ne, ne_eq, List.all_eq_true] at h
    exact .inl ⟨n, e, hu, h.1.1.1, h.1.1.2, h.1.2, h.2⟩
  · split at h
    · rename_i q; exact .inr ⟨q, rfl, h⟩
    · cases h

theorem items_ok {e : TypeId} (he : tyB P e 1 false = true) {xs ys : Array Value} (d : Nat) (w : World) : ∀ (qs : List Nat) (i : Nat) (cs ds : List AV) (b : Bool), (∀ q ∈ qs, qtyB q (P.underlying e) = true) → eqs qs cs ds = some b →
    (∀ (j : Nat) (c : AV), cs[j]? = some c → ∃ v, xs[i + j]? = some v ∧ RA ν g v c) → (∀ (j : Nat) (c : AV), ds[j]? = some c → ∃ v, ys[i + j]? = some v ∧ RA ν g v c) →
    (Op.eqItems (d + 1) e 1 xs ys (List.range' i qs.length)).run P w = .ok b w := by
  intro qs
  induction qs with
  | nil =>
    intro i cs ds b _ h2 _ _
    cases cs <;> cases ds <;> simp [eqs] at h2
    subst h2
    simp [Op.eqItems]
  | cons q qs ih =>
    intro i cs ds b h1 h2 hx hy
    cases cs with
    | nil => simp [eqs] at h2
    | cons c cs =>
      cases ds with
      | nil => simp [eqs] at h2
      | cons d' ds =>
        simp only [eqs, Option.bind_eq_some_iff] at h2
        obtain ⟨b1, e1, b2, e2, e3⟩ := h2
        cases e3
        obtain ⟨v, hv, hvR⟩ := hx 0 c rfl
        obtain ⟨u, hu, huR⟩ := hy 0 d' rfl
        obtain ⟨dd, ii, h3, h4, h5, h6, _⟩ := tyB_spec he
        have hp1 : (part e xs (i * 1)).run P w = .ok v w := by simp [part, run_isAgg h3, h5, show xs[i]? = some v from hv]
        have hp2 : (part e ys (i * 1)).run P w = .ok u w := by simp [part, run_isAgg h3, h5, show ys[i]? = some u from hu]
        have he0 := eq0_ok (P := P) e1 (h1 q (by simp)) hvR huR d w
        have hr := ih (i + 1) cs ds b2 (fun q hq => h1 q (by simp [hq])) e2 (fun j c hc => by have := hx (j + 1) c (by simpa using hc); rwa [show i + 1 + j = i + (j + 1) by omega]) (fun j c hc => by
          have := hy (j + 1) c (by simpa using hc); rwa [show i + 1 + j = i + (j + 1) by omega])
        simp only [List.length_cons, List.range'_succ, Op.eqItems, Sem.run_bind, hp1, hp2, he0, Result.andThen_ok, Sem.run_ite]
        cases b1
        · simp
        · simp [hr]

theorem cellsOf_tyB {e : TypeId} (he : tyB P e 1 false = true) : P.cellsOf e = 1 ∧ ∃ i, P.info? e = some i ∧ i.size = 1 := by
  obtain ⟨dd, ii, h3, h4, h5, h6, _⟩ := tyB_spec he
  exact ⟨by simp [Program.cellsOf, h4, h6], ii, h4, h6⟩

theorem key_eq {t : TypeId} {qs : List Nat} (h : keyB P t qs = true) {x y : AV} {b : Bool} (e : eqk qs x y = some b) {v u : Value} (hv : RA ν g v x) (hu : RA ν g u y) (w : World) : (Op.equal t v u).run P w = .ok b w := by
  unfold eqk at e
  split at e
  · split at e
    · cases e
    rename_i cs ds h1
    rcases keyB_one h with ⟨n, el, hut, rfl, _, he, hq⟩ | ⟨q, rfl, _⟩
    · obtain ⟨xs, rfl⟩ := hv.aggv
      obtain ⟨ys, rfl⟩ := hu.aggv
      obtain ⟨hc, i, hi, _⟩ := cellsOf_tyB he
      show (Op.equalIn (9999 + 1) t (.agg xs) (.agg ys)).run P w = _
      rw [run_equalIn_array w 9999 xs ys hut hi, hc, List.range_eq_range']
      exact items_ok he 9998 w qs 0 cs ds b hq e (fun j c hc => by simpa using hv.agg_get j c hc) (fun j c hc => by simpa using hu.agg_get j c hc)
    · simp at h1
  · split at e
    case isFalse => cases e
    rename_i x y h1
    rcases keyB_one h with ⟨n, el, hut, rfl, hne, _⟩ | ⟨q, rfl, hq⟩
    · exact absurd h1 hne
    · simp only [eqs, Option.bind_eq_some_iff] at e
      obtain ⟨b1, e1, b2, e2, e3⟩ := e
      cases e2; cases e3
      have := eq0_ok (P := P) e1 hq hv hu 9999 w
      simpa [Op.equal, Op.maxDepth] using this
  · cases e

/-- what was found stands for what was found -/
def FindR (es : List MapEntry) (i : Nat) : Option (Nat × AV) → Option (Nat × Value) → Prop
  | none, r => r = none
  | some p, r => ∃ e, i ≤ p.1 ∧ es[p.1 - i]? = some e ∧ r = some (p.1, e.val)
theorem FindR.up {es : List MapEntry} {e : MapEntry} {i : Nat} {a : Option (Nat × AV)} {r : Option (Nat × Value)} (h : FindR es (i + 1) a r) : FindR (e :: es) i a r := by
  cases a with
  | none => exact h
  | some p =>
    obtain ⟨e', h1, h2, h3⟩ := h
    refine ⟨e', by omega, ?_, h3⟩
    rw [show p.1 - i = (p.1 - (i + 1)) + 1 by omega]
    simpa using h2
/-- where it was found -/
theorem mfind_at {qs : List Nat} {kk : AV} : ∀ {kvs : List (AV × AV)} {i : Nat} {p : Nat × AV}, mfind qs kk kvs i = some (some p) → ∃ y, i ≤ p.1 ∧ kvs[p.1 - i]? = some (y, p.2) ∧ eqk qs kk y = some true
  | [], i, p, h => by simp [mfind] at h
  | kv :: kvs, i, p, h => by
    unfold mfind at h
    split at h
    · rename_i hk
      cases h
      exact ⟨kv.1, Nat.le_refl _, by simp, hk⟩
    · obtain ⟨y, h1, h2, h3⟩ := mfind_at h
      refine ⟨y, by omega, ?_, h3⟩
      rw [show p.1 - i = (p.1 - (i + 1)) + 1 by omega]
      simpa using h2
    · cases h

def KeysR (ν : Nat → Nat) (g : Gh) (es : List MapEntry) (kvs : List (AV × AV)) : Prop := es.length = kvs.length ∧ ∀ (j : Nat) (e : MapEntry) (p : AV × AV), es[j]? = some e → kvs[j]? = some p → RA ν g e.key p.1
theorem KeysR.cons {e : MapEntry} {es : List MapEntry} {p : AV × AV} {kvs : List (AV × AV)} (h : KeysR ν g (e :: es) (p :: kvs)) : RA ν g e.key p.1 ∧ KeysR ν g es kvs :=
  ⟨h.2 0 e p rfl rfl, by have := h.1; simpa using this, fun j e p h1 h2 => h.2 (j + 1) e p (by simpa using h1) (by simpa using h2)⟩

theorem findAsking_ok {t : TypeId} {qs : List Nat} (h : keyB P t qs = true) {x : AV} {v : Value} (hv : RA ν g v x) (w : World) : ∀ (es : List MapEntry) (kvs : List (AV × AV)) (i : Nat) (a : Option (Nat × AV)), KeysR ν g es kvs → mfind qs x kvs i = some a →
    ∃ r, (Instr.findAsking t v es i).run P w = .ok r w ∧ FindR es i a r := by
  intro es
  induction es with
  | nil =>
    intro kvs i a hR hf
    obtain rfl : kvs = [] := List.eq_nil_of_length_eq_zero hR.1.symm
    simp [mfind] at hf
    subst hf
    exact ⟨none, by simp [Instr.findAsking], rfl⟩
  | cons e es ih =>
    intro kvs i a hR hf
    cases kvs with
    | nil => have := hR.1; simp at this
    | cons p kvs =>
      obtain ⟨h0, hR'⟩ := hR.cons
      unfold mfind at hf
      split at hf
      · rename_i hk
        cases hf
        have := key_eq h hk hv h0 w
        exact ⟨some (i, e.val), by simp [Instr.findAsking, this], e, Nat.le_refl _, by simp, rfl⟩
      · rename_i hk
        have := key_eq h hk hv h0 w
        obtain ⟨r, h1, h2⟩ := ih kvs (i + 1) a hR' hf
        exact ⟨r, by simp [Instr.findAsking, this, h1], h2.up⟩
      · cases hf

theorem now_eq {q : Nat} {d : TypeDesc} (hq : qtyB q (some d) = true) {x y : AV} {b : Bool} (e : eq0 q x y = some b) {v u : Value} (hv : RA ν g v x) (hu : RA ν g u y) : Instr.sameNow d v u = some b := by
  unfold eq0 at e
  split at e
  · obtain rfl := hv.int
    obtain rfl := hu.int
    obtain ⟨kk, h1⟩ := qtyB_int hq
    cases h1
    simp only [Option.ite_none_right_eq_some, Option.some.injEq] at e
    obtain ⟨hk, rfl⟩ := e
    simp [Instr.sameNow, hk]
  · cases e
    obtain rfl := hv.bool
    obtain rfl := hu.bool
    have := qtyB_bool hq
    cases this
    rfl
  · cases e
    obtain rfl := hv.str
    obtain rfl := hu.str
    have := qtyB_str hq
    cases this
    rfl
  · cases e

theorem findNow_ok {q : Nat} {d : TypeDesc} (hq : qtyB q (some d) = true) {x : AV} {v : Value} (hv : RA ν g v x) : ∀ (es : List MapEntry) (kvs : List (AV × AV)) (i : Nat) (a : Option (Nat × AV)), KeysR ν g es kvs → mfind [q] x kvs i = some a →
    ∃ r, Instr.findNow d v es i = some r ∧ FindR es i a r := by
  intro es
  induction es with
  | nil =>
    intro kvs i a hR hf
    obtain rfl : kvs = [] := List.eq_nil_of_length_eq_zero hR.1.symm
    simp [mfind] at hf
    subst hf
    exact ⟨none, by simp [Instr.findNow], rfl⟩
  | cons e es ih =>
    intro kvs i a hR hf
    cases kvs with
    | nil => have := hR.1; simp at this
    | cons p kvs =>
      obtain ⟨h0, hR'⟩ := hR.cons
      have key : ∀ {b : Bool}, eqk [q] x p.1 = some b → Instr.sameNow d v e.key = some b := by
        intro b hk
        unfold eqk at hk
        split at hk
        · simp at hk
        · simp only [List.length_singleton, if_true, eqs, Option.bind_eq_some_iff] at hk
          obtain ⟨b1, e1, b2, e2, e3⟩ := hk
          rename_i hp
          cases e2; cases e3
          rw [← hp] at e1
          simpa using now_eq hq e1 hv h0
        · cases hk
      unfold mfind at hf
      split at hf
      · rename_i hk
        cases hf
        exact ⟨some (i, e.val), by simp [Instr.findNow, key hk], e, Nat.le_refl _, by simp, rfl⟩
      · rename_i hk
        obtain ⟨r, h1, h2⟩ := ih kvs (i + 1) a hR' hf
        exact ⟨r, by simp [Instr.findNow, key hk, h1], h2.up⟩
      · cases hf

theorem find_ok {t : TypeId} {qs : List Nat} (h : keyB P t qs = true) {x : AV} {v : Value} (hv : RA ν g v x) (w : World) {es : List MapEntry} {kvs : List (AV × AV)} {a : Option (Nat × AV)} (hR : KeysR ν g es kvs) (hf : mfind qs x kvs 0 = some a) :
    ∃ r, (Instr.findKey t v es).run P w = .ok r w ∧ FindR es 0 a r := by
  rcases keyB_one h with ⟨n, el, hut, _⟩ | ⟨q, rfl, hq⟩
  · rw [run_findKey_eq w (by rw [hut])]
    exact findAsking_ok h hv w es kvs 0 a hR hf
  · cases hd : P.underlying t with
    | none => rw [hd] at hq; simp [qtyB] at hq
    | some d =>
      rw [hd] at hq
      obtain ⟨r, h1, h2⟩ := findNow_ok hq hv es kvs 0 a hR hf
      exact ⟨r, Go.MapKept.run_findKey hd h1, h2⟩

theorem basic_check {q : Nat} {e : TypeId} (hq : qtyB q (P.underlying e) = true) (em : Bool) (n : Nat) (v : Value) (w : World) : (Instr.checkKey em (n + 1) e v).run P w = .ok () w := by
  cases hd : P.underlying e with
  | none => rw [hd] at hq; simp [qtyB] at hq
  | some d =>
    rw [hd] at hq
    unfold Instr.checkKey
    simp only [Sem.run_bind, run_underlying hd, Result.andThen_ok]
    cases d <;> first | (simp [qtyB] at hq; done) | (cases v <;> rfl)

theorem check_ok {t : TypeId} {qs : List Nat} (h : keyB P t qs = true) {x : AV} (hx : keyOk qs x = true) {v : Value} (hv : RA ν g v x) (em : Bool) (w : World) : (Instr.checkKey em 10000 t v).run P w = .ok () w := by
  rcases keyB_one h with ⟨n, el, hut, hn, hne, he, hq⟩ | ⟨q, rfl, hq⟩
  · cases x with
    | agg cs =>
      simp only [keyOk, Bool.and_eq_true, beq_iff_eq] at hx
      obtain ⟨xs, rfl⟩ := hv.aggv
      obtain ⟨hc, i, hi, hi1⟩ := cellsOf_tyB he
      show (Instr.checkKey em (9999 + 1) t (.agg xs)).run P w = _
      rw [Instr.checkKey]
      simp only [Sem.run_bind, run_underlying hut, Result.andThen_ok]
      simp only [Std.Legacy.Range.forIn_eq_forIn_range', Std.Legacy.Range.size, Nat.sub_zero, Nat.add_one_sub_one, Nat.div_one]
      have all : ∀ j ∈ List.range' 0 n, ∃ c, xs[j]? = some c := by
        intro j hj
        simp only [List.mem_range'_1] at hj
        obtain ⟨v, hv', _⟩ := hv.agg_get j cs[j] (List.getElem?_eq_getElem (by omega))
        exact ⟨v, hv'⟩
      cases qs with
      | nil => simp only [List.length_nil] at hn; subst hn; simp
      | cons q qs =>
      have hq0 : ∀ v, (Instr.checkKey em 9999 el v).run P w = .ok () w := fun v => basic_check (hq q (by simp)) em 9998 v w
      clear hn hx hv
      generalize List.range' 0 n = is at all
      induction is with
      | nil => simp
      | cons j is ih =>
        obtain ⟨c, hcj⟩ := all j (by simp)
        obtain ⟨dd, ii, h3, h4, h5, h6, _⟩ := tyB_spec he
        have hp : (part el xs (j * 1)).run P w = .ok c w := by simp [part, run_isAgg h3, h5, hcj]
        simp only [List.forIn_cons, Sem.run_bind, run_sizeOf hi, hi1, Result.andThen_ok, hp, hq0, Sem.run_pure]
        exact ih fun y hy => all y (by simp [hy])
    | iv y => simp only [keyOk, beq_iff_eq] at hx; exact absurd hx hne
    | _ => simp [keyOk] at hx
  · exact basic_check hq em 9999 v w
end
end Arb

/-
  MAPS of the call's own: what the operations on them do.
-/
namespace Arb
open Go Go.RowKit

def mapB (P : Program) (t : TypeId) (qs : List Nat) : Bool := match P.underlying t with | some (.map kt _) => keyB P kt qs | _ => false
theorem mapB_spec {P : Program} {t : TypeId} {qs : List Nat} (h : mapB P t qs = true) : ∃ kt et, P.underlying t = some (.map kt et) ∧ keyB P kt qs = true := by
  unfold mapB at h
  split at h
  · exact ⟨_, _, by assumption, h⟩
  · cases h
def isMap (P : Program) (t : TypeId) : Bool := match P.underlying t with | some (.map _ _) => true | _ => false
theorem isMap_spec {P : Program} {t : TypeId} (h : isMap P t = true) : ∃ kt et, P.underlying t = some (.map kt et) := by
  unfold isMap at h
  split at h
  · exact ⟨_, _, by assumption⟩
  · cases h
def zvB (P : Program) (t : TypeId) (agg : Bool) (z : List IV) : Bool := match P.underlying t with
  | some (.map _ et) => (match P.info? et with
    | some i => (match i.zero with
      | some (.agg cs) => agg && cVals cs.toList z
      | some (.tuple _) => false
      | some v => !agg && cVals [v] z
      | none => false)
    | none => false)
  | _ => false

section
variable {ν : Nat → Nat} {P : Program} {k : Cx} {g : Gh}

theorem lookMap_ok {x : AV} {q : Nat × List (AV × AV)} {h' : Hp} (r : Rel ν k g) (e : (lookMap x).run g.h = some (q, h')) {v : Value} (hv : RA ν g v x) :
    h' = g.h ∧ ∃ b es clock, x = .ref q.1 0 0 0 ∧ get g.h q.1 = some (.map q.2) ∧ g.φ q.1 = some b ∧ v = .map (some b) ∧ ¬ g.I b ∧ b < g.w.heap.size ∧ g.w.heap[b]? = some (.map es clock) ∧ es.size = q.2.length ∧
      ∀ (j : Nat) (e : MapEntry) (p : AV × AV), es[j]? = some e → q.2[j]? = some p → RA ν g e.key p.1 ∧ RA ν g e.val p.2 := by
  unfold lookMap at e
  split at e
  case h_2 => exact (M.fail_some e).elim
  rename_i id
  obtain ⟨ob, h1, e1, e2⟩ := M.bind_some e
  obtain ⟨hg, rfl⟩ := M.look_some e1
  cases ob with
  | cells _ => exact (M.fail_some e2).elim
  | buf _ _ _ => exact (M.fail_some e2).elim
  | imm _ _ _ => exact (M.fail_some e2).elim
  | map kvs =>
    obtain ⟨rfl, rfl⟩ := M.ret_some e2
    refine ⟨rfl, ?_⟩
    cases hv with
    | ref h1 h =>
      unfold RefAt at h
      simp only [hg] at h
      obtain ⟨-, -, -, b, hφ, rfl⟩ := h
      obtain ⟨b', es, clock, e1, e2, e3, e4, e5, e6⟩ := r.ob id _ hg
      rw [hφ] at e1; cases e1
      exact ⟨b, es, clock, rfl, hg, hφ, rfl, e2, e3, e4, e5, e6⟩

theorem mmk_ok (r : Rel ν k g) {slot : Nat} {t : TypeId} {y : AV} {h' : Hp} (e : ((M.fresh slot).bind fun _ => (M.write slot (.map [])).bind fun _ => M.ret (.ref slot 0 0 0)).run g.h = some (y, h')) : Done ν k g h' y ((Instr.makeMap t none).run P g.w) := by
  obtain ⟨_, h1, e1, e2⟩ := M.bind_some e
  obtain ⟨hf, rfl⟩ := M.fresh_some e1
  obtain ⟨_, h2, e3, e4⟩ := M.bind_some e2
  obtain rfl := M.write_some e3
  obtain ⟨rfl, rfl⟩ := M.ret_some e4
  have hnew : (g.w.heap.push (.map #[] 0))[g.w.heap.size]? = some (.map #[] 0) := by simp
  have hold : ∀ b, b < g.w.heap.size → (g.w.heap.push (.map #[] 0))[b]? = g.w.heap[b]? := fun b h => by simp [Array.getElem?_push, Nat.ne_of_lt h]
  have hn := r.new (s := slot) (ob := .map []) (p := some g.w.heap.size) (w' := { g.w with heap := g.w.heap.push (.map #[] 0) }) hf (by simp) rfl rfl rfl hold (fun b h => by cases h; exact Nat.le_refl _)
    fun _ => ⟨g.w.heap.size, #[], 0, updφ_same _ _ _, fun hi => absurd (r.small _ hi) (Nat.lt_irrefl _), by simp, hnew, rfl, fun j e p h => by simp at h⟩
  refine ⟨_, .map (some g.w.heap.size), rfl, rfl, hn.1, hn.2, .ref rfl ?_⟩
  unfold RefAt
  simp only [get_set_same, updφ_same]
  exact ⟨trivial, trivial, trivial, _, rfl, rfl⟩

theorem keysR {es : Array MapEntry} {kvs : List (AV × AV)} (h : es.size = kvs.length) (hr : ∀ (j : Nat) (e : MapEntry) (p : AV × AV), es[j]? = some e → kvs[j]? = some p → RA ν g e.key p.1 ∧ RA ν g e.val p.2) : KeysR ν g es.toList kvs :=
  ⟨by simpa using h, fun j e p h1 h2 => (hr j e p (by simpa using h1) h2).1⟩

theorem mget_ok (r : Rel ν k g) {t : TypeId} {ok agg : Bool} {qs : List Nat} {z : List IV} (hq : mapB P t qs = true) (hz : zvB P t agg z = true) {m kk y : AV} {vm vk : Value} {h' : Hp} (hm : RA ν g vm m) (hk : RA ν g vk kk)
    (e : (mget ok agg qs z m kk).run g.h = some (y, h')) : Done ν k g h' y ((Instr.lookup t vm vk ok).run P g.w) := by
  obtain ⟨_, h1, e1, e2⟩ := M.bind_some e
  obtain ⟨hok, rfl⟩ := M.ok_some e1
  obtain ⟨⟨id, kvs⟩, h2, e3, e4⟩ := M.bind_some e2
  obtain ⟨rfl, b, es, clock, -, hg, hφ, rfl, hnI, hlt, hb, hsz, hr⟩ := lookMap_ok r e3 hm
  obtain ⟨a, h3, e5, e6⟩ := M.bind_some e4
  obtain ⟨hf, rfl⟩ := M.lift_some e5
  obtain ⟨kt, et, hu, hkb⟩ := mapB_spec hq
  obtain ⟨rr, hfind, hFR⟩ := find_ok hkb hk g.w (keysR hsz hr) hf
  have hchk := check_ok hkb hok hk es.isEmpty g.w
  have hget := MapKept.run_getObj_map (P := P) hb
  cases a with
  | some p =>
    obtain ⟨e0, -, he0, rfl⟩ := hFR
    obtain ⟨yk, -, hp, -⟩ := mfind_at hf
    simp only [Nat.sub_zero] at he0 hp
    have hval := (hr p.1 e0 _ (by simpa using he0) hp).2
    cases ok with
    | true =>
      simp only [if_true] at e6
      obtain ⟨rfl, rfl⟩ := M.ret_some e6
      refine .same r (v := .tuple #[e0.val, .bool true]) (by simp [Instr.lookup, run_underlying hu, hget, hchk, hfind]) ?_
      refine .tup rfl fun j v c h1 h2 => ?_
      match j with
      | 0 => simp at h1 h2; subst h1 h2; exact hval
      | 1 => simp at h1 h2; subst h1 h2; exact mkBool
      | j + 2 => simp at h1
    | false =>
      simp only [Bool.false_eq_true, if_false] at e6
      obtain ⟨rfl, rfl⟩ := M.ret_some e6
      exact .same r (v := e0.val) (by simp [Instr.lookup, run_underlying hu, hget, hchk, hfind]) hval
  | none =>
    have hrr : rr = none := hFR
    subst hrr
    obtain ⟨zv, h4, e7, e8⟩ := M.bind_some e6
    have key : ∃ v0, (zeroValue et).run P g.w = .ok v0 g.w ∧ h4 = g.h ∧ RA ν g v0 zv := by
      unfold zvB at hz
      rw [hu] at hz
      simp only at hz
      cases hi : P.info? et with
      | none => rw [hi] at hz; cases hz
      | some i =>
        rw [hi] at hz
        simp only at hz
        cases hz0 : i.zero with
        | none => rw [hz0] at hz; cases hz
        | some v0 =>
          rw [hz0] at hz
          have hrun : (zeroValue et).run P g.w = .ok v0 g.w := by simp [zeroValue, typeInfo, hi, hz0]
          have one : ∀ {v : Value}, cVals [v] z = true → agg = false → (mk agg (z.map .iv)).run g.h = some (zv, h4) → h4 = g.h ∧ RA ν g v zv := by
            intro v hc ha em
            subst ha
            unfold mk at em
            simp only [Bool.false_eq_true, if_false] at em
            cases z with
            | nil => exact (M.fail_some em).elim
            | cons z0 zr =>
              cases zr with
              | cons _ _ => exact (M.fail_some em).elim
              | nil =>
                obtain ⟨rfl, rfl⟩ := M.ret_some em
                simp only [cVals, Bool.and_true] at hc
                exact ⟨rfl, .iv (cVal_ok hc _ _)⟩
          cases v0 with
          | agg cs =>
            simp only [Bool.and_eq_true] at hz
            obtain ⟨ha, hc⟩ := hz
            subst ha
            unfold mk at e7
            simp only [if_true] at e7
            obtain ⟨rfl, rfl⟩ := M.ret_some e7
            exact ⟨_, hrun, rfl, (cVals_RC hc).agg⟩
          | tuple vs => cases hz
          | _ =>
            simp only [Bool.and_eq_true, Bool.not_eq_true'] at hz
            exact ⟨_, hrun, one hz.2 hz.1 e7⟩
    obtain ⟨v0, hrun, rfl, hR0⟩ := key
    cases ok with
    | true =>
      simp only [if_true] at e8
      obtain ⟨rfl, rfl⟩ := M.ret_some e8
      refine .same r (v := .tuple #[v0, .bool false]) (by simp [Instr.lookup, run_underlying hu, hget, hchk, hfind, hrun]) ?_
      refine .tup rfl fun j v c h1 h2 => ?_
      match j with
      | 0 => simp at h1 h2; subst h1 h2; exact hR0
      | 1 => simp at h1 h2; subst h1 h2; exact mkBool
      | j + 2 => simp at h1
    | false =>
      simp only [Bool.false_eq_true, if_false] at e8
      obtain ⟨rfl, rfl⟩ := M.ret_some e8
      exact .same r (v := v0) (by simp [Instr.lookup, run_underlying hu, hget, hchk, hfind, hrun]) hR0

theorem mlen_ok (r : Rel ν k g) {t ty : TypeId} (ht : isMap P t = true) {m y : AV} {vm : Value} {h' : Hp} (hm : RA ν g vm m) (e : ((lookMap m).bind fun x => M.ret (.iv (.int .i64 x.2.length))).run g.h = some (y, h')) :
    Done ν k g h' y ((Builtin.len_ #[t] ty #[vm]).run P g.w) := by
  obtain ⟨⟨id, kvs⟩, h2, e3, e4⟩ := M.bind_some e
  obtain ⟨rfl, b, es, clock, -, hg, hφ, rfl, hnI, hlt, hb, hsz, hr⟩ := lookMap_ok r e3 hm
  obtain ⟨rfl, rfl⟩ := M.ret_some e4
  obtain ⟨kt, et, hu⟩ := isMap_spec ht
  exact .same r (v := .int .i64 kvs.length) (by simp [Builtin.len_, run_underlying hu, MapKept.run_getObj_map (P := P) hb, goInt, hsz]) mkInt

/-- a map turns -/
theorem map_turn (r : Rel ν k g) {id b : Nat} {kvs kvs' : List (AV × AV)} {es' : Array MapEntry} {clock' : Nat} (hg : get g.h id = some (.map kvs)) (hφ : g.φ id = some b) (hnI : ¬ g.I b) (hlt : b < g.w.heap.size) (hsz : es'.size = kvs'.length)
    (hr : ∀ (g' : Gh), Mono ν g g' → ∀ (j : Nat) (e : MapEntry) (p : AV × AV), es'[j]? = some e → kvs'[j]? = some p → RA ν g' e.key p.1 ∧ RA ν g' e.val p.2) :
    ∃ g', g'.w = { g.w with heap := g.w.heap.setIfInBounds b (.map es' clock') } ∧ g'.h = set g.h id (.map kvs') ∧ Rel ν k g' ∧ Mono ν g g' := by
  have ht := r.turn (s := id) (ob := .map kvs') (p := g.φ id) (w' := { g.w with heap := g.w.heap.setIfInBounds b (.map es' clock') }) (I' := g.I) hg (fun b' h => by rw [hφ] at h; cases h; exact hnI) (by simp) rfl rfl rfl
    (fun b' _ hne => by
      have : b ≠ b' := fun e => hne (by rw [hφ, e])
      simp [this])
    (fun _ h => h) (fun _ h => .inl h) (.inl rfl)
    (fun v o n ver ho => by unfold OwnAt at ho; rw [hg] at ho; exact ho.elim)
    (fun v ver i j h => by
      unfold RefAt at h ⊢
      rw [hg] at h
      simp only [get_set_same, updφ_same]
      exact h)
    (fun _ hm => ⟨b, es', clock', (updφ_same _ _ _).trans hφ, hnI, by simpa using hlt, by simp [hlt], hsz, hr _ hm⟩)
  exact ⟨_, rfl, rfl, ht.1, ht.2⟩

theorem same_one {q : Nat} {x y : AV} (e : eq0 q x y = some true) {v u : Value} (hv : RA ν g v x) (hu : RA ν g u y) (n : Nat) : Instr.sameBits n u v = true := by
  unfold eq0 at e
  split at e
  · obtain rfl := hv.int
    obtain rfl := hu.int
    simp only [Option.ite_none_right_eq_some, Option.some.injEq, beq_iff_eq] at e
    obtain ⟨rfl, rfl⟩ := e
    simp [Instr.sameBits]
  · obtain rfl := hv.bool
    obtain rfl := hu.bool
    simp only [Option.some.injEq, beq_iff_eq] at e
    subst e
    simp [Instr.sameBits]
  · obtain rfl := hv.str
    obtain rfl := hu.str
    simp only [Option.some.injEq] at e
    simp only [Instr.sameBits]
    rw [beq_toListBytes] at e ⊢
    exact BEq.symm e
  · cases e

theorem same_cells : ∀ (qs : List Nat) (cs ds : List AV) (xs ys : List Value), eqs qs cs ds = some true → xs.length = cs.length → ys.length = ds.length → (∀ (j : Nat) (v : Value) (c : AV), xs[j]? = some v → cs[j]? = some c → RA ν g v c) →
    (∀ (j : Nat) (v : Value) (c : AV), ys[j]? = some v → ds[j]? = some c → RA ν g v c) → ((ys.zip xs).all fun (x, y) => Instr.sameBits 9999 x y) = true ∧ ys.length = xs.length
  | [], [], [], xs, ys, _, hx, hy, _, _ => by
    obtain rfl := List.eq_nil_of_length_eq_zero hx
    obtain rfl := List.eq_nil_of_length_eq_zero hy
    exact ⟨rfl, rfl⟩
  | q :: qs, c :: cs, d :: ds, xs, ys, e, hx, hy, h1, h2 => by
    cases xs with
    | nil => simp at hx
    | cons v xs =>
      cases ys with
      | nil => simp at hy
      | cons u ys =>
        simp only [eqs, Option.bind_eq_some_iff] at e
        obtain ⟨b1, e1, b2, e2, e3⟩ := e
        simp only [Option.some.injEq, Bool.and_eq_true] at e3
        obtain ⟨rfl, rfl⟩ := e3
        obtain ⟨i1, i2⟩ := same_cells qs cs ds xs ys e2 (by simpa using hx) (by simpa using hy) (fun j v c a b => h1 (j + 1) v c (by simpa using a) (by simpa using b)) fun j v c a b => h2 (j + 1) v c (by simpa using a) (by simpa using b)
        have hv := h1 0 v c rfl rfl
        have hu := h2 0 u d rfl rfl
        refine ⟨?_, by simp [i2]⟩
        simp only [List.zip_cons_cons, List.all_cons, Bool.and_eq_true]
        refine ⟨?_, i1⟩
        exact same_one e1 hv hu 9999
  | [], _ :: _, _, _, _, e, _, _, _, _ => by simp [eqs] at e
  | [], [], _ :: _, _, _, e, _, _, _, _ => by simp [eqs] at e
  | _ :: _, [], _, _, _, e, _, _, _, _ => by simp [eqs] at e
  | _ :: _, _ :: _, [], _, _, e, _, _, _, _ => by simp [eqs] at e

theorem stays_ok {qs : List Nat} {x y : AV} (e : eqk qs x y = some true) {v u : Value} (hv : RA ν g v x) (hu : RA ν g u y) (w : World) : (Instr.keyThatStays u v).run P w = .ok v w := by
  have hs : Instr.sameBits 10000 u v = true := by
    unfold eqk at e
    split at e
    · split at e
      · cases e
      rename_i cs ds _
      obtain ⟨xs, rfl⟩ := hv.aggv
      obtain ⟨ys, rfl⟩ := hu.aggv
      have n1 : xs.size = cs.length := by cases hv; assumption
      have n2 : ys.size = ds.length := by cases hu; assumption
      have r1 : ∀ (j : Nat) (v : Value) (c : AV), xs[j]? = some v → cs[j]? = some c → RA ν g v c := by cases hv; assumption
      have r2 : ∀ (j : Nat) (v : Value) (c : AV), ys[j]? = some v → ds[j]? = some c → RA ν g v c := by cases hu; assumption
      obtain ⟨i1, i2⟩ := same_cells qs cs ds xs.toList ys.toList e (by simpa using n1) (by simpa using n2) (fun j v c a b => r1 j v c (by simpa using a) b) fun j v c a b => r2 j v c (by simpa using a) b
      show Instr.sameBits (9999 + 1) (.agg ys) (.agg xs) = true
      simp only [Instr.sameBits, Bool.and_eq_true, beq_iff_eq]
      exact ⟨by simpa using i2, i1⟩
    · split at e
      case isFalse => cases e
      rename_i h1
      obtain ⟨q, rfl⟩ := List.length_eq_one_iff.1 h1
      simp only [eqs, Option.bind_eq_some_iff] at e
      obtain ⟨b1, e1, b2, e2, e3⟩ := e
      cases e2
      simp only [Bool.and_true, Option.some.injEq] at e3
      subst e3
      exact same_one e1 hv hu 10000
    · cases e
  simp [Instr.keyThatStays, hs]

theorem mput_ok (r : Rel ν k g) {t : TypeId} {qs : List Nat} (hq : mapB P t qs = true) {m kk x y : AV} {vm vk vx : Value} {h' : Hp} (hm : RA ν g vm m) (hk : RA ν g vk kk) (hx : RA ν g vx x) (e : (mput qs m kk x).run g.h = some (y, h')) :
    ∃ g', (Instr.mapUpdate t vm vk vx).run P g.w = .ok () g'.w ∧ y = .tup [] ∧ g'.h = h' ∧ Rel ν k g' ∧ Mono ν g g' := by
  obtain ⟨_, h1, e1, e2⟩ := M.bind_some e
  obtain ⟨hok, rfl⟩ := M.ok_some e1
  obtain ⟨⟨id, kvs⟩, h2, e3, e4⟩ := M.bind_some e2
  obtain ⟨rfl, b, es, clock, -, hg, hφ, rfl, hnI, hlt, hb, hsz, hr⟩ := lookMap_ok r e3 hm
  obtain ⟨a, h3, e5, e6⟩ := M.bind_some e4
  obtain ⟨hf, rfl⟩ := M.lift_some e5
  obtain ⟨kt, et, hu, hkb⟩ := mapB_spec hq
  obtain ⟨rr, hfind, hFR⟩ := find_ok hkb hk g.w (keysR hsz hr) hf
  have hchk := check_ok hkb hok hk false g.w
  have hget := MapKept.run_getObj_map (P := P) hb
  simp only at hsz hr hg
  cases a with
  | some p =>
    obtain ⟨e0, -, he0, rfl⟩ := hFR
    obtain ⟨yk, -, hp, hkk⟩ := mfind_at hf
    simp only [Nat.sub_zero] at he0 hp
    simp only [Array.getElem?_toList] at he0
    have hst := stays_ok (P := P) hkk hk (hr p.1 e0 _ he0 hp).1 g.w
    obtain ⟨_, h4, e7, e8⟩ := M.bind_some e6
    obtain rfl := M.write_some e7
    obtain ⟨rfl, rfl⟩ := M.ret_some e8
    obtain ⟨g', q1, q2, q3, q4⟩ := map_turn (es' := es.modify p.1 fun e => { e with key := vk, val := vx }) (clock' := clock) (kvs' := kvs.set p.1 (kk, x)) r hg hφ hnI hlt (by simpa using hsz) fun g' hmn j e q h1 h2 => by
      by_cases hj : p.1 = j
      · subst hj
        rw [Array.getElem?_modify, if_pos rfl, he0] at h1
        have hl : p.1 < kvs.length := lt_of_some hp
        simp [hl] at h2
        cases h1
        rw [← h2]
        exact ⟨hmn _ _ hk, hmn _ _ hx⟩
      · rw [Array.getElem?_modify, if_neg hj] at h1
        rw [List.getElem?_set_ne hj] at h2
        obtain ⟨c1, c2⟩ := hr j e q h1 h2
        exact ⟨hmn _ _ c1, hmn _ _ c2⟩
    exact ⟨g', by simp [Instr.mapUpdate, run_underlying hu, hget, hchk, hfind, he0, hst, MapKept.run_setObj_map (P := P) _ hb, q1], rfl, q2, q3, q4⟩
  | none =>
    have hrr : rr = none := hFR
    subst hrr
    obtain ⟨_, h4, e7, e8⟩ := M.bind_some e6
    obtain rfl := M.write_some e7
    obtain ⟨rfl, rfl⟩ := M.ret_some e8
    obtain ⟨g', q1, q2, q3, q4⟩ := map_turn (es' := es.push { key := vk, val := vx, born := clock }) (clock' := clock + 1) (kvs' := kvs ++ [(kk, x)]) r hg hφ hnI hlt (by simpa using hsz) fun g' hmn j e q h1 h2 => by
      rw [Array.getElem?_push] at h1
      split at h1
      · rename_i hj
        cases h1
        rw [hj, hsz] at h2
        simp at h2
        rw [← h2]
        exact ⟨hmn _ _ hk, hmn _ _ hx⟩
      · have hl : j < es.size := (Array.getElem?_eq_some_iff.1 h1).1
        rw [List.getElem?_append_left (by omega)] at h2
        obtain ⟨c1, c2⟩ := hr j e q h1 h2
        exact ⟨hmn _ _ c1, hmn _ _ c2⟩
    exact ⟨g', by simp [Instr.mapUpdate, run_underlying hu, hget, hchk, hfind, MapKept.run_setObj_map (P := P) _ hb, q1], rfl, q2, q3, q4⟩

theorem mdel_ok (r : Rel ν k g) {t u ty : TypeId} {qs : List Nat} (hq : mapB P t qs = true) {m kk y : AV} {vm vk : Value} {h' : Hp} (hm : RA ν g vm m) (hk : RA ν g vk kk) (e : (mdel qs m kk).run g.h = some (y, h')) :
    Done ν k g h' y ((Builtin.delete_ #[t, u] ty #[vm, vk]).run P g.w) := by
  obtain ⟨_, h1, e1, e2⟩ := M.bind_some e
  obtain ⟨hok, rfl⟩ := M.ok_some e1
  obtain ⟨⟨id, kvs⟩, h2, e3, e4⟩ := M.bind_some e2
  obtain ⟨rfl, b, es, clock, -, hg, hφ, rfl, hnI, hlt, hb, hsz, hr⟩ := lookMap_ok r e3 hm
  obtain ⟨a, h3, e5, e6⟩ := M.bind_some e4
  obtain ⟨hf, rfl⟩ := M.lift_some e5
  obtain ⟨kt, et, hu, hkb⟩ := mapB_spec hq
  obtain ⟨rr, hfind, hFR⟩ := find_ok hkb hk g.w (keysR hsz hr) hf
  have hchk := check_ok hkb hok hk es.isEmpty g.w
  have hget := MapKept.run_getObj_map (P := P) hb
  simp only at hsz hr hg
  cases a with
  | some p =>
    obtain ⟨e0, -, he0, rfl⟩ := hFR
    simp only [Nat.sub_zero] at he0
    simp only [Array.getElem?_toList] at he0
    have hpl : p.1 < es.size := (Array.getElem?_eq_some_iff.1 he0).1
    obtain ⟨_, h4, e7, e8⟩ := M.bind_some e6
    obtain rfl := M.write_some e7
    obtain ⟨rfl, rfl⟩ := M.ret_some e8
    have he' : es.eraseIdxIfInBounds p.1 = es.eraseIdx p.1 hpl := by simp [Array.eraseIdxIfInBounds, hpl]
    obtain ⟨g', q1, q2, q3, q4⟩ := map_turn (es' := es.eraseIdxIfInBounds p.1) (clock' := clock) (kvs' := kvs.eraseIdx p.1) r hg hφ hnI hlt (by rw [he', Array.size_eraseIdx, List.length_eraseIdx, if_pos (by omega)]; omega) fun g' hmn j e q h1 h2 => by
      rw [he', Array.getElem?_eraseIdx] at h1
      rw [List.getElem?_eraseIdx] at h2
      split at h1
      · rename_i hj
        rw [if_pos hj] at h2
        obtain ⟨c1, c2⟩ := hr j e q h1 h2
        exact ⟨hmn _ _ c1, hmn _ _ c2⟩
      · rename_i hj
        rw [if_neg hj] at h2
        obtain ⟨c1, c2⟩ := hr (j + 1) e q h1 h2
        exact ⟨hmn _ _ c1, hmn _ _ c2⟩
    refine ⟨g', .tuple #[], ?_, q2, q3, q4, .tup rfl fun j v c h => by simp at h⟩
    simp [Builtin.delete_, run_underlying hu, hget, hchk, hfind, MapKept.run_setObj_map (P := P) _ hb, q1]
  | none =>
    have hrr : rr = none := hFR
    subst hrr
    obtain ⟨_, h4, e7, e8⟩ := M.bind_some e6
    obtain rfl := M.write_some e7
    obtain ⟨rfl, rfl⟩ := M.ret_some e8
    obtain ⟨g', q1, q2, q3, q4⟩ := map_turn (es' := es) (clock' := clock) (kvs' := kvs) r hg hφ hnI hlt hsz fun g' hmn j e q h1 h2 => by
      obtain ⟨c1, c2⟩ := hr j e q h1 h2
      exact ⟨hmn _ _ c1, hmn _ _ c2⟩
    refine ⟨g', .tuple #[], ?_, q2, q3, q4, .tup rfl fun j v c h => by simp at h⟩
    simp [Builtin.delete_, run_underlying hu, hget, hchk, hfind, MapKept.run_setObj_map (P := P) _ hb, q1]
end
end Arb

/-
  WHICH ABSTRACT OPERATION STANDS FOR AN OPERATION OF THE PROGRAM, and that it says what the model does.
-/
namespace Arb
open Go Go.RowKit

def cOpd (ν : Nat → Nat) : Operand → Opd → Bool
  | .tmp t, .t n => t == n
  | .const v, .c x => cVal v x
  | .func f, .c (.fn h []) => f == ν h
  | _, _ => false
def cOpds (ν : Nat → Nat) : List Operand → List Opd → Bool
  | [], [] => true
  | x :: xs, y :: ys => cOpd ν x y && cOpds ν xs ys
  | _, _ => false
def cOpt (ν : Nat → Nat) : Option Operand → Option Opd → Bool
  | none, none => true
  | some x, some y => cOpd ν x y
  | _, _ => false
def cParts (ν : Nat → Nat) : List (Nat × Operand) → List (Nat × Opd) → Bool
  | [], [] => true
  | x :: xs, y :: ys => x.1 == y.1 && cOpd ν x.2 y.2 && cParts ν xs ys
  | _, _ => false
def placesOf (P : Program) (t : TypeId) : Option (Nat → Option (Nat × Nat)) :=
  match P.underlying t with
  | some (.array _ e) => (P.info? e).map fun ie => fun i => some (i * ie.size, ie.size)
  | some (.struct fields) => (fields.toList.mapM (fun f => (P.info? f.type).map fun i => (f.offset, i.size))).map fun places => (places.toArray[·]?)
  | _ => none
def cPlaced (ν : Nat → Nat) (pl : Nat → Option (Nat × Nat)) : List (Nat × Operand) → List (Nat × Nat × Opd) → Bool
  | [], [] => true
  | x :: xs, y :: ys => pl x.1 == some (y.1, y.2.1) && cOpd ν x.2 y.2.2 && cPlaced ν pl xs ys
  | _, _ => false
def isStr (P : Program) (t : TypeId) : Bool := match P.underlying t with | some .string => true | _ => false
theorem isStr_spec {P : Program} {t : TypeId} (h : isStr P t = true) : P.underlying t = some .string := by
  unfold isStr at h; split at h <;> first | assumption | cases h
def bytesB (P : Program) (t : TypeId) : Bool := match P.underlying t with | some (.slice e) => (match P.underlying e with | some (.int .u8) => true | _ => false) | _ => false
def is0 : Operand → Bool
  | .const (.int _ n) => n == 0
  | _ => false

def cOp (P : Program) (ν : Nat → Nat) (op : Op) (io : IOp) : Bool :=
  match io with
  | .mov y => (match op with | .move x | .assign x => cOpd ν x y | _ => false)
  | .nil0 _ => (match op with | .move (.const (.slice none 0 0)) | .assign (.const (.slice none 0 0)) => true | _ => false)
  | .pick c' a' b' => (match op with | .pick c a b => cOpd ν c c' && cOpd ν a a' && cOpd ν b b' | _ => false)
  | .alloc z => (match op with | .alloc t => zeroB P t z | _ => false)
  | .box y => (match op with | .box _ x => cOpd ν x y | _ => false)
  | .build z qs => (match op with | .build t ps => zeroB P t z && (match placesOf P t with | some pl => cPlaced ν pl ps.toList qs | none => false) | _ => false)
  | .bsl e z n' qs => (match op with | .buildSlice t n ps => n == n' && bslB P t n e z && cParts ν ps.toList qs | _ => false)
  | .load agg sz a' => (match op with | .load t a => tyB P t sz agg && cOpd ν a a' | _ => false)
  | .store sz a' x' => (match op with | .store t a x => sizeB P t sz && cOpd ν a a' && cOpd ν x x' | _ => false)
  | .fadr off x' => (match op with | .fieldAddr s x f => fadrB P s f off && cOpd ν x x' | _ => false)
  | .fld agg off sz x' => (match op with | .field s x f => fldB P s f agg off sz && cOpd ν x x' | _ => false)
  | .iarr len e x' i' => (match op with | .indexAddr t x i => iarrB P t len e && cOpd ν x x' && cOpd ν i i' | _ => false)
  | .isl e x' i' => (match op with | .indexAddr t x i => sliceB P t e && cOpd ν x x' && cOpd ν i i' | _ => false)
  | .xarr agg len e x' i' => (match op with | .index t x i => xarrB P t agg len e && cOpd ν x x' && cOpd ν i i' | _ => false)
  | .xstr x' i' => (match op with | .index t x i => isStr P t && cOpd ν x x' && cOpd ν i i' | _ => false)
  | .bin bo q x' y' => (match op with | .binOp b t x y _ => b == bo && qOf P b t q && cOpd ν x x' && cOpd ν y y' | _ => false)
  | .eqc neg qs x' y' => (match op with | .binOp b t x y _ => b == (if neg then .neq else .eql) && eqcB P t qs && cOpd ν x x' && cOpd ν y y' | _ => false)
  | .un uo x' => (match op with | .unOp u _ x => u == uo && cOpd ν x x' | _ => false)
  | .cvi kk x' => (match op with | .convert s d x => cviB P s d kk && cOpd ν x x' | _ => false)
  | .cvs x' => (match op with | .convert s d x => isStr P s && isStr P d && cOpd ν x x' | _ => false)
  | .slc e x' lo' hi' => (match op with | .slice t x lo hi none => sliceB P t e && cOpd ν x x' && cOpt ν lo lo' && cOpt ν hi hi' | _ => false)
  | .slcs x' lo' hi' => (match op with | .slice t x lo hi none => isStr P t && cOpd ν x x' && cOpt ν lo lo' && cOpt ν hi hi' | _ => false)
  | .slz e x' => (match op with | .slice t x lo (some hi) (some mx) => sliceB P t e && cOpd ν x x' && (match lo with | none => true | some l => is0 l) && is0 hi && is0 mx | _ => false)
  | .clr e z x' => (match op with | .call { callee := .builtin .clear, args, argTypes } => (match args.toList, argTypes.toList with | [x], [t] => clrB P t e z && cOpd ν x x' | _, _ => false) | _ => false)
  | .len str x' => (match op with | .call { callee := .builtin .len, args, argTypes } => (match args.toList, argTypes.toList with | [x], [t] => lenB P t str && cOpd ν x x' | _, _ => false) | _ => false)
  | .app e x' y' => (match op with | .call { callee := .builtin .append, args, argTypes } => (match args.toList, argTypes.toList with | [x, y], [t, u] => appB P t u e && cOpd ν x x' && cOpd ν y y' | _, _ => false) | _ => false)
  | .mn x' ys => (match op with | .call { callee := .builtin .min, args, .. } => cOpds ν args.toList (x' :: ys) | _ => false)
  | .mx x' ys => (match op with | .call { callee := .builtin .max, args, .. } => cOpds ν args.toList (x' :: ys) | _ => false)
  | .ext x' i' => (match op with | .extract x i => i == i' && cOpd ν x x' | _ => false)
  | .nchk x' => (match op with | .nilCheck x => cOpd ν x x' | _ => false)
  | .mkf f' caps' => (match op with | .makeFunc (.func f) first caps => f == ν f' && first.isEmpty && cOpds ν caps.toList caps' | _ => false)
  | .call _ f' args' => (match op with | .call { callee := .value f, args, .. } => cOpd ν f f' && cOpds ν args.toList args' | _ => false)
  | .cvb x' => (match op with | .convert s d x => bytesB P s && isStr P d && cOpd ν x x' | _ => false)
  | .mmk => (match op with | .makeMap _ none => true | _ => false)
  | .mget ok agg qs z m' k' => (match op with | .lookup t m k o => o == ok && mapB P t qs && zvB P t agg z && cOpd ν m m' && cOpd ν k k' | _ => false)
  | .mput qs m' k' x' => (match op with | .mapUpdate t m k x | .insert t m k x => mapB P t qs && cOpd ν m m' && cOpd ν k k' && cOpd ν x x' | _ => false)
  | .mdel qs m' k' => (match op with | .call { callee := .builtin .delete, args, argTypes } => (match args.toList, argTypes.toList with | [m, k], [t, _] => mapB P t qs && cOpd ν m m' && cOpd ν k k' | _, _ => false) | _ => false)
  | .mlen m' => (match op with | .call { callee := .builtin .len, args, argTypes } => (match args.toList, argTypes.toList with | [m], [t] => isMap P t && cOpd ν m m' | _, _ => false) | _ => false)

/-- what stands in the slots -/
def FrR (ν : Nat → Nat) (g : Gh) (tmps : Array Value) (fr : Fr) : Prop := ∀ (t : Nat) (x : AV), get fr t = some x → ∃ v, tmps[t]? = some v ∧ RA ν g v x
theorem FrR.mono {ν : Nat → Nat} {g g' : Gh} {tmps : Array Value} {fr : Fr} (h : FrR ν g tmps fr) (hm : Mono ν g g') : FrR ν g' tmps fr :=
  fun t x ht => let ⟨v, h1, h2⟩ := h t x ht; ⟨v, h1, hm _ _ h2⟩

section
variable {ν : Nat → Nat} {P : Program} {k : Cx} {g : Gh}

theorem eval_ok {a : Act} {fr : Fr} (hf : FrR ν g a.tmps fr) {x : Operand} {y : Opd} (h : cOpd ν x y = true) : RA ν g (a.eval x) (ev fr y) := by
  unfold cOpd at h
  split at h
  · rename_i t n
    have := beq_iff_eq.1 h; subst this
    simp only [ev]
    cases hg : get fr t with
    | none => exact .undef _
    | some z =>
      obtain ⟨v, hv, hR⟩ := hf t z hg
      have : a.eval (.tmp t) = v := by simp [Act.eval, Array.getD, (Array.getElem?_eq_some_iff.1 hv).1, (Array.getElem?_eq_some_iff.1 hv).2]
      rw [this]; exact hR
  · rename_i v x
    exact .iv (cVal_ok h _ _)
  · rename_i f h'
    have := beq_iff_eq.1 h; subst this
    exact .iv (.fn h' #[] [] rfl fun j v x h => by simp at h)
  · cases h

theorem evals_ok {a : Act} {fr : Fr} (hf : FrR ν g a.tmps fr) : ∀ {xs : List Operand} {ys : List Opd}, cOpds ν xs ys = true →
    (xs.map a.eval).length = (ys.map (ev fr)).length ∧ ∀ (j : Nat) (v : Value) (x : AV), (xs.map a.eval)[j]? = some v → (ys.map (ev fr))[j]? = some x → RA ν g v x
  | [], [], _ => ⟨rfl, fun j v x h => by simp at h⟩
  | x :: xs, y :: ys, h => by
    simp only [cOpds, Bool.and_eq_true] at h
    obtain ⟨h1, h2⟩ := evals_ok hf h.2
    refine ⟨by simpa using h1, fun j v z hv hz => ?_⟩
    cases j with
    | zero => simp at hv hz; subst hv hz; exact eval_ok hf h.1
    | succ j => exact h2 j v z (by simpa using hv) (by simpa using hz)
  | [], _ :: _, h => by simp [cOpds] at h
  | _ :: _, [], h => by simp [cOpds] at h
theorem evalo_ok {a : Act} {fr : Fr} (hf : FrR ν g a.tmps fr) {x : Option Operand} {y : Option Opd} (h : cOpt ν x y = true) : RO ν g (x.map a.eval) (y.map (ev fr)) := by
  cases x <;> cases y <;> simp [cOpt] at h
  · trivial
  · exact eval_ok hf h

theorem fill_placed {a : Act} {fr : Fr} (hf : FrR ν g a.tmps fr) {pl : Nat → Option (Nat × Nat)} : ∀ (ps : List (Nat × Operand)) (qs : List (Nat × Nat × Opd)) (cells : Array Value) (cs : List AV) (n : Nat) (l : List (Nat × List AV)) (h h' : Hp),
    cPlaced ν pl ps qs = true → RC ν g cells cs → cs.length = n →
    (M.mapL (fun p : Nat × Nat × Opd => (cellsM (ev fr p.2.2)).bind fun l => (M.ok (l.length == p.2.1 && Nat.ble (p.1 + p.2.1) n)).bind fun _ => M.ret (p.1, l)) qs).run h = some (l, h') →
    h' = h ∧ ∃ cells', Instr.fill pl cells (ps.map fun p => (p.1, a.eval p.2)) = some cells' ∧ RC ν g cells' (putAll cs l) := by
  intro ps
  induction ps with
  | nil =>
    intro qs cells cs n l h h' hc hr _ e
    cases qs with
    | cons => simp [cPlaced] at hc
    | nil =>
      obtain ⟨rfl, rfl⟩ := M.mapL_nil e
      exact ⟨rfl, cells, rfl, hr⟩
  | cons p ps ih =>
    intro qs cells cs n l h h' hc hr hn e
    cases qs with
    | nil => simp [cPlaced] at hc
    | cons q qs =>
      simp only [cPlaced, Bool.and_eq_true, beq_iff_eq] at hc
      obtain ⟨⟨hpl, hq⟩, hrest⟩ := hc
      obtain ⟨y, h1, zs, e1, e2, rfl⟩ := M.mapL_cons e
      obtain ⟨xs, h2, e3, e4⟩ := M.bind_some e1
      obtain ⟨rfl, hs, hcc⟩ := cells_run e3 (eval_ok hf hq)
      obtain ⟨_, h3, e5, e6⟩ := M.bind_some e4
      obtain ⟨hok, rfl⟩ := M.ok_some e5
      obtain ⟨rfl, rfl⟩ := M.ret_some e6
      simp only [Bool.and_eq_true, beq_iff_eq, Nat.ble_eq] at hok
      have hfit : q.1 + xs.length ≤ cs.length := by omega
      have hsp := hr.splice (us := (a.eval p.2).cells) (l := xs) (o := q.1) ⟨hs, hcc⟩ hfit
      obtain ⟨rfl, c', hfill, hR⟩ := ih qs _ _ n zs h1 h' hrest hsp (by rw [splice_length _ _ _ hfit]; exact hn) e2
      refine ⟨rfl, c', ?_, hR⟩
      rw [← hfill]
      simp only [List.map_cons, Instr.fill, hpl]
      have hfit' : ¬ (((a.eval p.2).cells.size ≠ q.2.1 || q.1 + (a.eval p.2).cells.size > cells.size) = true) := by
        have := hr.1
        simp; omega
      rw [if_neg hfit', ← Array.foldl_toList, Array.toList_zipIdx]

theorem built_ok {t : TypeId} {pl : Nat → Option (Nat × Nat)} (hp : placesOf P t = some pl) {parts : List (Nat × Value)} {zs : Array Value} {i : TypeInfo} {v : Value}
    (hi : P.info? t = some i) (hv : i.zero = some v) (hzs : zs = v.cells) : P.built t parts = Instr.fill pl zs parts := by
  subst hzs
  unfold placesOf at hp
  unfold Program.built
  split at hp
  · rename_i n e hu
    simp only [Option.map_eq_some_iff] at hp
    obtain ⟨ie, hie, rfl⟩ := hp
    simp [hi, hu, hv, hie]
  · rename_i fields hu
    simp only [Option.map_eq_some_iff] at hp
    obtain ⟨places, hpl, rfl⟩ := hp
    simp [hi, hu, hv, hpl]
  · cases hp

theorem build_ok (r : Rel ν k g) {a : Act} {fr : Fr} (hf : FrR ν g a.tmps fr) {t : TypeId} {z : List IV} {ps : Array (Nat × Operand)} {qs : List (Nat × Nat × Opd)} {pl : Nat → Option (Nat × Nat)}
    (hz : zeroB P t z = true) (hp : placesOf P t = some pl) (hc : cPlaced ν pl ps.toList qs = true) {y : AV} {h' : Hp}
    (e : ((M.mapL (fun p : Nat × Nat × Opd => (cellsM (ev fr p.2.2)).bind fun l => (M.ok (l.length == p.2.1 && Nat.ble (p.1 + p.2.1) z.length)).bind fun _ => M.ret (p.1, l)) qs).bind fun l => M.ret (.agg (putAll (z.map .iv) l))).run g.h = some (y, h')) :
    Done ν k g h' y ((Instr.build t (ps.map fun (i, x) => (i, a.eval x))).run P g.w) := by
  obtain ⟨l, h1, e1, e2⟩ := M.bind_some e
  obtain ⟨rfl, rfl⟩ := M.ret_some e2
  obtain ⟨i, v, hi, hzv, hcv⟩ := zeroB_spec hz
  have hrc := cVals_RC (ν := ν) (g := g) hcv
  obtain ⟨rfl, cells', hfill, hR⟩ := fill_placed hf ps.toList qs v.cells (z.map .iv) z.length l _ _ hc hrc (by simp) e1
  refine .same r (run_build g.w t _ cells' ?_) hR.agg
  rw [built_ok hp hi hzv rfl]
  simpa using hfill

theorem bytesOf_at : ∀ {ys : List (List IV)} {b : List Int}, bytesOf ys = some b → b.length = ys.length ∧ ∀ i, i < ys.length → ys[i]? = some [.int .u8 (b.getD i 0)]
  | [], b, h => by simp [bytesOf] at h; subst h; exact ⟨rfl, fun i hi => absurd hi (Nat.not_lt_zero _)⟩
  | y :: ys, b, h => by
    unfold bytesOf at h
    split at h
    · rename_i heq; cases heq
    · rename_i n r heq
      cases heq
      simp only [Option.map_eq_some_iff] at h
      obtain ⟨b', hb, rfl⟩ := h
      obtain ⟨h1, h2⟩ := bytesOf_at hb
      refine ⟨by simp [h1], fun i hi => ?_⟩
      cases i with
      | zero => rfl
      | succ i => simpa using h2 i (by simpa using hi)
    · cases h
theorem bytesB_spec {P : Program} {t : TypeId} (h : bytesB P t = true) : ∃ e, P.underlying t = some (.slice e) ∧ P.underlying e = some (.int .u8) := by
  unfold bytesB at h
  split at h
  · split at h
    · exact ⟨_, by assumption, by assumption⟩
    · cases h
  · cases h
theorem cvb_ok (r : Rel ν k g) {s d : TypeId} (hs : bytesB P s = true) (hd : isStr P d = true) {v : Value} {x y : AV} {h' : Hp} (hv : RA ν g v x)
    (e : ((elems 1 x).bind fun ys => (M.lift (bytesOf ys)).bind fun b => M.ret (.iv (.str (strB b)))).run g.h = some (y, h')) : Done ν k g h' y ((convert s d v).run P g.w) := by
  obtain ⟨ys, h1, e1, e2⟩ := M.bind_some e
  obtain ⟨rfl, news, ⟨a, c, hva, hlie⟩, hlen, hrows, -, hat⟩ := elems_ok r e1 hv
  obtain ⟨b, h2, e3, e4⟩ := M.bind_some e2
  obtain ⟨hb, rfl⟩ := M.lift_some e3
  obtain ⟨rfl, rfl⟩ := M.ret_some e4
  obtain ⟨hbl, hbat⟩ := bytesOf_at hb
  obtain ⟨el, hs1, hs2⟩ := bytesB_spec hs
  have hd' := isStr_spec hd
  subst hva
  refine .same r (v := .string (strB b)) ?_ mkStr
  rcases hlie with h0 | ⟨blk, off, rfl, hcells⟩
  · have : b = [] := List.eq_nil_of_length_eq_zero (by omega)
    subst this
    rw [h0]
    cases a with
    | none => rw [run_convert_bytes_nil g.w s el hs1 hs2 0 c d hd']; rfl
    | some a =>
      rw [run_convert_bytes_string g.w s d el _ 0 c hs1 hs2 hd', run_bytesToString g.w a 0 c [] (by simp [loadCells, loadCellsFrom])]
      rfl
  · refine run_convert_bytes_arg g.w s el hs1 hs2 blk off ys.length c b hbl (fun i hi => ?_) d hd'
    obtain ⟨u, hu, hR⟩ := hat i 0 _ _ (hbat i hi) rfl
    have := hcells (i * 1 + 0) u hu
    rw [Nat.mul_one, Nat.add_zero] at this
    rw [this]
    cases hR
    rfl
end
end Arb

/-
  A CALL: what the abstract machine hands over, and what comes back.
-/
namespace Arb
open Go Go.RowKit

/-- a value behind which nothing of anybody's own stands -/
def RC0 (ν : Nat → Nat) (I : Nat → Prop) (w : World) (v : Value) (x : AV) : Prop := RA ν ⟨I, fun _ => none, w, []⟩ v x
theorem RC0.up {ν : Nat → Nat} {I : Nat → Prop} {w : World} {v : Value} {x : AV} (h : RC0 ν I w v x) {g : Gh} (hR : ∀ v x, RI ν I w v x → RI ν g.I g.w v x) : RA ν g v x :=
  RA.mono (g := ⟨I, fun _ => none, w, []⟩) hR (fun v id o n ver ho => by simp [OwnAt, get] at ho) (fun v id ver i j hr => by simp [RefAt, get] at hr) h
theorem RC0.mono {ν : Nat → Nat} {I J : Nat → Prop} {w w' : World} {v : Value} {x : AV} (h : RC0 ν I w v x) (hR : ∀ v x, RI ν I w v x → RI ν J w' v x) : RC0 ν J w' v x := h.up hR

theorem fzC_list {w : Bool} : ∀ (cs : List AV) (h h' : Hp) (l : List AV), (M.mapL (fzC w) cs).run h = some (l, h') → ∃ xs, (M.mapL (fz w 8) cs).run h = some (xs, h') ∧ l = xs.map .iv := by
  intro cs
  induction cs with
  | nil =>
    intro h h' l e
    obtain ⟨rfl, rfl⟩ := M.mapL_nil e
    exact ⟨[], rfl, rfl⟩
  | cons c cs ih =>
    intro h h' l e
    obtain ⟨y, h1, zs, e1, e2, rfl⟩ := M.mapL_cons e
    obtain ⟨x, h2, e3, e4⟩ := M.bind_some e1
    obtain ⟨rfl, rfl⟩ := M.ret_some e4
    obtain ⟨xs, e5, rfl⟩ := ih _ _ _ e2
    refine ⟨x :: xs, ?_, rfl⟩
    simp only [M.mapL, M.run_bind, e3, e5, M.run]

theorem agg_plain {ν : Nat → Nat} {I : Nat → Prop} {w : World} {vs : Array Value} {xs : List IV} (hn : vs.size = xs.length) (hr : ∀ (j : Nat) (v : Value) (x : IV), vs[j]? = some v → xs[j]? = some x → RI ν I w v x) :
    RC0 ν I w (.agg vs) (.agg (xs.map .iv)) := by
  refine .agg (by simpa using hn) (fun j v hv => ?_) fun j v c hv hc => ?_
  · have hj := (Array.getElem?_eq_some_iff.1 hv).1
    exact (hr j v _ hv (List.getElem?_eq_getElem (by omega))).one
  · simp only [List.getElem?_map, Option.map_eq_some_iff] at hc
    obtain ⟨x, hx, rfl⟩ := hc
    exact .iv (hr j v x hv hx)

section
variable {ν : Nat → Nat} {P : Program} {k : Cx} {g : Gh}

theorem fz1T (r : Rel ν k g) {a y : AV} {h' : Hp} (e : (fz1 true a).run g.h = some (y, h')) {v : Value} (hv : RA ν g v a) : ∃ I', Froze ν k g h' I' ∧ RC0 ν I' g.w v y := by
  have plain : ∀ {a : AV}, (fzC true a).run g.h = some (y, h') → RA ν g v a → ∃ I', Froze ν k g h' I' ∧ RC0 ν I' g.w v y := by
    intro a e hv
    obtain ⟨x, h1, e1, e2⟩ := M.bind_some e
    obtain ⟨rfl, rfl⟩ := M.ret_some e2
    obtain ⟨I', f, hR⟩ := fzT_spec ν 8 k g a x _ e1 r v hv
    exact ⟨I', f, .iv hR⟩
  cases a with
  | agg cs =>
    obtain ⟨l, h1, e1, e2⟩ := M.bind_some e
    obtain ⟨rfl, rfl⟩ := M.ret_some e2
    obtain ⟨xs, e3, rfl⟩ := fzC_list cs _ _ _ e1
    obtain ⟨vs, rfl⟩ := hv.aggv
    obtain ⟨V, hV⟩ := pick fun j c hc => hv.agg_get j c hc
    obtain ⟨I', f, hl, hx⟩ := (fzT_spec ν 8).list cs k g xs _ e3 r V fun j c hc => (hV j c hc).2
    refine ⟨I', f, agg_plain ?_ fun j v x h1 h2 => ?_⟩
    · cases hv with
      | agg hn _ _ => omega
    · have hlt := lt_of_some h2
      have := (hV j _ (List.getElem?_eq_getElem (show j < cs.length by omega))).1
      rw [h1] at this; cases this
      exact hx j x h2
  | undef => exact plain e hv
  | iv x => exact plain e hv
  | tup vs => exact plain e hv
  | own id o n v => exact plain e hv
  | ref id v i j => exact plain e hv
  | clo f caps => exact plain e hv

theorem fz1F (r : Rel ν k g) {a y : AV} {h' : Hp} (e : (fz1 false a).run g.h = some (y, h')) {v : Value} (hv : RA ν g v a) :
    h' = g.h ∧ ∀ J : Nat → Prop, (∀ b, g.I b → J b) → (∀ id o b, get g.h id = some o → g.φ id = some b → J b) → RC0 ν J g.w v y := by
  have plain : ∀ {a : AV}, (fzC false a).run g.h = some (y, h') → RA ν g v a → h' = g.h ∧ ∀ J : Nat → Prop, (∀ b, g.I b → J b) → (∀ id o b, get g.h id = some o → g.φ id = some b → J b) → RC0 ν J g.w v y := by
    intro a e hv
    obtain ⟨x, h1, e1, e2⟩ := M.bind_some e
    obtain ⟨rfl, rfl⟩ := M.ret_some e2
    obtain ⟨rfl, hR⟩ := fzF_spec ν 8 k g a x _ e1 r v hv
    exact ⟨rfl, fun J h1 h2 => .iv (hR J h1 h2)⟩
  cases a with
  | agg cs =>
    obtain ⟨l, h1, e1, e2⟩ := M.bind_some e
    obtain ⟨rfl, rfl⟩ := M.ret_some e2
    obtain ⟨xs, e3, rfl⟩ := fzC_list cs _ _ _ e1
    obtain ⟨vs, rfl⟩ := hv.aggv
    obtain ⟨V, hV⟩ := pick fun j c hc => hv.agg_get j c hc
    obtain ⟨rfl, hl, hx⟩ := (fzF_spec ν 8).list k g r cs xs _ e3 V fun j c hc => (hV j c hc).2
    refine ⟨rfl, fun J h1 h2 => agg_plain ?_ fun j v x h3 h4 => ?_⟩
    · cases hv with
      | agg hn _ _ => omega
    · have hlt := lt_of_some h4
      have := (hV j _ (List.getElem?_eq_getElem (show j < cs.length by omega))).1
      rw [h3] at this; cases this
      exact hx J h1 h2 j x h4
  | undef => exact plain e hv
  | iv x => exact plain e hv
  | tup vs => exact plain e hv
  | own id o n v => exact plain e hv
  | ref id v i j => exact plain e hv
  | clo f caps => exact plain e hv

/-- lists of values, each read -/
def RL (ν : Nat → Nat) (g : Gh) (vs : List Value) (xs : List AV) : Prop := vs.length = xs.length ∧ ∀ (j : Nat) (v : Value) (x : AV), vs[j]? = some v → xs[j]? = some x → RA ν g v x
theorem RL.nil : RL ν g [] [] := ⟨rfl, fun j v x h => by simp at h⟩
theorem RL.cons {v : Value} {x : AV} {vs : List Value} {xs : List AV} (h : RA ν g v x) (hl : RL ν g vs xs) : RL ν g (v :: vs) (x :: xs) :=
  ⟨by simp [hl.1], fun j v' x' h1 h2 => by
    cases j with
    | zero => simp at h1 h2; subst h1 h2; exact h
    | succ j => exact hl.2 j v' x' (by simpa using h1) (by simpa using h2)⟩
theorem RL.tail {v : Value} {x : AV} {vs : List Value} {xs : List AV} (h : RL ν g (v :: vs) (x :: xs)) : RA ν g v x ∧ RL ν g vs xs :=
  ⟨h.2 0 v x rfl rfl, by have := h.1; simpa using this, fun j v' x' h1 h2 => h.2 (j + 1) v' x' (by simpa using h1) (by simpa using h2)⟩
theorem RL.mono {g' : Gh} {vs : List Value} {xs : List AV} (h : RL ν g vs xs) (hm : ∀ v x, RA ν g v x → RA ν g' v x) : RL ν g' vs xs := ⟨h.1, fun j v x h1 h2 => hm _ _ (h.2 j v x h1 h2)⟩
theorem RL.append {vs us : List Value} {xs ys : List AV} (h : RL ν g vs xs) (h' : RL ν g us ys) : RL ν g (vs ++ us) (xs ++ ys) :=
  ⟨by simp [h.1, h'.1], fun j v x h1 h2 => by
    rw [List.getElem?_append] at h1 h2
    rw [← h.1] at h2
    split at h1
    · rename_i hj; rw [if_pos hj] at h2; exact h.2 j v x h1 h2
    · rename_i hj; rw [if_neg hj] at h2; exact h'.2 _ v x h1 h2⟩
theorem RL.nil_of {xs : List AV} (h : RL ν g [] xs) : xs = [] := List.eq_nil_of_length_eq_zero h.1.symm
theorem fz1T_list : ∀ (as : List AV) (k : Cx) (g : Gh) (ys : List AV) (h' : Hp), (M.mapL (fz1 true) as).run g.h = some (ys, h') → Rel ν k g → ∀ vs : List Value, RL ν g vs as →
    ∃ I', Froze ν k g h' I' ∧ RL ν ⟨I', fun _ => none, g.w, []⟩ vs ys := by
  intro as
  induction as with
  | nil =>
    intro k g ys h' e r vs hv
    obtain ⟨rfl, rfl⟩ := M.mapL_nil e
    have : vs = [] := List.eq_nil_of_length_eq_zero hv.1
    subst this
    exact ⟨g.I, .refl r, .nil⟩
  | cons a as ih =>
    intro k g ys h' e r vs hv
    cases vs with
    | nil => have := hv.1; simp at this
    | cons v vs =>
      obtain ⟨y, h1, zs, e1, e2, rfl⟩ := M.mapL_cons e
      obtain ⟨I1, f1, hR⟩ := fz1T r e1 hv.tail.1
      obtain ⟨I2, f2, hRL⟩ := ih k _ zs h' e2 f1.rel vs (hv.tail.2.mono f1.mono)
      exact ⟨I2, f1.trans f2, .cons (hR.mono fun v x h => h.mono f2.sub fun _ _ _ _ h => h) hRL⟩

theorem fz1F_list (r : Rel ν k g) : ∀ (as : List AV) (ys : List AV) (h' : Hp), (M.mapL (fz1 false) as).run g.h = some (ys, h') → ∀ vs : List Value, RL ν g vs as →
    h' = g.h ∧ ∀ J : Nat → Prop, (∀ b, g.I b → J b) → (∀ id o b, get g.h id = some o → g.φ id = some b → J b) → RL ν ⟨J, fun _ => none, g.w, []⟩ vs ys := by
  intro as
  induction as with
  | nil =>
    intro ys h' e vs hv
    obtain ⟨rfl, rfl⟩ := M.mapL_nil e
    have : vs = [] := List.eq_nil_of_length_eq_zero hv.1
    subst this
    exact ⟨rfl, fun _ _ _ => .nil⟩
  | cons a as ih =>
    intro ys h' e vs hv
    cases vs with
    | nil => have := hv.1; simp at this
    | cons v vs =>
      obtain ⟨y, h1, zs, e1, e2, rfl⟩ := M.mapL_cons e
      obtain ⟨rfl, hR⟩ := fz1F r e1 hv.tail.1
      obtain ⟨rfl, hRL⟩ := ih zs h' e2 vs hv.tail.2
      exact ⟨rfl, fun J h1 h2 => .cons (hR J h1 h2) (hRL J h1 h2)⟩

theorem flatI_any {x : IV} (hx : flatI x = true) {v : Value} {I J : Nat → Prop} {w w' : World} (h : RI ν I w v x) : RI ν J w' v x := by
  cases h with
  | bool b => exact .bool b
  | int kk n => exact .int kk n
  | str s => exact .str s
  | nilp => exact .nilp
  | _ => simp [flatI] at hx
theorem flat0_any {x : AV} (hx : flat0 x = true) {v : Value} {g' : Gh} (h : RA ν g v x) : RA ν g' v x := by
  cases h with
  | iv h => exact .iv (flatI_any hx h)
  | _ => simp [flat0] at hx
theorem flat1_any {x : AV} (hx : flat1 x = true) {v : Value} {g' : Gh} (h : RA ν g v x) : RA ν g' v x := by
  cases h with
  | agg hn h1 hr =>
    simp only [flat1, List.all_eq_true] at hx
    exact .agg hn h1 fun j v c hv hc => flat0_any (hx c (List.mem_of_getElem? hc)) (hr j v c hv hc)
  | iv h => exact flat0_any (by simpa [flat1] using hx) (.iv h)
  | _ => simp [flat1, flat0] at hx
theorem flat_any {x : AV} (hx : flat x = true) {v : Value} {g' : Gh} (h : RA ν g v x) : RA ν g' v x := by
  cases h with
  | tup hn hr =>
    simp only [flat, List.all_eq_true] at hx
    exact .tup hn fun j v c hv hc => flat1_any (hx c (List.mem_of_getElem? hc)) (hr j v c hv hc)
  | agg hn h1 hr => exact flat1_any (by simpa [flat] using hx) (.agg hn h1 hr)
  | iv h => exact flat1_any (by simpa [flat] using hx) (.iv h)
  | _ => simp [flat, flat1, flat0] at hx

/-- what the callee answers, shut -/
theorem fzA_list_tup : ∀ (vs : List AV) (k : Cx) (g : Gh) (ys : List AV) (h' : Hp), (M.mapL (fz1 true) vs).run g.h = some (ys, h') → Rel ν k g → ∀ us : Array Value, RA ν g (.tuple us) (.tup vs) →
    ∃ I', Froze ν k g h' I' ∧ RC0 ν I' g.w (.tuple us) (.tup ys) := by
  intro vs k g ys h' e r us hu
  have hRL : RL ν g us.toList vs := by
    cases hu with
    | tup hn hr => exact ⟨by simpa using hn, fun j v x h1 h2 => hr j v x (by simpa using h1) h2⟩
  obtain ⟨I', f, hR⟩ := fz1T_list vs k g ys h' e r us.toList hRL
  exact ⟨I', f, .tup (by have := hR.1; simpa using this) fun j v c h1 h2 => hR.2 j v c (by simpa using h1) h2⟩
theorem shut_ok (r : Rel ν k g) {p y : AV} (e : shut (p, g.h) = some y) {v : Value} (hv : RA ν g v p) : ∃ I' h', Froze ν k g h' I' ∧ RC0 ν I' g.w v y := by
  unfold shut at e
  simp only [Option.map_eq_some_iff] at e
  obtain ⟨⟨y', h'⟩, e, rfl⟩ := e
  cases p with
  | tup vs =>
    obtain ⟨l, h1, e1, e2⟩ := M.bind_some e
    obtain ⟨rfl, rfl⟩ := M.ret_some e2
    obtain ⟨us, rfl⟩ : ∃ us, v = .tuple us := by cases hv; exact ⟨_, rfl⟩
    obtain ⟨I', f, hR⟩ := fzA_list_tup vs k g l _ e1 r us hv
    exact ⟨I', _, f, hR⟩
  | undef => obtain ⟨I', f', hR⟩ := fz1T (a := .undef) r e hv; exact ⟨I', _, f', hR⟩
  | iv x => obtain ⟨I', f', hR⟩ := fz1T (a := (.iv x)) r e hv; exact ⟨I', _, f', hR⟩
  | agg cs => obtain ⟨I', f', hR⟩ := fz1T (a := (.agg cs)) r e hv; exact ⟨I', _, f', hR⟩
  | own id o n v => obtain ⟨I', f', hR⟩ := fz1T (a := (.own id o n v)) r e hv; exact ⟨I', _, f', hR⟩
  | ref id v i j => obtain ⟨I', f', hR⟩ := fz1T (a := (.ref id v i j)) r e hv; exact ⟨I', _, f', hR⟩
  | clo f caps => obtain ⟨I', f', hR⟩ := fz1T (a := (.clo f caps)) r e hv; exact ⟨I', _, f', hR⟩

/-! ### the callee's contract -/
/-- of the objects below 1000 what is said stands -/
structure MonoL (g g' : Gh) : Prop where
  own : ∀ v id o n ver, id < 1000 → v.oneCell' = true → OwnAt g v id o n ver → OwnAt g' v id o n ver
  ref : ∀ v id ver i j, id < 1000 → v.oneCell' = true → RefAt g v id ver i j → RefAt g' v id ver i j
theorem MonoL.refl (g : Gh) : MonoL g g := ⟨fun _ _ _ _ _ _ _ h => h, fun _ _ _ _ _ _ _ h => h⟩
theorem MonoL.trans {a b c : Gh} (h : MonoL a b) (h' : MonoL b c) : MonoL a c := ⟨fun _ _ _ _ _ hi h1 x => h'.own _ _ _ _ _ hi h1 (h.own _ _ _ _ _ hi h1 x), fun _ _ _ _ _ hi h1 x => h'.ref _ _ _ _ _ hi h1 (h.ref _ _ _ _ _ hi h1 x)⟩
theorem Mono.low {g g' : Gh} (h : Mono ν g g') : MonoL g g' :=
  ⟨fun v id o n ver _ h1 x => by cases h v _ (.own h1 x) with | own _ y => exact y, fun v id ver i j _ h1 x => by cases h v _ (.ref h1 x) with | ref _ y => exact y⟩
theorem RA.mono1 {g g' : Gh} (hI : ∀ v x, RI ν g.I g.w v x → RI ν g'.I g'.w v x) (ho : ∀ v id o n ver, v.oneCell' = true → OwnAt g v id o n ver → OwnAt g' v id o n ver)
    (hr : ∀ v id ver i j, v.oneCell' = true → RefAt g v id ver i j → RefAt g' v id ver i j) {v : Value} {x : AV} (h : RA ν g v x) : RA ν g' v x := by
  induction h with
  | undef v => exact .undef v
  | iv h => exact .iv (hI _ _ h)
  | agg hn h1 _ ih => exact .agg hn h1 ih
  | tup hn _ ih => exact .tup hn ih
  | own h1 h => exact .own h1 (ho _ _ _ _ _ h1 h)
  | ref h1 h => exact .ref h1 (hr _ _ _ _ _ h1 h)
  | clo hn _ ih => exact .clo hn ih

def CallOK (ν : Nat → Nat) (P : Program) (f : Nat) (args : List AV) (hp : Hp) (r : AV) (hp' : Hp) : Prop :=
  ∀ (k0 : Cx) (g0 : Gh) (cargs : Array Value), g0.h = hp → k0.w = g0.w → k0.I = g0.I → Rel ν k0 g0 → RL ν g0 cargs.toList args →
    Calls P (ν f) cargs g0.w fun e w' => ∃ v g', e = .returned v ∧ g'.w = w' ∧ g'.h = hp' ∧ Rel ν k0 g' ∧ MonoL g0 g' ∧ RA ν g' v r
def CallSound (ν : Nat → Nat) (P : Program) (call : Nat → List AV → Hp → Option (AV × Hp)) : Prop :=
  ∀ f args hp r hp', call f args hp = some (r, hp') → (∃ fn, P.funcs[ν f]? = some fn ∧ fn.body.isSome = true ∧ (fn.name == "runtime.NumGoroutine") = false) ∧ CallOK ν P f args hp r hp'

theorem callee_ok {x : AV} {q : Nat × List AV} (e : callee x = some q) {v : Value} (hv : RA ν g v x) : ∃ caps, v = .func (.func (ν q.1)) #[] caps ∧ RL ν g caps.toList q.2 := by
  unfold callee at e
  split at e
  · cases e
    cases hv with
    | iv h =>
      cases h with
      | fn f caps cs hn hr =>
        refine ⟨caps, rfl, by simpa using hn, fun j v x h1 h2 => ?_⟩
        simp only [List.getElem?_map, Option.map_eq_some_iff] at h2
        obtain ⟨y, hy, rfl⟩ := h2
        exact .iv (hr j v y (by simpa using h1) hy)
  · cases e
    cases hv with
    | clo hn hr => exact ⟨_, rfl, by simpa using hn, fun j v x h1 h2 => hr j v x (by simpa using h1) h2⟩
  · cases e

/-- the operation enters the function -/
theorem enter_run {ρ : Operand → Value} {o : Oper} {fo : Operand} {cargs : Array Operand} {tys : Array TypeId} (ho : o.op = .call { callee := .value fo, args := cargs, argTypes := tys }) {f : Nat} {caps : Array Value}
    (hf : ρ fo = .func (.func (ν f)) #[] caps) {fn : Func} (hfn : P.funcs[ν f]? = some fn) (hb : fn.body.isSome = true) (hn : (fn.name == "runtime.NumGoroutine") = false) (w : World) :
    (execOp ρ o).run P w = .ok (.enter (ν f) (cargs.map ρ ++ caps)) w := by
  have hb' : ¬ fn.body = none := fun h => by rw [h] at hb; cases hb
  have hn' : ¬ fn.name = "runtime.NumGoroutine" := by simpa using hn
  simp [execOp, ho, resolve, hf, Deferred.ofValue, invoke, callFunc, hfn, hb', hn']

/-- a call that the abstract machine makes: the function, and what is true behind it -/
def CallDone (ν : Nat → Nat) (P : Program) (k : Cx) (g : Gh) (h' : Hp) (y : AV) (fv : Value) (cargs : Array Value) : Prop :=
  ∃ q caps fn, fv = .func (.func (ν q)) #[] caps ∧ P.funcs[ν q]? = some fn ∧ fn.body.isSome = true ∧ (fn.name == "runtime.NumGoroutine") = false ∧
    Calls P (ν q) (cargs ++ caps) g.w fun e w' => ∃ v g', e = .returned v ∧ g'.w = w' ∧ g'.h = h' ∧ Rel ν k g' ∧ Mono ν g g' ∧ RA ν g' v y

theorem rel_none {J : Nat → Prop} (hs : ∀ b, J b → b < g.w.heap.size) : Rel ν ⟨g.w, J, fun _ => False⟩ ⟨J, fun _ => none, g.w, []⟩ :=
  ⟨fun id o h => by simp [get] at h, fun id id' o o' b h => by simp [get] at h, hs, fun _ h => h, fun _ h => .inl h, fun id o b h => by simp [get] at h, Nat.le_refl _, rfl, rfl, rfl, fun _ _ _ => rfl⟩

/-- the world behind a callee that was lent nothing: the caller's next state -/
theorem world_next (r : Rel ν k g) {J : Nat → Prop} {g' : Gh} (r' : Rel ν ⟨g.w, J, fun _ => False⟩ g') : Rel ν k { g with w := g'.w } ∧ Mono ν g { g with w := g'.w } :=
  r.world (I' := g.I) (fun _ h => h) (fun _ h => .inl h) r'.size r'.os r'.tape r'.output fun b hb => r'.old b hb (.inl fun h => h)

theorem callM_ok {call : Nat → List AV → Hp → Option (AV × Hp)} (hs : CallSound ν P call) (r : Rel ν k g) {f y : AV} {args : List AV} {h' : Hp} (e : (callM call f args).run g.h = some (y, h')) {fv : Value} {cargs : Array Value}
    (hf : RA ν g fv f) (ha : RL ν g cargs.toList args) : CallDone ν P k g h' y fv cargs := by
  obtain ⟨q, h1, e1, e2⟩ := M.bind_some e
  obtain ⟨hq, rfl⟩ := M.lift_some e1
  obtain ⟨caps, rfl, hcaps⟩ := callee_ok hq hf
  obtain ⟨as, h2, e3, e4⟩ := M.bind_some e2
  obtain ⟨rfl, hJ⟩ := fz1F_list r _ _ _ e3 (cargs.toList ++ caps.toList) (ha.append hcaps)
  obtain ⟨y', h3, e5, e6⟩ := M.bind_some e4
  obtain ⟨hc, rfl⟩ := M.lift_some e5
  obtain ⟨_, h4, e7, e8⟩ := M.bind_some e6
  obtain ⟨hfl, rfl⟩ := M.ok_some e7
  obtain ⟨rfl, rfl⟩ := M.ret_some e8
  obtain ⟨⟨rr, hh⟩, hcall, hshut⟩ := Option.bind_eq_some_iff.1 hc
  obtain ⟨⟨fn, hfn, hb, hn⟩, hok⟩ := hs _ _ _ _ _ hcall
  have hsm : ∀ b, (g.I b ∨ ∃ id o, get g.h id = some o ∧ g.φ id = some b) → b < g.w.heap.size := by
    rintro b (h | ⟨id, o, ho, hφ⟩)
    · exact r.small b h
    · exact (r.ob id o ho).block hφ r.small
  have hRL := hJ (fun b => g.I b ∨ ∃ id o, get g.h id = some o ∧ g.φ id = some b) (fun _ h => .inl h) fun id o b h1 h2 => .inr ⟨id, o, h1, h2⟩
  refine ⟨q.1, caps, fn, rfl, hfn, hb, hn, (hok _ _ (cargs ++ caps) rfl rfl rfl (rel_none hsm) (by simpa using hRL)).mono ?_⟩
  rintro e w' ⟨v, g', rfl, rfl, rfl, r', -, hR⟩
  obtain ⟨I', h'', -, hR'⟩ := shut_ok r' hshut hR
  obtain ⟨r2, m2⟩ := world_next r r'
  exact ⟨v, { g with w := g'.w }, rfl, rfl, rfl, r2, m2, flat_any hfl hR'⟩

theorem fcallM_ok {call : Nat → List AV → Hp → Option (AV × Hp)} (hs : CallSound ν P call) (r : Rel ν k g) {f y : AV} {args : List AV} {h' : Hp} (e : (fcallM call f args).run g.h = some (y, h')) {fv : Value} {cargs : Array Value}
    (hf : RA ν g fv f) (ha : RL ν g cargs.toList args) : CallDone ν P k g h' y fv cargs := by
  obtain ⟨q, h1, e1, e2⟩ := M.bind_some e
  obtain ⟨hq, rfl⟩ := M.lift_some e1
  obtain ⟨caps, rfl, hcaps⟩ := callee_ok hq hf
  obtain ⟨as, h2, e3, e4⟩ := M.bind_some e2
  obtain ⟨I1, f1, hRL⟩ := fz1T_list _ k g as _ e3 r (cargs.toList ++ caps.toList) (ha.append hcaps)
  obtain ⟨hc, rfl⟩ := M.lift_some e4
  obtain ⟨⟨rr, hh⟩, hcall, hshut⟩ := Option.bind_eq_some_iff.1 hc
  obtain ⟨⟨fn, hfn, hb, hn⟩, hok⟩ := hs _ _ _ _ _ hcall
  refine ⟨q.1, caps, fn, rfl, hfn, hb, hn, (hok _ _ (cargs ++ caps) rfl rfl rfl (rel_none f1.rel.small) (by simpa using hRL)).mono ?_⟩
  rintro e w' ⟨v, g', rfl, rfl, rfl, r', -, hR⟩
  obtain ⟨I2, h'', f2, hR'⟩ := shut_ok r' hshut hR
  -- all that the callee left, and all that it made, is never written again
  have hup : ∀ b, I2 b → I1 b ∨ g.w.heap.size ≤ b ∧ b < g'.w.heap.size := by
    intro b hb
    have hlt := f2.rel.small b hb
    rcases f2.rel.i1 b hb with h | h | h
    · exact .inl h
    · exact h.elim
    · exact .inr ⟨h, hlt⟩
  have hw := f1.rel.world (w' := g'.w) (I' := I2) (fun b h => f2.sub b (r'.i0 b h)) hup r'.size r'.os r'.tape r'.output fun b hb => r'.old b hb (.inl fun h => h)
  exact ⟨v, ⟨I2, g.φ, g'.w, _⟩, rfl, rfl, rfl, hw.1, f1.mono.trans hw.2, hR'.up fun v x h => h⟩

theorem ocallM_ok {call : Nat → List AV → Hp → Option (AV × Hp)} (hs : CallSound ν P call) (r : Rel ν k g) {slot : Nat} {f y : AV} {args : List AV} {h' : Hp} (e : (ocallM call slot f args).run g.h = some (y, h')) {fv : Value} {cargs : Array Value}
    (hf : RA ν g fv f) (ha : RL ν g cargs.toList args) : CallDone ν P k g h' y fv cargs := by
  obtain ⟨q, h1, e1, e2⟩ := M.bind_some e
  obtain ⟨hq, rfl⟩ := M.lift_some e1
  obtain ⟨caps, rfl, hcaps⟩ := callee_ok hq hf
  obtain ⟨as, h2, e3, e4⟩ := M.bind_some e2
  obtain ⟨I1, f1, hRL⟩ := fz1T_list _ k g as _ e3 r (cargs.toList ++ caps.toList) (ha.append hcaps)
  obtain ⟨⟨rr, hh⟩, h3, e5, e6⟩ := M.bind_some e4
  obtain ⟨hcall, rfl⟩ := M.lift_some e5
  obtain ⟨⟨fn, hfn, hb, hn⟩, hok⟩ := hs _ _ _ _ _ hcall
  refine ⟨q.1, caps, fn, rfl, hfn, hb, hn, (hok _ _ (cargs ++ caps) rfl rfl rfl (rel_none f1.rel.small) (by simpa using hRL)).mono ?_⟩
  rintro e w' ⟨v, g', rfl, rfl, rfl, r', -, hR⟩
  have hup : ∀ b, g'.I b → I1 b ∨ g.w.heap.size ≤ b ∧ b < g'.w.heap.size := by
    intro b hb
    have hlt := r'.small b hb
    rcases r'.i1 b hb with h | h | h
    · exact .inl h
    · exact h.elim
    · exact .inr ⟨h, hlt⟩
  have hw := f1.rel.world (w' := g'.w) (I' := g'.I) (fun b h => r'.i0 b h) hup r'.size r'.os r'.tape r'.output fun b hb => r'.old b hb (.inl fun h => h)
  unfold takeR at e6
  split at e6
  case h_2 => exact (M.fail_some e6).elim
  rename_i i o n ver hrr
  simp only at hrr
  subst hrr
  obtain ⟨ob, h4, e7, e8⟩ := M.bind_some e6
  obtain ⟨hgi, rfl⟩ := M.lift_some e7
  cases ob with
  | cells _ => exact (M.fail_some e8).elim
  | imm _ _ _ => exact (M.fail_some e8).elim
  | map _ => exact (M.fail_some e8).elim
  | buf v' e' es =>
    obtain ⟨_, h5, e9, e10⟩ := M.bind_some e8
    obtain ⟨hok', rfl⟩ := M.ok_some e9
    obtain ⟨_, h6, e11, e12⟩ := M.bind_some e10
    obtain ⟨hfr, rfl⟩ := M.fresh_some e11
    obtain ⟨_, h7, e13, e14⟩ := M.bind_some e12
    obtain rfl := M.write_some e13
    obtain ⟨rfl, rfl⟩ := M.ret_some e14
    simp only [Bool.and_eq_true, beq_iff_eq] at hok'
    obtain ⟨rfl, rfl⟩ := hok'
    cases hR with
    | own hone ho =>
      unfold OwnAt at ho
      simp only [hgi] at ho
      have hsl := ho.2 (by trivial)
      have hnew : ∀ b, g'.φ i = some b → g.w.heap.size ≤ b := fun b hb => (r'.own i _ b hgi hb).resolve_left fun h => h
      have hn := hw.1.new' (s := slot) (ob := .buf 0 e' es) (p := g'.φ i) (w' := g'.w) hfr (Nat.le_refl _) rfl rfl rfl (fun _ _ => rfl)
        (fun b hb id o ho hφ => by have := (f1.rel.ob id o ho).block hφ f1.rel.small; have := hnew b hb; simp only [] at *; omega)
        (fun b hb => .inr (Nat.le_trans r.size (hnew b hb))) fun hm => ?_
      · refine ⟨v, ⟨g'.I, updφ g.φ slot (g'.φ i), g'.w, set _ slot (.buf 0 e' es)⟩, rfl, rfl, rfl, hn.1, (f1.mono.trans hw.2).trans hn.2, .own hone ?_⟩
        unfold OwnAt
        simp only [get_set_same, updφ_same]
        exact ⟨Nat.le_refl _, fun _ => hsl⟩
      · rcases r'.ob i _ hgi with ⟨h1, h2⟩ | ⟨b, h1, h2, h3, h4⟩
        · exact .inl ⟨(updφ_same _ _ _).trans h1, h2⟩
        · exact .inr ⟨b, (updφ_same _ _ _).trans h1, h2, h3, h4⟩
end
end Arb

/-
  A CALL THAT IS LENT ROWS: the callee may write to them in place.
-/
namespace Arb
open Go Go.RowKit

theorem place_some : ∀ {ids : List Nat} {id i : Nat}, place ids id = some i → ids[i]? = some id := by
  intro ids
  induction ids with
  | nil => intro id i h; simp [place] at h
  | cons x ids ih =>
    intro id i h
    simp only [place] at h
    split at h
    · rename_i hx; cases h; simp [hx]
    · simp only [Option.map_eq_some_iff] at h
      obtain ⟨j, hj, rfl⟩ := h
      simpa using ih hj
theorem place_none : ∀ {ids : List Nat} {id : Nat}, place ids id = none → ∀ i : Nat, ids[i]? ≠ some id := by
  intro ids
  induction ids with
  | nil => intro id _ i h; simp at h
  | cons x ids ih =>
    intro id h i hi
    simp only [place] at h
    split at h
    · cases h
    · rename_i hx
      cases i with
      | zero => simp at hi; exact hx hi
      | succ i => exact ih (by simpa using h) i (by simpa using hi)
theorem nodup_place : ∀ {ids : List Nat}, nodupB ids = true → ∀ {i id : Nat}, ids[i]? = some id → place ids id = some i := by
  intro ids
  induction ids with
  | nil => intro _ i id h; simp at h
  | cons x ids ih =>
    intro hn i id h
    simp only [nodupB, Bool.and_eq_true, Bool.not_eq_true', List.contains_eq_mem, decide_eq_false_iff_not] at hn
    simp only [place]
    cases i with
    | zero => simp at h; rw [if_pos h]
    | succ i =>
      have h' : ids[i]? = some id := by simpa using h
      rw [if_neg (fun e : x = id => hn.1 (by rw [e]; exact List.mem_of_getElem? h')), ih hn.2 h']
      rfl
theorem withPlaces_get {α : Type} : ∀ (l : List α) (s i : Nat), get (withPlaces l s) i = if s ≤ i then l[i - s]? else none := by
  intro l
  induction l with
  | nil => intro s i; simp [withPlaces, get]
  | cons x l ih =>
    intro s i
    simp only [withPlaces, get, ih]
    by_cases h : s = i
    · subst h; simp
    · rw [if_neg h]
      by_cases h' : s ≤ i
      · rw [if_pos (by omega), if_pos h', show i - s = (i - (s + 1)) + 1 by omega]; simp
      · rw [if_neg (by omega), if_neg h']

section
variable {ν : Nat → Nat} {P : Program} {k : Cx} {g : Gh}

/-- how an argument goes over -/
inductive Sent (ν : Nat → Nat) (g : Gh) (ids : List Nat) (v : Value) : AV → Prop
  | own {id i o n ver : Nat} (h1 : v.oneCell' = true) (h : OwnAt g v id o n ver) (hi : place ids id = some i) : Sent ν g ids v (.own i o n ver)
  | ref {id p ver i j : Nat} (h1 : v.oneCell' = true) (h : RefAt g v id ver i j) (hp : place ids id = some p) : Sent ν g ids v (.ref p ver i j)
  | shut {x : AV} (h : RC0 ν g.I g.w v x) : Sent ν g ids v x

theorem lend_list {ids : List Nat} : ∀ (as : List AV) (k : Cx) (g : Gh) (ys : List AV) (h' : Hp), (M.mapL (lendA ids) as).run g.h = some (ys, h') → Rel ν k g → ∀ vs : List Value, RL ν g vs as →
    ∃ I', Froze ν k g h' I' ∧ ys.length = vs.length ∧ ∀ (j : Nat) (v : Value) (y : AV), vs[j]? = some v → ys[j]? = some y → Sent ν { g with I := I', h := h' } ids v y := by
  intro as
  induction as with
  | nil =>
    intro k g ys h' e r vs hv
    obtain ⟨rfl, rfl⟩ := M.mapL_nil e
    have : vs = [] := List.eq_nil_of_length_eq_zero hv.1
    subst this
    exact ⟨g.I, .refl r, rfl, fun j v y h => by simp at h⟩
  | cons a as ih =>
    intro k g ys h' e r vs hv
    cases vs with
    | nil => have := hv.1; simp at this
    | cons v vs =>
      obtain ⟨y, h1, zs, e1, e2, rfl⟩ := M.mapL_cons e
      have key : ∃ I1, Froze ν k g h1 I1 ∧ ∀ (g2 : Gh), Mono ν { g with I := I1, h := h1 } g2 → (∀ v x, RI ν I1 g.w v x → RI ν g2.I g2.w v x) → Sent ν g2 ids v y := by
        have ha := hv.tail.1
        have plain : ∀ {a : AV}, (fz1 true a).run g.h = some (y, h1) → RA ν g v a → ∃ I1, Froze ν k g h1 I1 ∧ ∀ (g2 : Gh), Mono ν { g with I := I1, h := h1 } g2 → (∀ v x, RI ν I1 g.w v x → RI ν g2.I g2.w v x) → Sent ν g2 ids v y := by
          intro a e ha
          obtain ⟨I1, f1, hR⟩ := fz1T r e ha
          exact ⟨I1, f1, fun g2 _ hRI => .shut (hR.mono hRI)⟩
        cases a with
        | own id o n ver =>
          obtain ⟨i, h2, e3, e4⟩ := M.bind_some e1
          obtain ⟨hi, rfl⟩ := M.lift_some e3
          obtain ⟨rfl, rfl⟩ := M.ret_some e4
          refine ⟨g.I, .refl r, fun g2 hm _ => ?_⟩
          have := hm _ _ ha
          cases this with
          | own h1 h => exact .own h1 h hi
        | ref id ver i j =>
          obtain ⟨p, h2, e3, e4⟩ := M.bind_some e1
          obtain ⟨hi, rfl⟩ := M.lift_some e3
          obtain ⟨rfl, rfl⟩ := M.ret_some e4
          refine ⟨g.I, .refl r, fun g2 hm _ => ?_⟩
          have := hm _ _ ha
          cases this with
          | ref h1 h => exact .ref h1 h hi
        | undef => exact plain (a := .undef) e1 ha
        | iv x => exact plain (a := (.iv x)) e1 ha
        | agg cs => exact plain (a := (.agg cs)) e1 ha
        | tup vs => exact plain (a := (.tup vs)) e1 ha
        | clo f caps => exact plain (a := (.clo f caps)) e1 ha
      obtain ⟨I1, f1, hS⟩ := key
      obtain ⟨I2, f2, hl, hR⟩ := ih k _ zs h' e2 f1.rel vs (hv.tail.2.mono f1.mono)
      refine ⟨I2, f1.trans f2, by simp [hl], fun j v' y' h1 h2 => ?_⟩
      cases j with
      | zero => simp at h1 h2; subst h1 h2; exact hS _ f2.mono fun v x h => h.mono f2.sub fun _ _ _ _ h => h
      | succ j => exact hR j v' y' (by simpa using h1) (by simpa using h2)

theorem looks_list : ∀ (ids : List Nat) (os : List Ob) (h h' : Hp), (M.mapL (fun id => (M.look id).bind fun o => (M.ok (lentOk o)).bind fun _ => M.ret o) ids).run h = some (os, h') →
    h' = h ∧ os.length = ids.length ∧ ∀ (i id : Nat), ids[i]? = some id → ∃ v e es, os[i]? = some (.buf v e es) ∧ get h id = some (.buf v e es) := by
  intro ids
  induction ids with
  | nil =>
    intro os h h' e
    obtain ⟨rfl, rfl⟩ := M.mapL_nil e
    exact ⟨rfl, rfl, fun i id h => by simp at h⟩
  | cons x ids ih =>
    intro os h h' e
    obtain ⟨y, h1, zs, e1, e2, rfl⟩ := M.mapL_cons e
    obtain ⟨o, h2, e3, e4⟩ := M.bind_some e1
    obtain ⟨hg, rfl⟩ := M.look_some e3
    obtain ⟨_, h3, e5, e6⟩ := M.bind_some e4
    obtain ⟨hok, rfl⟩ := M.ok_some e5
    obtain ⟨rfl, rfl⟩ := M.ret_some e6
    obtain ⟨rfl, hl, hr⟩ := ih zs _ _ e2
    refine ⟨rfl, by simp [hl], fun i id hi => ?_⟩
    cases i with
    | zero =>
      simp at hi; subst hi
      cases o with
      | buf v ee es => exact ⟨v, ee, es, rfl, hg⟩
      | cells _ => simp [lentOk] at hok
      | imm _ _ _ => simp [lentOk] at hok
      | map _ => simp [lentOk] at hok
    | succ i => simpa using hr i id (by simpa using hi)

theorem backAll_get : ∀ (ids : List Nat) (s : Nat) (hc h h' : Hp) (u : Unit), (backAll ids s hc).run h = some (u, h') → nodupB ids = true →
    (∀ (i id : Nat), ids[i]? = some id → ∃ o, get hc (s + i) = some o ∧ get h' id = some o ∧ (∀ cs, o ≠ .cells cs) ∧ ∀ kvs, o ≠ .map kvs) ∧ ∀ id, place ids id = none → get h' id = get h id := by
  intro ids
  induction ids with
  | nil =>
    intro s hc h h' u e _
    obtain ⟨-, rfl⟩ := M.ret_some e
    exact ⟨fun i id h => by simp at h, fun _ _ => rfl⟩
  | cons x ids ih =>
    intro s hc h h' u e hn
    have hn' := hn
    simp only [nodupB, Bool.and_eq_true, Bool.not_eq_true', List.contains_eq_mem, decide_eq_false_iff_not] at hn
    obtain ⟨o, h1, e1, e2⟩ := M.bind_some e
    obtain ⟨ho, rfl⟩ := M.lift_some e1
    obtain ⟨_, h2, e3, e4⟩ := M.bind_some e2
    obtain ⟨hok, rfl⟩ := M.ok_some e3
    obtain ⟨_, h3, e5, e6⟩ := M.bind_some e4
    obtain rfl := M.write_some e5
    obtain ⟨q1, q2⟩ := ih (s + 1) hc _ h' u e6 hn.2
    have hx : place ids x = none := by
      cases hp : place ids x with
      | none => rfl
      | some i => exact absurd (List.mem_of_getElem? (place_some hp)) hn.1
    refine ⟨fun i id hi => ?_, fun id hid => ?_⟩
    · cases i with
      | zero =>
        simp at hi; subst hi
        refine ⟨o, ho, ?_, ⟨fun cs hcs => (by subst hcs; cases hok), fun cs hcs => (by subst hcs; cases hok)⟩⟩
        rw [q2 _ hx]; exact get_set_same _ _ _
      | succ i =>
        have := q1 i id (by simpa using hi)
        rwa [show s + 1 + i = s + (i + 1) by omega] at this
    · simp only [place] at hid
      split at hid
      · cases hid
      · rename_i hne
        rw [q2 id (by simpa using hid)]; exact get_set_ne _ _ hne

theorem lcallM_ok {call : Nat → List AV → Hp → Option (AV × Hp)} (hs : CallSound ν P call) (r : Rel ν k g) {f y : AV} {args : List AV} {h' : Hp} (e : (lcallM call f args).run g.h = some (y, h')) {fv : Value} {cargs : Array Value}
    (hf : RA ν g fv f) (ha : RL ν g cargs.toList args) : CallDone ν P k g h' y fv cargs := by
  obtain ⟨q, h1, e1, e2⟩ := M.bind_some e
  obtain ⟨hq, rfl⟩ := M.lift_some e1
  obtain ⟨caps, rfl, hcaps⟩ := callee_ok hq hf
  simp only [] at e2
  generalize hids : dedup ((args ++ q.2).flatMap idsOf) [] = ids at e2
  obtain ⟨_, h2, e3, e4⟩ := M.bind_some e2
  obtain ⟨hnd, rfl⟩ := M.ok_some e3
  simp only [Bool.and_eq_true, Nat.ble_eq] at hnd
  obtain ⟨hnd, hlen⟩ := hnd
  obtain ⟨as, h3, e5, e6⟩ := M.bind_some e4
  obtain ⟨I1, f1, hal, hsent⟩ := lend_list (ids := ids) _ k g as _ e5 r (cargs.toList ++ caps.toList) (ha.append hcaps)
  obtain ⟨os, h4, e7, e8⟩ := M.bind_some e6
  obtain ⟨rfl, hol, hos⟩ := looks_list ids os _ _ e7
  obtain ⟨p, h5, e9, e10⟩ := M.bind_some e8
  obtain ⟨hcall, rfl⟩ := M.lift_some e9
  obtain ⟨rr, h6, e11, e12⟩ := M.bind_some e10
  obtain ⟨hrr, rfl⟩ := M.lift_some e11
  obtain ⟨_, h7, e13, e14⟩ := M.bind_some e12
  obtain ⟨rfl, rfl⟩ := M.ret_some e14
  obtain ⟨⟨fn, hfn, hb, hn⟩, hok⟩ := hs _ _ _ _ _ hcall
  have r1 := f1.rel
  -- the callee's view
  let φ0 : Nat → Option Nat := fun i => (ids[i]?).bind g.φ
  let L : Nat → Prop := fun b => ∃ (i id : Nat), ids[i]? = some id ∧ g.φ id = some b
  let g1 : Gh := { g with I := I1, h := h6 }
  let g0 : Gh := ⟨I1, φ0, g.w, withPlaces os 0⟩
  have hg0 : ∀ i, get g0.h i = os[i]? := fun i => by
    show get (withPlaces os 0) i = _
    rw [withPlaces_get, if_pos (Nat.zero_le _), Nat.sub_zero]
  have hob0 : ∀ i o, get g0.h i = some o → ∃ id, ids[i]? = some id ∧ get h6 id = some o ∧ (∃ v e es, o = .buf v e es) ∧ φ0 i = g.φ id := by
    intro i o ho
    rw [hg0] at ho
    have hi : i < ids.length := by have := lt_of_some ho; omega
    have hid : ids[i]? = some ids[i] := List.getElem?_eq_getElem hi
    obtain ⟨v, ee, es, q1, q2⟩ := hos i _ hid
    rw [ho] at q1; cases q1
    exact ⟨_, hid, q2, ⟨v, ee, es, rfl⟩, by simp [φ0, hid]⟩
  have hLI : ∀ b, L b → ¬ I1 b ∧ b < g.w.heap.size := by
    rintro b ⟨i, id, hid, hφ⟩
    obtain ⟨v, ee, es, q1, q2⟩ := hos i id hid
    rcases r1.ob id _ q2 with ⟨h1, _⟩ | ⟨b', h1, h2, h3, _⟩
    · simp only [hφ] at h1; cases h1
    · simp only [hφ] at h1; cases h1; exact ⟨h2, h3.1⟩
  have r0 : Rel ν ⟨g.w, I1, L⟩ g0 := by
    refine ⟨fun i o ho => ?_, fun i i' o o' b ho ho' hφ hφ' => ?_, r1.small, fun _ h => h, fun _ h => .inl h, fun i o b ho hφ => ?_, Nat.le_refl _, rfl, rfl, rfl, fun _ _ _ => rfl⟩
    · obtain ⟨id, hid, hg, ⟨v, ee, es, rfl⟩, hφ⟩ := hob0 i o ho
      rcases r1.ob id _ hg with ⟨h1, h2⟩ | ⟨b, h1, h2, h3, h4⟩
      · exact .inl ⟨hφ.trans h1, h2⟩
      · exact .inr ⟨b, hφ.trans h1, h2, h3, h4⟩
    · obtain ⟨id, hid, hg, -, hφi⟩ := hob0 i o ho
      obtain ⟨id', hid', hg', -, hφi'⟩ := hob0 i' o' ho'
      have := r1.inj id id' o o' b hg hg' (hφi.symm.trans hφ) (hφi'.symm.trans hφ')
      subst this
      have h1 := nodup_place hnd hid
      have h2 := nodup_place hnd hid'
      rw [h1] at h2; exact Option.some.inj h2
    · obtain ⟨id, hid, hg, -, hφi⟩ := hob0 i o ho
      exact .inl ⟨i, id, hid, hφi.symm.trans hφ⟩
  have low : ∀ {i id : Nat}, place ids id = some i → i < 1000 := fun h => by have := lt_of_some (place_some h); omega
  have getp : ∀ {i id : Nat}, place ids id = some i → get g0.h i = get h6 id ∧ φ0 i = g.φ id := by
    intro i id h
    have hid := place_some h
    obtain ⟨v, ee, es, q1, q2⟩ := hos i id hid
    exact ⟨by rw [hg0, q1, q2], by simp [φ0, hid]⟩
  have own0 : ∀ {i id o n ver : Nat} {v : Value}, place ids id = some i → OwnAt g1 v id o n ver → OwnAt g0 v i o n ver := by
    intro i id o n ver v hp ho
    obtain ⟨a1, a2⟩ := getp hp
    unfold OwnAt at ho ⊢
    rw [a1, show g0.φ i = g.φ id from a2]; exact ho
  have ref0 : ∀ {i id ver a b : Nat} {v : Value}, place ids id = some i → RefAt g1 v id ver a b → RefAt g0 v i ver a b := by
    intro i id ver a b v hp ho
    obtain ⟨a1, a2⟩ := getp hp
    unfold RefAt at ho ⊢
    rw [a1, show g0.φ i = g.φ id from a2]; exact ho
  have hRL : RL ν g0 (cargs ++ caps).toList as := by
    refine ⟨by rw [hal]; simp, fun j v y h1 h2 => ?_⟩
    have hS := hsent j v y (by simpa using h1) h2
    cases hS with
    | own h1 h hp => exact .own h1 (own0 hp h)
    | ref h1 h hp => exact .ref h1 (ref0 hp h)
    | shut h => exact h.up fun v x h => h
  refine ⟨q.1, caps, fn, rfl, hfn, hb, hn, (hok ⟨g.w, I1, L⟩ g0 (cargs ++ caps) rfl rfl rfl r0 hRL).mono ?_⟩
  rintro e w' ⟨v, g', rfl, rfl, hgh, r', ml, hR⟩
  -- the caller's view
  obtain ⟨q1, q2⟩ := backAll_get ids 0 p.2 h6 h' _ e13 hnd
  simp only [Nat.zero_add] at q1
  let φ2 : Nat → Option Nat := fun id => match place ids id with | some i => g'.φ i | none => g.φ id
  let g2 : Gh := ⟨g'.I, φ2, g'.w, h'⟩
  have hsome : ∀ {i id : Nat}, place ids id = some i → φ2 id = g'.φ i ∧ ∃ o, get g'.h i = some o ∧ get h' id = some o ∧ (∀ cs, o ≠ .cells cs) ∧ ∀ kvs, o ≠ .map kvs := by
    intro i id hp
    obtain ⟨o, a1, a2, a3⟩ := q1 i id (place_some hp)
    exact ⟨by simp [φ2, hp], o, by rw [hgh]; exact a1, a2, a3⟩
  have hnone : ∀ {id : Nat}, place ids id = none → φ2 id = g.φ id ∧ get h' id = get h6 id := fun hp => ⟨by simp [φ2, hp], q2 _ hp⟩
  have hLnone : ∀ {id : Nat} {o : Ob} {b : Nat}, place ids id = none → get h6 id = some o → g.φ id = some b → ¬ L b := by
    rintro id o b hp ho hφ ⟨i, id', hid', hφ'⟩
    obtain ⟨v, ee, es, q3, q4⟩ := hos i id' hid'
    have := r1.inj id id' o _ b ho q4 hφ hφ'
    subst this
    exact place_none hp i hid'
  have hRI : ∀ v x, RI ν I1 g.w v x → RI ν g'.I g'.w v x := fun v x h => h.mono (fun b hb => r'.i0 b hb) fun b off u hb hc => by
    rw [cell_of_same (r'.old b (r1.small b hb) (.inr hb))]; exact hc
  have hheap : ∀ b, b < g.w.heap.size → ¬ L b → g'.w.heap[b]? = g.w.heap[b]? := fun b hb hL => r'.old b hb (.inl hL)
  have m2 : Mono ν g1 g2 := by
    intro v x hx
    refine hx.mono1 hRI ?_ ?_
    · intro v id o n ver hone ho
      cases hp : place ids id with
      | some i =>
        have h := ml.own v i o n ver (low hp) hone (own0 hp ho)
        obtain ⟨a1, ob, a2, a3, _⟩ := hsome hp
        unfold OwnAt at h ⊢
        rw [a2] at h
        rw [show get g2.h id = some ob from a3, show g2.φ id = g'.φ i from a1]
        exact h
      | none =>
        obtain ⟨a1, a2⟩ := hnone hp
        obtain ⟨ob, hob⟩ := ho.alive
        exact ho.other (g' := g2) a2 a1 fun b hφ => hheap b ((r1.ob id _ hob).block hφ r1.small) (hLnone hp hob hφ)
    · intro v id ver a b hone hr
      cases hp : place ids id with
      | some i =>
        have h := ml.ref v i ver a b (low hp) hone (ref0 hp hr)
        obtain ⟨a1, ob, a2, a3, _⟩ := hsome hp
        unfold RefAt at h ⊢
        rw [a2] at h
        rw [show get g2.h id = some ob from a3, show g2.φ id = g'.φ i from a1]
        exact h
      | none =>
        obtain ⟨a1, a2⟩ := hnone hp
        exact hr.other (g' := g2) a2 a1
  have hI2 : ∀ b, b < g.w.heap.size → g'.I b → I1 b ∨ L b := by
    intro b hb h
    rcases r'.i1 b h with h | h | h
    · exact .inl h
    · exact .inr h
    · simp only [] at h; omega
  have r2 : Rel ν k g2 := by
    refine ⟨fun id o ho => ?_, fun id id' o o' b ho ho' hφ hφ' => ?_, r'.small, fun b h => r'.i0 b (r1.i0 b h), fun b h => ?_, fun id o b ho hφ => ?_, Nat.le_trans r1.size r'.size, r'.os.trans r1.os, r'.tape.trans r1.tape, r'.output.trans r1.output, fun b hb hk => ?_⟩
    · cases hp : place ids id with
      | some i =>
        obtain ⟨a1, ob, a2, a3, a4⟩ := hsome hp
        have : ob = o := by rw [show get g2.h id = some ob from a3] at ho; exact Option.some.inj ho
        subst this
        have old := r'.ob i _ a2
        cases ob with
        | cells cs => exact absurd rfl (a4.1 cs)
        | map cs => exact absurd rfl (a4.2 cs)
        | buf v ee es =>
          rcases old with ⟨h1, h2⟩ | ⟨b, h1, h2, h3, h4⟩
          · exact .inl ⟨a1.trans h1, h2⟩
          · exact .inr ⟨b, a1.trans h1, h2, h3, h4⟩
        | imm v ee es =>
          rcases old with ⟨h1, h2⟩ | ⟨b, h1, h2, h3⟩
          · exact .inl ⟨a1.trans h1, h2⟩
          · exact .inr ⟨b, a1.trans h1, h2, h3⟩
      | none =>
        obtain ⟨a1, a2⟩ := hnone hp
        have ho' : get h6 id = some o := a2.symm.trans ho
        refine (r1.ob id o ho').other (g' := g2) a1 m2 hRI r'.size (fun b hφ => hheap b ((r1.ob id _ ho').block hφ r1.small) (hLnone hp ho' hφ)) fun b hφ => ?_
        have hlt := (r1.ob id _ ho').block hφ r1.small
        exact ⟨fun h => (hI2 b hlt h).resolve_right (hLnone hp ho' hφ), fun h => r'.i0 b h⟩
    · have cross : ∀ {a c : Nat} {oc : Ob}, (∃ i, place ids a = some i) → place ids c = none → get h' c = some oc → φ2 a = some b → φ2 c = some b → False := by
        rintro a c oc ⟨i, hp⟩ hp' hoc h1 h2
        obtain ⟨a1, ob, a2, a3, _⟩ := hsome hp
        obtain ⟨b1, b2⟩ := hnone hp'
        have ho6 : get h6 c = some oc := b2.symm.trans hoc
        have hφc : g.φ c = some b := b1.symm.trans h2
        rcases r'.own i ob b a2 (a1.symm.trans h1) with h | h
        · exact hLnone hp' ho6 hφc h
        · have := (r1.ob c _ ho6).block hφc r1.small
          simp only [] at h this
          omega
      cases hp : place ids id with
      | some i =>
        cases hp' : place ids id' with
        | some i' =>
          obtain ⟨a1, ob, a2, a3, _⟩ := hsome hp
          obtain ⟨b1, ob', b2, b3, _⟩ := hsome hp'
          have := r'.inj i i' ob ob' b a2 b2 (a1.symm.trans hφ) (b1.symm.trans hφ')
          subst this
          have h1 := place_some hp
          rw [place_some hp'] at h1
          exact (Option.some.inj h1).symm
        | none => exact (cross ⟨i, hp⟩ hp' ho' hφ hφ').elim
      | none =>
        cases hp' : place ids id' with
        | some i' => exact (cross ⟨i', hp'⟩ hp ho hφ' hφ).elim
        | none =>
          obtain ⟨a1, a2⟩ := hnone hp
          obtain ⟨b1, b2⟩ := hnone hp'
          exact r1.inj id id' o o' b (a2.symm.trans ho) (b2.symm.trans ho') (a1.symm.trans hφ) (b1.symm.trans hφ')
    · rcases r'.i1 b h with h | ⟨i, id, hid, hφ⟩ | h
      · exact r1.i1 b h
      · obtain ⟨v, ee, es, q3, q4⟩ := hos i id hid
        exact .inr (r1.own id _ b q4 hφ)
      · exact .inr (.inr (Nat.le_trans r1.size h))
    · cases hp : place ids id with
      | some i =>
        obtain ⟨a1, ob, a2, a3, _⟩ := hsome hp
        rcases r'.own i ob b a2 (a1.symm.trans hφ) with ⟨i', id', hid', hφ'⟩ | h
        · obtain ⟨v, ee, es, q3, q4⟩ := hos i' id' hid'
          exact r1.own id' _ b q4 hφ'
        · exact .inr (Nat.le_trans r1.size h)
      | none =>
        obtain ⟨a1, a2⟩ := hnone hp
        exact r1.own id o b (a2.symm.trans ho) (a1.symm.trans hφ)
    · have hlt : b < g.w.heap.size := Nat.lt_of_lt_of_le hb r1.size
      refine (hheap b hlt ?_).trans (r1.old b hb hk)
      rintro ⟨i, id, hid, hφ⟩
      obtain ⟨v, ee, es, q3, q4⟩ := hos i id hid
      rcases hk with hk | hk
      · rcases r1.own id _ b q4 hφ with h | h
        · exact hk h
        · omega
      · exact (hLI b ⟨i, id, hid, hφ⟩).1 (r1.i0 b hk)
  refine ⟨v, g2, rfl, rfl, rfl, r2, f1.mono.trans m2, ?_⟩
  unfold lentR at hrr
  split at hrr
  · rename_i i o n ver hp1
    simp only [Option.map_eq_some_iff] at hrr
    obtain ⟨id, hid, rfl⟩ := hrr
    rw [hp1] at hR
    cases hR with
    | own hone ho =>
      obtain ⟨a1, ob, a2, a3, _⟩ := hsome (nodup_place hnd hid)
      refine .own hone ?_
      unfold OwnAt at ho ⊢
      rw [a2] at ho
      rw [show get g2.h id = some ob from a3, show g2.φ id = g'.φ i from a1]
      exact ho
  · split at hrr
    · rename_i hfl
      cases hrr
      exact flat_any hfl hR
    · cases hrr
end
end Arb

/-
  A CALL THAT SHARES: all that the callee can reach is lent to it; what it leaves is the caller's.
-/
namespace Arb
open Go Go.RowKit

section
variable {ν : Nat → Nat} {P : Program} {k : Cx} {g : Gh}

theorem ren_ok {g g' : Gh} {ρ : Nat → Option Nat} (hI : ∀ v x, RI ν g.I g.w v x → RI ν g'.I g'.w v x)
    (ho : ∀ id i, ρ id = some i → ∀ v o n ver, OwnAt g v id o n ver → OwnAt g' v i o n ver)
    (hr : ∀ id i, ρ id = some i → ∀ v ver a b, RefAt g v id ver a b → RefAt g' v i ver a b) :
    ∀ (d : Nat) (v : Value) (x : AV), RA ν g v x → RA ν g' v (ren ρ d x)
  | 0, v, _, _ => .undef v
  | d + 1, v, x, h => by
    have ih := ren_ok hI ho hr d
    cases h with
    | undef => exact .undef v
    | iv h => exact .iv (hI _ _ h)
    | agg hn h1 hr' =>
      refine .agg (by simpa using hn) h1 fun j v c hv hc => ?_
      simp only [List.getElem?_map, Option.map_eq_some_iff] at hc
      obtain ⟨c', hc', rfl⟩ := hc
      exact ih v c' (hr' j v c' hv hc')
    | tup hn hr' =>
      refine .tup (by simpa using hn) fun j v c hv hc => ?_
      simp only [List.getElem?_map, Option.map_eq_some_iff] at hc
      obtain ⟨c', hc', rfl⟩ := hc
      exact ih v c' (hr' j v c' hv hc')
    | @own _ id o n ver h1 h =>
      simp only [ren]
      split
      · rename_i i hi; exact .own h1 (ho id i hi _ _ _ _ h)
      · exact .undef v
    | @ref _ id ver i j h1 h =>
      simp only [ren]
      split
      · rename_i p hp; exact .ref h1 (hr id p hp _ _ _ _ h)
      · exact .undef v
    | clo hn hr' =>
      refine .clo (by simpa using hn) fun j v c hv hc => ?_
      simp only [List.getElem?_map, Option.map_eq_some_iff] at hc
      obtain ⟨c', hc', rfl⟩ := hc
      exact ih v c' (hr' j v c' hv hc')

theorem own_ren {g g' : Gh} {ρ : Nat → Option Nat} {id i : Nat} (hh : get g'.h i = (get g.h id).map (renO ρ)) (hφ : g'.φ i = g.φ id) (hw : ∀ b, g.φ id = some b → g'.w.heap[b]? = g.w.heap[b]?) {v : Value} {o n ver : Nat} (h : OwnAt g v id o n ver) : OwnAt g' v i o n ver := by
  unfold OwnAt at h ⊢
  rw [hh, hφ]
  cases hg : get g.h id with
  | none => rw [hg] at h; exact h.elim
  | some ob =>
    rw [hg] at h
    cases ob with
    | cells cs => exact h.elim
    | buf v' e es => exact ⟨h.1, fun hv => (h.2 hv).same hw⟩
    | imm v' e es => exact ⟨h.1, fun hv => (h.2 hv).same hw⟩
    | map kvs => exact h.elim
theorem ref_ren {g g' : Gh} {ρ : Nat → Option Nat} {id i : Nat} (hh : get g'.h i = (get g.h id).map (renO ρ)) (hφ : g'.φ i = g.φ id) {v : Value} {ver a b : Nat} (h : RefAt g v id ver a b) : RefAt g' v i ver a b := by
  unfold RefAt at h ⊢
  rw [hh, hφ]
  cases hg : get g.h id with
  | none => rw [hg] at h; exact h.elim
  | some ob =>
    rw [hg] at h
    cases ob <;> exact h
theorem ob_ren {g g' : Gh} {ρ : Nat → Option Nat} {i id : Nat} {o : Ob} (h : ObAt ν g i o) (hφ : g'.φ id = g.φ i) (hI : g'.I = g.I) (hw : g'.w = g.w) (hR : ∀ v c, RA ν g v c → RA ν g' v (ren ρ 8 c)) : ObAt ν g' id (renO ρ o) := by
  cases o with
  | cells cs =>
    obtain ⟨b, e1, e2, e3, e4⟩ := h
    refine ⟨b, hφ.trans e1, by rw [hI]; exact e2, by rw [hw]; exact e3, fun j c hc => ?_⟩
    simp only [List.getElem?_map, Option.map_eq_some_iff] at hc
    obtain ⟨c', hc', rfl⟩ := hc
    obtain ⟨v, c1, c2, c3⟩ := e4 j c' hc'
    exact ⟨v, by rw [hw]; exact c1, c2, hR v c' c3⟩
  | buf v e es =>
    rcases h with ⟨h1, h2⟩ | ⟨b, e1, e2, e3, e4⟩
    · exact .inl ⟨hφ.trans h1, h2⟩
    · exact .inr ⟨b, hφ.trans e1, by rw [hI]; exact e2, by rw [hw]; exact e3, by rw [hI, hw]; exact e4⟩
  | imm v e es =>
    rcases h with ⟨h1, h2⟩ | ⟨b, e1, e2, e4⟩
    · exact .inl ⟨hφ.trans h1, h2⟩
    · exact .inr ⟨b, hφ.trans e1, by rw [hI]; exact e2, by rw [hI, hw]; exact e4⟩
  | map kvs =>
    obtain ⟨b, es, clock, e1, e2, e3, e4, e5, e6⟩ := h
    refine ⟨b, es, clock, hφ.trans e1, by rw [hI]; exact e2, by rw [hw]; exact e3, by rw [hw]; exact e4, by simpa using e5, fun j e p h1 h2 => ?_⟩
    simp only [List.getElem?_map, Option.map_eq_some_iff] at h2
    obtain ⟨p', hp, rfl⟩ := h2
    obtain ⟨c1, c2⟩ := e6 j e p' h1 hp
    exact ⟨hR _ _ c1, hR _ _ c2⟩

theorem reach_ok : ∀ (n : Nat) (todo : List Nat) (acc ps : List (Nat × Ob)) (h h' : Hp), (reachM n todo acc).run h = some (ps, h') → (∀ p ∈ acc, get h p.1 = some p.2) → h' = h ∧ ∀ p ∈ ps, get h p.1 = some p.2 := by
  intro n
  induction n with
  | zero =>
    intro todo acc ps h h' e ha
    obtain ⟨rfl, rfl⟩ := M.ret_some e
    exact ⟨rfl, fun p hp => ha p (by simpa using hp)⟩
  | succ n ih =>
    intro todo acc ps h h' e ha
    cases todo with
    | nil =>
      obtain ⟨rfl, rfl⟩ := M.ret_some e
      exact ⟨rfl, fun p hp => ha p (by simpa using hp)⟩
    | cons id r =>
      simp only [reachM] at e
      split at e
      · exact ih r acc ps h h' e ha
      · simp only [M.run] at e
        split at e
        · rename_i o ho
          exact ih _ _ ps h h' e fun p hp => by
            rcases List.mem_cons.1 hp with rfl | hp
            · exact ho
            · exact ha p hp
        · exact ih r acc ps h h' e ha

theorem fresh_ok (slot : Nat) : ∀ (n : Nat) (h h' : Hp) (u : Unit), (freshN slot n).run h = some (u, h') → h' = h ∧ ∀ j, j < n → get h (slot + j) = none := by
  intro n
  induction n with
  | zero =>
    intro h h' u e
    obtain ⟨-, rfl⟩ := M.ret_some e
    exact ⟨rfl, fun j hj => absurd hj (Nat.not_lt_zero _)⟩
  | succ n ih =>
    intro h h' u e
    obtain ⟨_, h1, e1, e2⟩ := M.bind_some e
    obtain ⟨hf, rfl⟩ := M.fresh_some e1
    obtain ⟨rfl, hr⟩ := ih _ _ _ e2
    refine ⟨rfl, fun j hj => ?_⟩
    by_cases he : j = n
    · rw [he]; exact hf
    · exact hr j (by omega)

theorem nodupB_cons {x : Nat} {l : List Nat} (h : nodupB (x :: l) = true) : x ∉ l ∧ nodupB l = true := by
  simpa only [nodupB, Bool.and_eq_true, Bool.not_eq_true', List.contains_eq_mem, decide_eq_false_iff_not] using h
theorem mem_get {T : List (Nat × Nat)} (hn : nodupB (T.map (·.1)) = true) {a b : Nat} (h : (a, b) ∈ T) : get T a = some b := by
  induction T with
  | nil => cases h
  | cons p T ih =>
    obtain ⟨h1, h2⟩ := nodupB_cons hn
    simp only [get]
    rcases List.mem_cons.1 h with rfl | h
    · rw [if_pos rfl]
    · rw [if_neg (fun e : p.1 = a => h1 (List.mem_map.2 ⟨_, h, e.symm⟩))]
      exact ih h2 h
theorem get_mem {T : List (Nat × Nat)} {a b : Nat} (h : get T a = some b) : (a, b) ∈ T := by
  induction T with
  | nil => cases h
  | cons p T ih =>
    simp only [get] at h
    split at h
    · rename_i hp
      cases h
      subst hp
      exact List.mem_cons_self
    · exact List.mem_cons_of_mem _ (ih h)
theorem home_mem {T : List (Nat × Nat)} {a b : Nat} (h : homeG T b = some a) : (a, b) ∈ T := by
  induction T with
  | nil => cases h
  | cons p T ih =>
    simp only [homeG] at h
    split at h
    · rename_i hp
      cases h
      subst hp
      exact List.mem_cons_self
    · exact List.mem_cons_of_mem _ (ih h)
theorem snd_one {T : List (Nat × Nat)} (hn : nodupB (T.map (·.2)) = true) {a a' b : Nat} (h : (a, b) ∈ T) (h' : (a', b) ∈ T) : a = a' := by
  induction T with
  | nil => cases h
  | cons p T ih =>
    obtain ⟨h1, h2⟩ := nodupB_cons hn
    rcases List.mem_cons.1 h with e | k1
    · rcases List.mem_cons.1 h' with e' | k2
      · rw [← e'] at e; exact (Prod.mk.inj e).1
      · exact absurd (List.mem_map.2 ⟨(a', b), k2, by rw [← e]⟩) h1
    · rcases List.mem_cons.1 h' with e' | k2
      · exact absurd (List.mem_map.2 ⟨(a, b), k1, by rw [← e']⟩) h1
      · exact ih h2 k1 k2
theorem withPlaces_mem {α : Type} : ∀ (l : List α) (s : Nat) (a : Nat) (b : α), (a, b) ∈ withPlaces l s ↔ s ≤ a ∧ l[a - s]? = some b
  | [], s, a, b => by simp [withPlaces]
  | x :: l, s, a, b => by
    simp only [withPlaces, List.mem_cons, Prod.mk.injEq, withPlaces_mem l (s + 1) a b]
    by_cases h : a = s
    · subst h
      simp
      constructor
      · rintro (h | ⟨h, _⟩)
        · exact h.symm
        · omega
      · intro h; exact .inl h.symm
    · by_cases h' : s ≤ a
      · rw [show a - s = (a - (s + 1)) + 1 by omega]
        simp [h]
        omega
      · simp [h]; omega
theorem pairs_mem {ids news : List Nat} {slot a b : Nat} : (a, b) ∈ pairsG ids news slot ↔ ids[b]? = some a ∨ slot ≤ a ∧ news[a - slot]? = some b := by
  unfold pairsG
  rw [List.mem_append, withPlaces_mem]
  refine or_congr ?_ Iff.rfl
  rw [List.mem_map]
  constructor
  · rintro ⟨⟨i, x⟩, h, e⟩
    cases e
    simpa using (withPlaces_mem ids 0 _ _).1 h
  · intro h
    exact ⟨(b, a), (withPlaces_mem ids 0 _ _).2 ⟨Nat.zero_le _, by simpa using h⟩, rfl⟩

theorem back_ok {σ : Nat → Option Nat} {hc : Hp} : ∀ (T : List (Nat × Nat)) (h h' : Hp) (u : Unit), (backG σ hc T).run h = some (u, h') → nodupB (T.map (·.1)) = true →
    (∀ id s, get T id = some s → ∃ o, get hc s = some o ∧ get h' id = some (renO σ o)) ∧ ∀ id, get T id = none → get h' id = get h id := by
  intro T
  induction T with
  | nil =>
    intro h h' u e _
    obtain ⟨-, rfl⟩ := M.ret_some e
    exact ⟨fun id s h => (by cases h), fun _ _ => rfl⟩
  | cons p T ih =>
    intro h h' u e hn
    obtain ⟨hn1, hn2⟩ := nodupB_cons hn
    obtain ⟨o, h1, e1, e2⟩ := M.bind_some e
    obtain ⟨ho, rfl⟩ := M.lift_some e1
    obtain ⟨_, h2, e3, e4⟩ := M.bind_some e2
    obtain rfl := M.write_some e3
    obtain ⟨q1, q2⟩ := ih _ _ _ e4 hn2
    have hp : get T p.1 = none := by
      cases hg : get T p.1 with
      | none => rfl
      | some s => exact absurd (List.mem_map.2 ⟨_, get_mem hg, rfl⟩) hn1
    refine ⟨fun id s hs => ?_, fun id hs => ?_⟩
    · simp only [get] at hs
      split at hs
      · rename_i he
        cases hs
        subst he
        exact ⟨o, ho, by rw [q2 _ hp]; exact get_set_same _ _ _⟩
      · exact q1 id s hs
    · simp only [get] at hs
      split at hs
      · cases hs
      · rename_i he
        rw [q2 id hs]
        exact get_set_ne _ _ he

theorem gcallM_ok {call : Nat → List AV → Hp → Option (AV × Hp)} (hs : CallSound ν P call) (r : Rel ν k g) {slot : Nat} {f y : AV} {args : List AV} {h' : Hp} (e : (gcallM call slot f args).run g.h = some (y, h')) {fv : Value} {cargs : Array Value}
    (hf : RA ν g fv f) (ha : RL ν g cargs.toList args) : CallDone ν P k g h' y fv cargs := by
  obtain ⟨q, h1, e1, e2⟩ := M.bind_some e
  obtain ⟨hq, rfl⟩ := M.lift_some e1
  obtain ⟨caps, rfl, hcaps⟩ := callee_ok hq hf
  obtain ⟨ps, h2, e3, e4⟩ := M.bind_some e2
  obtain ⟨rfl, hps⟩ := reach_ok _ _ _ _ _ _ e3 (fun p hp => by cases hp)
  obtain ⟨_, h3, e5, e6⟩ := M.bind_some e4
  obtain ⟨hlen, rfl⟩ := M.ok_some e5
  obtain ⟨p, h4, e7, e8⟩ := M.bind_some e6
  obtain ⟨hcall, rfl⟩ := M.lift_some e7
  generalize hids : ps.map (·.1) = ids at hcall e8
  generalize newsOf p ps.length = news at e8
  unfold gback at e8
  generalize hT : pairsG ids news slot = T at e8
  obtain ⟨_, h5, e9, e10⟩ := M.bind_some e8
  obtain ⟨hok0, rfl⟩ := M.ok_some e9
  obtain ⟨_, h6, e11, e12⟩ := M.bind_some e10
  obtain ⟨rfl, hfresh⟩ := fresh_ok _ _ _ _ _ e11
  obtain ⟨_, h7, e13, e14⟩ := M.bind_some e12
  obtain ⟨rfl, rfl⟩ := M.ret_some e14
  simp only [Bool.and_eq_true, Nat.ble_eq] at hok0 hlen
  obtain ⟨⟨hT1, hT2⟩, -⟩ := hok0
  obtain ⟨⟨fn, hfn, hb, hn⟩, hok⟩ := hs _ _ _ _ _ hcall
  have hT' : ∀ {a b : Nat}, (a, b) ∈ T ↔ ids[b]? = some a ∨ slot ≤ a ∧ news[a - slot]? = some b := by rw [← hT]; exact pairs_mem
  have hob : ∀ (i id : Nat), ids[i]? = some id → ∃ o, ps[i]? = some (id, o) ∧ get g.h id = some o := by
    intro i id hi
    rw [← hids, List.getElem?_map, Option.map_eq_some_iff] at hi
    obtain ⟨⟨id', o⟩, h1, rfl⟩ := hi
    exact ⟨o, h1, hps _ (List.mem_of_getElem? h1)⟩
  -- the callee's view
  let φ0 : Nat → Option Nat := fun i => (ids[i]?).bind g.φ
  let L : Nat → Prop := fun b => ∃ (i id : Nat), ids[i]? = some id ∧ g.φ id = some b
  let hp0 : Hp := withPlaces (ps.map fun p => renO (place ids) p.2) 0
  let g0 : Gh := ⟨g.I, φ0, g.w, hp0⟩
  have hg0 : ∀ i id o, ps[i]? = some (id, o) → get g0.h i = some (renO (place ids) o) := fun i id o h => by
    show get hp0 i = _
    rw [withPlaces_get, if_pos (Nat.zero_le _), Nat.sub_zero, List.getElem?_map, h]
    rfl
  have hidx : ∀ i o, get g0.h i = some o → ∃ id o', ids[i]? = some id ∧ get g.h id = some o' ∧ o = renO (place ids) o' ∧ φ0 i = g.φ id := by
    intro i o ho
    have ho' : get hp0 i = some o := ho
    rw [withPlaces_get, if_pos (Nat.zero_le _), Nat.sub_zero, List.getElem?_map, Option.map_eq_some_iff] at ho'
    obtain ⟨⟨id, o'⟩, h1, rfl⟩ := ho'
    have hid : ids[i]? = some id := by rw [← hids, List.getElem?_map, h1]; rfl
    exact ⟨id, o', hid, hps _ (List.mem_of_getElem? h1), rfl, by simp [φ0, hid]⟩
  have hpl : ∀ id i, place ids id = some i → get g0.h i = (get g.h id).map (renO (place ids)) ∧ φ0 i = g.φ id := by
    intro id i h
    have hid := place_some h
    obtain ⟨o, h1, h2⟩ := hob i id hid
    exact ⟨by rw [hg0 i id o h1, h2]; rfl, by simp [φ0, hid]⟩
  have inR : ∀ (d : Nat) (v : Value) (x : AV), RA ν g v x → RA ν g0 v (ren (place ids) d x) :=
    ren_ok (g := g) (g' := g0) (fun _ _ h => h) (fun id i hi v o n ver h => own_ren (hpl id i hi).1 (hpl id i hi).2 (fun _ _ => rfl) h) fun id i hi v ver a b h => ref_ren (hpl id i hi).1 (hpl id i hi).2 h
  have low : ∀ {i id : Nat}, ids[i]? = some id → i < 1000 := fun h => by
    have h1 := lt_of_some h
    rw [← hids, List.length_map] at h1
    omega
  have inT : ∀ {i id : Nat}, ids[i]? = some id → get T id = some i := fun h => mem_get hT1 (hT'.2 (.inl h))
  have hLs : ∀ b, L b → b < g.w.heap.size := by
    rintro b ⟨i, id, hid, hφ⟩
    obtain ⟨o, -, ho⟩ := hob i id hid
    exact (r.ob id o ho).block hφ r.small
  have r0 : Rel ν ⟨g.w, g.I, L⟩ g0 := by
    refine ⟨fun i o ho => ?_, fun i i' o o' b ho ho' hφ hφ' => ?_, r.small, fun _ h => h, fun _ h => .inl h, fun i o b ho hφ => ?_, Nat.le_refl _, rfl, rfl, rfl, fun _ _ _ => rfl⟩
    · obtain ⟨id, o', hid, hg, rfl, hφ⟩ := hidx i o ho
      exact ob_ren (g := g) (g' := g0) (r.ob id o' hg) hφ rfl rfl (inR 8)
    · obtain ⟨id, o1, hid, hg, -, hφi⟩ := hidx i o ho
      obtain ⟨id', o1', hid', hg', -, hφi'⟩ := hidx i' o' ho'
      have := r.inj id id' o1 o1' b hg hg' (hφi.symm.trans hφ) (hφi'.symm.trans hφ')
      subst this
      have a1 := inT hid
      rw [inT hid'] at a1
      exact (Option.some.inj a1).symm
    · obtain ⟨id, o1, hid, hg, -, hφi⟩ := hidx i o ho
      exact .inl ⟨i, id, hid, hφi.symm.trans hφ⟩
  have hRL : RL ν g0 (cargs ++ caps).toList ((args ++ q.2).map (ren (place ids) 8)) := by
    have hA := ha.append hcaps
    refine ⟨by have := hA.1; simpa using this, fun j v y h1 h2 => ?_⟩
    simp only [List.getElem?_map, Option.map_eq_some_iff] at h2
    obtain ⟨y', hy, rfl⟩ := h2
    exact inR 8 v y' (hA.2 j v y' (by simpa using h1) hy)
  refine ⟨q.1, caps, fn, rfl, hfn, hb, hn, (hok ⟨g.w, g.I, L⟩ g0 (cargs ++ caps) rfl rfl rfl r0 hRL).mono ?_⟩
  rintro e w' ⟨v, g', rfl, rfl, hgh, r', ml, hR⟩
  -- the caller's view
  obtain ⟨q1, q2⟩ := back_ok T _ _ _ e13 hT1
  let g2 : Gh := ⟨g'.I, fun id => match get T id with | some s => g'.φ s | none => g.φ id, g'.w, h'⟩
  have hsome : ∀ {id s : Nat}, get T id = some s → g2.φ id = g'.φ s ∧ ∃ o, get g'.h s = some o ∧ get g2.h id = some (renO (homeG T) o) := by
    intro id s hs'
    obtain ⟨o, a1, a2⟩ := q1 id s hs'
    exact ⟨by simp [g2, hs'], o, by rw [hgh]; exact a1, a2⟩
  have hnone : ∀ {id : Nat}, get T id = none → g2.φ id = g.φ id ∧ get g2.h id = get g.h id := fun hs' => ⟨by simp [g2, hs'], q2 _ hs'⟩
  have alive : ∀ {id s : Nat} {o : Ob}, get T id = some s → get g.h id = some o → ids[s]? = some id := by
    intro id s o hs' ho
    rcases hT'.1 (get_mem hs') with h | ⟨h, hn'⟩
    · exact h
    · have := hfresh (id - slot) (lt_of_some hn')
      rw [show slot + (id - slot) = id by omega, ho] at this
      cases this
  have hLnone : ∀ {id : Nat} {o : Ob} {b : Nat}, get T id = none → get g.h id = some o → g.φ id = some b → ¬ L b := by
    rintro id o b hp' ho hφ ⟨i, id', hid', hφ'⟩
    obtain ⟨o', -, hg'⟩ := hob i id' hid'
    have := r.inj id id' o o' b ho hg' hφ hφ'
    subst this
    rw [inT hid'] at hp'
    cases hp'
  have hheap : ∀ b, b < g.w.heap.size → (¬ L b ∨ g.I b) → g'.w.heap[b]? = g.w.heap[b]? := fun b hb' h => r'.old b hb' h
  have hRI : ∀ v x, RI ν g.I g.w v x → RI ν g'.I g'.w v x := fun v x h => h.mono (fun b hb' => r'.i0 b hb') fun b off u hb' hc => by
    rw [cell_of_same (hheap b (r.small b hb') (.inr hb'))]; exact hc
  have outP : ∀ i id, homeG T i = some id → get T id = some i := fun i id h => mem_get hT1 (home_mem h)
  have outR : ∀ (d : Nat) (v : Value) (x : AV), RA ν g' v x → RA ν g2 v (ren (homeG T) d x) :=
    ren_ok (g := g') (g' := g2) (fun _ _ h => h)
      (fun i id hi v o n ver h => by
        obtain ⟨a1, ob, a2, a3⟩ := hsome (outP i id hi)
        exact own_ren (ρ := homeG T) (by rw [a3, a2]; rfl) a1 (fun _ _ => rfl) h)
      fun i id hi v ver a b h => by
        obtain ⟨a1, ob, a2, a3⟩ := hsome (outP i id hi)
        exact ref_ren (ρ := homeG T) (by rw [a3, a2]; rfl) a1 h
  have plow : ∀ {i id : Nat}, ids[i]? = some id → place ids id = some i := by
    intro i id h
    cases hp' : place ids id with
    | none => exact absurd h (place_none hp' i)
    | some i' =>
      have a1 := inT (place_some hp')
      rw [inT h] at a1
      exact congrArg some (Option.some.inj a1).symm
  have m2 : Mono ν g g2 := by
    intro v x hx
    refine hx.mono1 (g' := g2) hRI ?_ ?_
    · intro v id o n ver hone ho
      obtain ⟨ob, hob'⟩ := ho.alive
      cases hp' : get T id with
      | some i =>
        have hid := alive hp' hob'
        have hpi := hpl id i (plow hid)
        have h := ml.own v i o n ver (low hid) hone (own_ren hpi.1 hpi.2 (fun _ _ => rfl) ho)
        obtain ⟨a1, ob2, a2, a3⟩ := hsome hp'
        exact own_ren (ρ := homeG T) (by rw [a3, a2]; rfl) a1 (fun _ _ => rfl) h
      | none =>
        obtain ⟨a1, a2⟩ := hnone hp'
        exact ho.other (g' := g2) a2 a1 fun b hφ => hheap b ((r.ob id _ hob').block hφ r.small) (.inl (hLnone hp' hob' hφ))
    · intro v id ver a b hone hr
      obtain ⟨ob, hob'⟩ := hr.alive
      cases hp' : get T id with
      | some i =>
        have hid := alive hp' hob'
        have hpi := hpl id i (plow hid)
        have h := ml.ref v i ver a b (low hid) hone (ref_ren hpi.1 hpi.2 hr)
        obtain ⟨a1, ob2, a2, a3⟩ := hsome hp'
        exact ref_ren (ρ := homeG T) (by rw [a3, a2]; rfl) a1 h
      | none =>
        obtain ⟨a1, a2⟩ := hnone hp'
        exact hr.other (g' := g2) a2 a1
  have hI2 : ∀ b, b < g.w.heap.size → g'.I b → g.I b ∨ L b := by
    intro b hb' h
    rcases r'.i1 b h with h | h | h
    · exact .inl h
    · exact .inr h
    · simp only [] at h; omega
  have r2 : Rel ν k g2 := by
    refine ⟨fun id o ho => ?_, fun id id' o o' b ho ho' hφ hφ' => ?_, r'.small, fun b h => r'.i0 b (r.i0 b h), fun b h => ?_, fun id o b ho hφ => ?_, Nat.le_trans r.size r'.size, r'.os.trans r.os, r'.tape.trans r.tape, r'.output.trans r.output, fun b hb' hk => ?_⟩
    · cases hp' : get T id with
      | some s =>
        obtain ⟨a1, ob, a2, a3⟩ := hsome hp'
        rw [a3] at ho
        cases ho
        exact ob_ren (g := g') (g' := g2) (r'.ob s _ a2) a1 rfl rfl (outR 8)
      | none =>
        obtain ⟨a1, a2⟩ := hnone hp'
        have ho' : get g.h id = some o := a2.symm.trans ho
        refine (r.ob id o ho').other (g' := g2) a1 m2 hRI r'.size (fun b hφ => hheap b ((r.ob id _ ho').block hφ r.small) (.inl (hLnone hp' ho' hφ))) fun b hφ => ?_
        have hlt := (r.ob id _ ho').block hφ r.small
        exact ⟨fun h => (hI2 b hlt h).resolve_right (hLnone hp' ho' hφ), fun h => r'.i0 b h⟩
    · have cross : ∀ {a c s : Nat} {oc : Ob}, get T a = some s → get T c = none → get g2.h c = some oc → g2.φ a = some b → g2.φ c = some b → False := by
        intro a c s oc hp1 hp2 hoc h1 h2
        obtain ⟨a1, ob, a2, a3⟩ := hsome hp1
        obtain ⟨b1, b2⟩ := hnone hp2
        have ho6 : get g.h c = some oc := b2.symm.trans hoc
        have hφc : g.φ c = some b := b1.symm.trans h2
        rcases r'.own s ob b a2 (a1.symm.trans h1) with h | h
        · exact hLnone hp2 ho6 hφc h
        · have := (r.ob c _ ho6).block hφc r.small
          simp only [] at h this
          omega
      cases hp1 : get T id with
      | some s =>
        cases hp2 : get T id' with
        | some s' =>
          obtain ⟨a1, ob, a2, a3⟩ := hsome hp1
          obtain ⟨b1, ob', b2, b3⟩ := hsome hp2
          have := r'.inj s s' ob ob' b a2 b2 (a1.symm.trans hφ) (b1.symm.trans hφ')
          subst this
          exact snd_one hT2 (get_mem hp1) (get_mem hp2)
        | none => exact (cross hp1 hp2 ho' hφ hφ').elim
      | none =>
        cases hp2 : get T id' with
        | some s' => exact (cross hp2 hp1 ho hφ' hφ).elim
        | none =>
          obtain ⟨a1, a2⟩ := hnone hp1
          obtain ⟨b1, b2⟩ := hnone hp2
          exact r.inj id id' o o' b (a2.symm.trans ho) (b2.symm.trans ho') (a1.symm.trans hφ) (b1.symm.trans hφ')
    · rcases r'.i1 b h with h | ⟨i, id, hid, hφ⟩ | h
      · exact r.i1 b h
      · obtain ⟨o, -, hg⟩ := hob i id hid
        exact .inr (r.own id _ b hg hφ)
      · exact .inr (.inr (Nat.le_trans r.size h))
    · cases hp1 : get T id with
      | some s =>
        obtain ⟨a1, ob, a2, a3⟩ := hsome hp1
        rcases r'.own s ob b a2 (a1.symm.trans hφ) with ⟨i', id', hid', hφ'⟩ | h
        · obtain ⟨o', -, hg'⟩ := hob i' id' hid'
          exact r.own id' _ b hg' hφ'
        · exact .inr (Nat.le_trans r.size h)
      | none =>
        obtain ⟨a1, a2⟩ := hnone hp1
        exact r.own id o b (a2.symm.trans ho) (a1.symm.trans hφ)
    · have hlt : b < g.w.heap.size := Nat.lt_of_lt_of_le hb' r.size
      refine (hheap b hlt ?_).trans (r.old b hb' hk)
      rcases hk with hk | hk
      · refine .inl ?_
        rintro ⟨i, id, hid, hφ⟩
        obtain ⟨o, -, hg⟩ := hob i id hid
        rcases r.own id _ b hg hφ with h | h
        · exact hk h
        · omega
      · exact .inr (r.i0 b hk)
  exact ⟨v, g2, rfl, rfl, rfl, r2, m2, outR 8 v _ hR⟩
end
end Arb

/-
  EVERY OPERATION: what the abstract machine does, the model does.
-/
namespace Arb
open Go Go.RowKit

section
variable {ν : Nat → Nat} {P : Program} {k : Cx} {g : Gh}

theorem wp_done {o : Oper} {a : Act} {h' : Hp} {y : AV} {s : Sem Value} (hx : execOp a.eval o = (do pure (.value (← s)) : Sem Next)) (d : Done ν k g h' y (s.run P g.w)) {next : Act → World → Prop} {Q : Exit → Act → World → Prop}
    (hn : ∀ g' v, g'.h = h' → Rel ν k g' → Mono ν g g' → RA ν g' v y → next (a.put o.dst v) g'.w) : o.wp P a g.w next Q := by
  obtain ⟨g', v, hr, hh, r', m, hR⟩ := d
  unfold Oper.wp
  rw [hx]
  simp only [Sem.run_bind, hr, Result.andThen_ok, Sem.run_pure]
  exact hn g' v hh r' m hR

theorem wp_call {o : Oper} {a : Act} {h' : Hp} {y : AV} {fo : Operand} {cargs : Array Operand} {tys : Array TypeId} (ho : o.op = .call { callee := .value fo, args := cargs, argTypes := tys })
    (d : CallDone ν P k g h' y (a.eval fo) (cargs.map a.eval)) {next : Act → World → Prop} {Q : Exit → Act → World → Prop}
    (hn : ∀ g' v, g'.h = h' → Rel ν k g' → Mono ν g g' → RA ν g' v y → next (a.put o.dst v) g'.w) : o.wp P a g.w next Q := by
  obtain ⟨q, caps, fn, hf, hfn, hb, hnm, hc⟩ := d
  unfold Oper.wp
  rw [enter_run ho hf hfn hb hnm]
  rw [Oper.upon_enter]
  refine hc.mono ?_
  rintro e w' ⟨v, g', rfl, rfl, hh, r', m, hR⟩
  exact hn g' v hh r' m hR

theorem is0_eval {a : Act} {x : Operand} (h : is0 x = true) : ∃ kk, a.eval x = .int kk 0 := by
  unfold is0 at h
  split at h
  · rename_i kk n
    have := beq_iff_eq.1 h; subst this
    exact ⟨kk, rfl⟩
  · cases h

theorem args_ok {a : Act} {fr : Fr} (hf : FrR ν g a.tmps fr) {xs : Array Operand} {ys : List Opd} (h : cOpds ν xs.toList ys = true) : RL ν g (xs.map a.eval).toList (ys.map (ev fr)) := by
  obtain ⟨h1, h2⟩ := evals_ok hf h
  exact ⟨by simpa using h1, fun j v x hv hx => h2 j v x (by simpa using hv) hx⟩

theorem parts_ok {a : Act} {fr : Fr} (hf : FrR ν g a.tmps fr) : ∀ {ps : List (Nat × Operand)} {qs : List (Nat × Opd)}, cParts ν ps qs = true →
    (ps.map fun p => (p.1, a.eval p.2)).length = (qs.map fun p => (p.1, ev fr p.2)).length ∧
    ∀ (j : Nat) (q : Nat × Value) (p : Nat × AV), (ps.map fun p => (p.1, a.eval p.2))[j]? = some q → (qs.map fun p => (p.1, ev fr p.2))[j]? = some p → q.1 = p.1 ∧ RA ν g q.2 p.2
  | [], [], _ => ⟨rfl, fun j v x h => by simp at h⟩
  | x :: xs, y :: ys, h => by
    simp only [cParts, Bool.and_eq_true, beq_iff_eq] at h
    obtain ⟨h1, h2⟩ := parts_ok hf h.2
    refine ⟨by simpa using h1, fun j v z hv hz => ?_⟩
    cases j with
    | zero => simp at hv hz; subst hv hz; exact ⟨h.1.1, eval_ok hf h.1.2⟩
    | succ j => exact h2 j v z (by simpa using hv) (by simpa using hz)
  | [], _ :: _, h => by simp [cParts] at h
  | _ :: _, [], h => by simp [cParts] at h

set_option maxHeartbeats 4000000 in
theorem op_wp {call : Nat → List AV → Hp → Option (AV × Hp)} (hs : CallSound ν P call) {o : Oper} {a : Act} {fr : Fr} {io : IOp} {slot : Nat} (hc : cOp P ν o.op io = true) (r : Rel ν k g) (hf : FrR ν g a.tmps fr) {y : AV} {h' : Hp}
    (e : (osem call slot (ev fr) io).run g.h = some (y, h')) {next : Act → World → Prop} {Q : Exit → Act → World → Prop}
    (hn : ∀ g' v, g'.h = h' → Rel ν k g' → Mono ν g g' → RA ν g' v y → next (a.put o.dst v) g'.w) : o.wp P a g.w next Q := by
  unfold cOp at hc
  split at hc
  case h_1 y' =>   -- mov
    obtain ⟨rfl, rfl⟩ := M.ret_some e
    split at hc
    · rename_i x ho
      exact wp_done (s := pure (a.eval x)) (by simp [execOp, ho]) (.same r rfl (eval_ok hf hc)) hn
    · rename_i x ho
      exact wp_done (s := pure (a.eval x)) (by simp [execOp, ho]) (.same r rfl (eval_ok hf hc)) hn
    · cases hc
  case h_2 =>   -- nil0
    split at hc
    · rename_i ho
      exact wp_done (s := pure (.slice none 0 0)) (by simp [execOp, ho, Act.eval]) (nil0_ok (a := none) r e) hn
    · rename_i ho
      exact wp_done (s := pure (.slice none 0 0)) (by simp [execOp, ho, Act.eval]) (nil0_ok (a := none) r e) hn
    · cases hc
  case h_3 =>   -- pick
    split at hc
    case h_2 => cases hc
    rename_i c x z ho
    simp only [Bool.and_eq_true] at hc
    simp only [osem] at e
    split at e
    case h_2 => exact (M.fail_some e).elim
    rename_i t ht
    obtain ⟨rfl, rfl⟩ := M.ret_some e
    have h1 := eval_ok hf hc.1.1
    rw [ht] at h1
    have hb := h1.bool
    refine wp_done (s := do pure (if ← asBool (a.eval c) then a.eval x else a.eval z)) (by simp [execOp, ho]) (.same r (v := if t then a.eval x else a.eval z) (by simp [hb, asBool]) ?_) hn
    cases t
    · exact eval_ok hf hc.2
    · exact eval_ok hf hc.1.2
  case h_4 =>   -- alloc
    split at hc
    case h_2 => cases hc
    rename_i t ho
    exact wp_done (s := Instr.alloc t true (.tuple #[])) (by simp [execOp, ho]) (allocI_ok r hc e) hn
  case h_5 =>   -- box
    split at hc
    case h_2 => cases hc
    rename_i t x ho
    exact wp_done (s := Instr.box t (a.eval x)) (by simp [execOp, ho]) (box_ok r (eval_ok hf hc) e) hn
  case h_6 =>   -- build
    split at hc
    case h_2 => cases hc
    rename_i t ps ho
    simp only [Bool.and_eq_true] at hc
    obtain ⟨hz, hc⟩ := hc
    split at hc
    case h_2 => cases hc
    rename_i pl hpl
    exact wp_done (s := Instr.build t (ps.map fun (i, x) => (i, a.eval x))) (by simp [execOp, ho]) (build_ok r hf hz hpl hc e) hn
  case h_7 e0 z n' qs =>   -- bsl
    split at hc
    case h_2 => cases hc
    rename_i t n ps ho
    simp only [Bool.and_eq_true, beq_iff_eq] at hc
    obtain ⟨⟨rfl, hb⟩, hq⟩ := hc
    obtain ⟨hl, hp⟩ := parts_ok hf hq
    refine wp_done (s := Instr.buildSlice t n (ps.toList.map fun p => (p.1, a.eval p.2)).toArray) (by
      have : (ps.map fun (p : Nat × Operand) => (p.1, a.eval p.2)) = (ps.toList.map fun p => (p.1, a.eval p.2)).toArray := by apply Array.ext'; simp
      simp only [execOp, ho]
      rw [← this]) (bsl_ok (slot := slot) r hb hl hp ?_) hn
    rw [M.mapL_map]
    exact e
  case h_8 =>   -- load
    split at hc
    case h_2 => cases hc
    rename_i t x ho
    simp only [Bool.and_eq_true] at hc
    exact wp_done (s := Instr.loadAt t (a.eval x)) (by simp [execOp, ho]) (load_ok r hc.1 (eval_ok hf hc.2) e) hn
  case h_9 =>   -- store
    split at hc
    case h_2 => cases hc
    rename_i t x z ho
    simp only [Bool.and_eq_true] at hc
    obtain ⟨g', hrun, rfl, hh, r', m⟩ := store_ok r hc.1.1 (eval_ok hf hc.1.2) (eval_ok hf hc.2) e
    unfold Oper.wp
    have hx : (execOp a.eval o).run P g.w = .ok .skip g'.w := by simp [execOp, ho, hrun]
    rw [hx]
    exact hn g' undef hh r' m (.tup rfl fun j v c h => by simp at h)
  case h_10 =>   -- fadr
    split at hc
    case h_2 => cases hc
    rename_i t x f ho
    simp only [Bool.and_eq_true] at hc
    exact wp_done (s := Instr.fieldAt t (a.eval x) f) (by simp [execOp, ho]) (fadr_ok r hc.1 (eval_ok hf hc.2) e) hn
  case h_11 =>   -- fld
    split at hc
    case h_2 => cases hc
    rename_i t x f ho
    simp only [Bool.and_eq_true] at hc
    exact wp_done (s := Instr.field t (a.eval x) f) (by simp [execOp, ho]) (fld_ok r hc.1 (eval_ok hf hc.2) e) hn
  case h_12 =>   -- iarr
    split at hc
    case h_2 => cases hc
    rename_i t x z ho
    simp only [Bool.and_eq_true] at hc
    exact wp_done (s := Instr.indexAt t (a.eval x) (a.eval z)) (by simp [execOp, ho]) (iarr_ok r hc.1.1 (eval_ok hf hc.1.2) (eval_ok hf hc.2) e) hn
  case h_13 =>   -- isl
    split at hc
    case h_2 => cases hc
    rename_i t x z ho
    simp only [Bool.and_eq_true] at hc
    exact wp_done (s := Instr.indexAt t (a.eval x) (a.eval z)) (by simp [execOp, ho]) (isl_ok r hc.1.1 (eval_ok hf hc.1.2) (eval_ok hf hc.2) e) hn
  case h_14 =>   -- xarr
    split at hc
    case h_2 => cases hc
    rename_i t x z ho
    simp only [Bool.and_eq_true] at hc
    exact wp_done (s := Instr.index t (a.eval x) (a.eval z)) (by simp [execOp, ho]) (xarr_ok r hc.1.1 (eval_ok hf hc.1.2) (eval_ok hf hc.2) e) hn
  case h_15 =>   -- xstr
    split at hc
    case h_2 => cases hc
    rename_i t x z ho
    simp only [Bool.and_eq_true] at hc
    exact wp_done (s := Instr.index t (a.eval x) (a.eval z)) (by simp [execOp, ho]) (xstr_ok r (isStr_spec hc.1.1) (eval_ok hf hc.1.2) (eval_ok hf hc.2) e) hn
  case h_16 bo q x' y' =>   -- bin
    split at hc
    case h_2 => cases hc
    rename_i b t x z yt ho
    simp only [Bool.and_eq_true, beq_iff_eq] at hc
    obtain ⟨⟨⟨rfl, hq⟩, hx⟩, hz⟩ := hc
    obtain ⟨w', h1, e1, e2⟩ := M.bind_some e
    obtain ⟨hb, rfl⟩ := M.lift_some e1
    obtain ⟨rfl, rfl⟩ := M.ret_some e2
    exact wp_done (s := do eqGuard b t x z (a.eval x) (a.eval z); binOp b t (a.eval x) (a.eval z)) (by simp [execOp, ho]) (bin_ok r hq (eval_ok hf hx) (eval_ok hf hz) hb) hn
  case h_17 neg qs x' y' =>   -- eqc
    split at hc
    case h_2 => cases hc
    rename_i b t x z yt ho
    simp only [Bool.and_eq_true, beq_iff_eq] at hc
    obtain ⟨⟨⟨rfl, hq⟩, hx⟩, hz⟩ := hc
    simp only [osem] at e
    split at e
    case h_2 => exact (M.fail_some e).elim
    rename_i xs ys hxs hys
    obtain ⟨w', h1, e1, e2⟩ := M.bind_some e
    obtain ⟨hb, rfl⟩ := M.lift_some e1
    obtain ⟨rfl, rfl⟩ := M.ret_some e2
    have h1 := eval_ok hf hx
    have h2 := eval_ok hf hz
    rw [hxs] at h1
    rw [hys] at h2
    exact wp_done (s := do eqGuard (if neg then .neq else .eql) t x z (a.eval x) (a.eval z); binOp (if neg then .neq else .eql) t (a.eval x) (a.eval z)) (by simp [execOp, ho]) (eqc_ok r hq neg h1 h2 hb) hn
  case h_18 uo x' =>   -- un
    split at hc
    case h_2 => cases hc
    rename_i u t x ho
    simp only [Bool.and_eq_true, beq_iff_eq] at hc
    obtain ⟨rfl, hx⟩ := hc
    obtain ⟨w', h1, e1, e2⟩ := M.bind_some e
    obtain ⟨hb, rfl⟩ := M.lift_some e1
    obtain ⟨rfl, rfl⟩ := M.ret_some e2
    exact wp_done (s := Op.unary u (a.eval x)) (by simp [execOp, ho]) (un_ok r (eval_ok hf hx) hb) hn
  case h_19 =>   -- cvi
    split at hc
    case h_2 => cases hc
    rename_i s d x ho
    simp only [Bool.and_eq_true] at hc
    obtain ⟨n, h1, e1, e2⟩ := M.bind_some e
    have hh := (idx_some e1).1
    subst hh
    obtain ⟨rfl, rfl⟩ := M.ret_some e2
    exact wp_done (s := convert s d (a.eval x)) (by simp [execOp, ho]) (cvi_ok r hc.1 (eval_ok hf hc.2) e1) hn
  case h_20 =>   -- cvs
    split at hc
    case h_2 => cases hc
    rename_i s d x ho
    simp only [Bool.and_eq_true] at hc
    simp only [osem] at e
    split at e
    case h_2 => exact (M.fail_some e).elim
    rename_i t ht
    obtain ⟨rfl, rfl⟩ := M.ret_some e
    have h1 := eval_ok hf hc.2
    rw [ht] at h1
    exact wp_done (s := convert s d (a.eval x)) (by simp [execOp, ho]) (cvs_ok r (isStr_spec hc.1.1) (isStr_spec hc.1.2) h1) hn
  case h_21 =>   -- slc
    split at hc
    case h_2 => cases hc
    rename_i t x lo hi ho
    simp only [Bool.and_eq_true] at hc
    exact wp_done (s := Instr.sliceAt t (a.eval x) (lo.map a.eval) (hi.map a.eval) none) (by simp [execOp, ho]) (slc_ok r hc.1.1.1 (eval_ok hf hc.1.1.2) (evalo_ok hf hc.1.2) (evalo_ok hf hc.2) e) hn
  case h_22 =>   -- slcs
    split at hc
    case h_2 => cases hc
    rename_i t x lo hi ho
    simp only [Bool.and_eq_true] at hc
    exact wp_done (s := Instr.sliceAt t (a.eval x) (lo.map a.eval) (hi.map a.eval) none) (by simp [execOp, ho]) (slcs_ok r (isStr_spec hc.1.1.1) (eval_ok hf hc.1.1.2) (evalo_ok hf hc.1.2) (evalo_ok hf hc.2) e) hn
  case h_23 =>   -- slz
    split at hc
    case h_2 => cases hc
    rename_i t x lo hi mx ho
    simp only [Bool.and_eq_true] at hc
    obtain ⟨⟨⟨⟨h1, h2⟩, h3⟩, h4⟩, h5⟩ := hc
    obtain ⟨k1, hk1⟩ := is0_eval (a := a) h4
    obtain ⟨k2, hk2⟩ := is0_eval (a := a) h5
    have hlo : lo.map a.eval = none ∨ ∃ k3, lo.map a.eval = some (.int k3 0) := by
      cases lo with
      | none => exact .inl rfl
      | some l =>
        obtain ⟨k3, hk3⟩ := is0_eval (a := a) h3
        exact .inr ⟨k3, by simp [hk3]⟩
    exact wp_done (s := Instr.sliceAt t (a.eval x) (lo.map a.eval) (some (.int k1 0)) (some (.int k2 0))) (by simp [execOp, ho, hk1, hk2]) (slz_ok r h1 hlo (eval_ok hf h2) e) hn
  case h_24 =>   -- clr
    split at hc
    case h_2 => cases hc
    rename_i args tys ho
    split at hc
    case h_2 => cases hc
    rename_i x t hx ht
    obtain rfl : args = #[x] := Array.ext' hx
    obtain rfl : tys = #[t] := Array.ext' ht
    simp only [Bool.and_eq_true] at hc
    exact wp_done (s := Builtin.clear_ #[t] o.type #[a.eval x]) (by simp [execOp, ho, resolve, invoke, builtin]) (clr_ok r hc.1 (eval_ok hf hc.2) e) hn
  case h_25 =>   -- len
    split at hc
    case h_2 => cases hc
    rename_i args tys ho
    split at hc
    case h_2 => cases hc
    rename_i x t hx ht
    obtain rfl : args = #[x] := Array.ext' hx
    obtain rfl : tys = #[t] := Array.ext' ht
    simp only [Bool.and_eq_true] at hc
    exact wp_done (s := Builtin.len_ #[t] o.type #[a.eval x]) (by simp [execOp, ho, resolve, invoke, builtin]) (len_ok r hc.1 (eval_ok hf hc.2) e) hn
  case h_26 =>   -- app
    split at hc
    case h_2 => cases hc
    rename_i args tys ho
    split at hc
    case h_2 => cases hc
    rename_i x z t u hx ht
    obtain rfl : args = #[x, z] := Array.ext' hx
    obtain rfl : tys = #[t, u] := Array.ext' ht
    simp only [Bool.and_eq_true] at hc
    exact wp_done (s := Builtin.append_ #[t, u] o.type #[a.eval x, a.eval z]) (by simp [execOp, ho, resolve, invoke, builtin]) (app_ok r hc.1.1 (eval_ok hf hc.1.2) (eval_ok hf hc.2) e) hn
  case h_27 x' ys =>   -- mn
    split at hc
    case h_2 => cases hc
    rename_i args tys ho
    have hR := args_ok hf hc
    simp only [osem] at e
    split at e
    case h_2 => exact (M.fail_some e).elim
    rename_i kk n hx
    obtain ⟨z, h1, e1, e2⟩ := M.bind_some e
    obtain ⟨hz, rfl⟩ := M.lift_some e1
    obtain ⟨rfl, rfl⟩ := M.ret_some e2
    simp only [List.map_cons] at hR
    generalize hvs : (args.map a.eval).toList = vs at hR
    cases vs with
    | nil => have := hR.1; simp at this
    | cons v vs =>
      have h0 := hR.tail.1
      rw [hx] at h0
      obtain rfl := h0.int
      have hrun := mn_ok P g.w (ys.map (ev fr)) vs n kk z hz hR.tail.2.1 hR.tail.2.2
      exact wp_done (s := Builtin.min_ tys o.type (args.map a.eval)) (by simp [execOp, ho, resolve, invoke, builtin]) (.same r (v := .int kk z) (by simp only [Builtin.min_, hvs]; exact hrun) mkInt) hn
  case h_28 x' ys =>   -- mx
    split at hc
    case h_2 => cases hc
    rename_i args tys ho
    have hR := args_ok hf hc
    simp only [osem] at e
    split at e
    case h_2 => exact (M.fail_some e).elim
    rename_i kk n hx
    obtain ⟨z, h1, e1, e2⟩ := M.bind_some e
    obtain ⟨hz, rfl⟩ := M.lift_some e1
    obtain ⟨rfl, rfl⟩ := M.ret_some e2
    simp only [List.map_cons] at hR
    generalize hvs : (args.map a.eval).toList = vs at hR
    cases vs with
    | nil => have := hR.1; simp at this
    | cons v vs =>
      have h0 := hR.tail.1
      rw [hx] at h0
      obtain rfl := h0.int
      have hrun := mx_ok P g.w (ys.map (ev fr)) vs n kk z hz hR.tail.2.1 hR.tail.2.2
      exact wp_done (s := Builtin.max_ tys o.type (args.map a.eval)) (by simp [execOp, ho, resolve, invoke, builtin]) (.same r (v := .int kk z) (by simp only [Builtin.max_, hvs]; exact hrun) mkInt) hn
  case h_29 x' i' =>   -- ext
    split at hc
    case h_2 => cases hc
    rename_i x i ho
    simp only [Bool.and_eq_true, beq_iff_eq] at hc
    obtain ⟨rfl, hx⟩ := hc
    simp only [osem] at e
    split at e
    case h_2 => exact (M.fail_some e).elim
    rename_i vs hvs
    obtain ⟨hy, rfl⟩ := M.lift_some e
    have h1 := eval_ok hf hx
    rw [hvs] at h1
    obtain ⟨us, hav, hn', hr'⟩ : ∃ us, a.eval x = .tuple us ∧ us.size = vs.length ∧ ∀ (j : Nat) (v : Value) (c : AV), us[j]? = some v → vs[j]? = some c → RA ν g v c := by
      generalize a.eval x = vv at h1
      cases h1 with | tup h1 h2 => exact ⟨_, rfl, h1, h2⟩
    have hlt := lt_of_some hy
    have hu : us[i]? = some us[i] := Array.getElem?_eq_getElem (by omega)
    exact wp_done (s := Instr.extract (a.eval x) i) (by simp [execOp, ho]) (.same r (v := us[i]) (by simp [hav, Instr.extract, hu]) (hr' i _ _ hu hy)) hn
  case h_30 =>   -- nchk
    split at hc
    case h_2 => cases hc
    rename_i x ho
    have h1 := eval_ok hf hc
    simp only [osem] at e
    split at e
    · rename_i id ver i j hx
      rw [hx] at h1
      obtain ⟨ob, h2, e1, e2⟩ := M.bind_some e
      obtain ⟨hg, rfl⟩ := M.look_some e1
      obtain ⟨_, h3, e3, e4⟩ := M.bind_some e2
      obtain ⟨hva, rfl⟩ := M.ok_some e3
      obtain ⟨rfl, rfl⟩ := M.ret_some e4
      have hr : RefAt g (a.eval x) id ver i j := by
        generalize a.eval x = vv at h1
        cases h1 with | ref _ hr => exact hr
      obtain ⟨b, off, hv, -⟩ := hr.move hg hva 0
      refine wp_done (s := pure (a.eval x)) ?_ (.same r rfl h1) hn
      simp [execOp, ho, hv]
    · rename_i cs hx
      rw [hx] at h1
      obtain ⟨rfl, rfl⟩ := M.ret_some e
      obtain ⟨b, off, hv⟩ := h1.ptr
      refine wp_done (s := pure (a.eval x)) ?_ (.same r rfl h1) hn
      simp [execOp, ho, hv]
    · rename_i f cs hx
      rw [hx] at h1
      obtain ⟨rfl, rfl⟩ := M.ret_some e
      have hv : ∃ caps, a.eval x = .func (.func (ν f)) #[] caps := by
        generalize a.eval x = v at h1
        cases h1 with | iv h => cases h with | fn f caps cs h1 h2 => exact ⟨caps, rfl⟩
      obtain ⟨caps, hv⟩ := hv
      refine wp_done (s := pure (a.eval x)) ?_ (.same r rfl h1) hn
      simp [execOp, ho, hv]
    · rename_i f cs hx
      rw [hx] at h1
      obtain ⟨rfl, rfl⟩ := M.ret_some e
      have hv : ∃ caps, a.eval x = .func (.func (ν f)) #[] caps := by
        generalize a.eval x = v at h1
        cases h1 with | clo h1 h2 => exact ⟨_, rfl⟩
      obtain ⟨caps, hv⟩ := hv
      refine wp_done (s := pure (a.eval x)) ?_ (.same r rfl h1) hn
      simp [execOp, ho, hv]
    · exact (M.fail_some e).elim
  case h_31 f' caps' =>   -- mkf
    split at hc
    case h_2 => cases hc
    rename_i f first caps ho
    simp only [Bool.and_eq_true, beq_iff_eq] at hc
    obtain ⟨⟨rfl, hfirst⟩, hcaps⟩ := hc
    obtain ⟨rfl, rfl⟩ := M.ret_some e
    have hR := args_ok hf hcaps
    have hfe : first = #[] := by simpa using hfirst
    subst hfe
    refine wp_done (s := Instr.makeFunc (.func (ν f')) (Array.map a.eval #[]) (caps.map a.eval)) (by simp [execOp, ho]) (.same r (v := .func (.func (ν f')) #[] (caps.map a.eval)) (by simp [Instr.makeFunc]) ?_) hn
    exact .clo (by have := hR.1; simpa using this) fun j v c h1 h2 => hR.2 j v c (by simpa using h1) h2
  case h_32 mode f' args' =>   -- call
    split at hc
    case h_2 => cases hc
    rename_i fo cargs tys ho
    simp only [Bool.and_eq_true] at hc
    have hfv := eval_ok hf hc.1
    have hR := args_ok hf hc.2
    simp only [osem] at e
    split at e
    · exact wp_call ho (callM_ok hs r e hfv hR) hn
    · exact wp_call ho (lcallM_ok hs r e hfv hR) hn
    · exact wp_call ho (ocallM_ok hs r e hfv hR) hn
    · exact wp_call ho (gcallM_ok hs r e hfv hR) hn
    · exact wp_call ho (fcallM_ok hs r e hfv hR) hn
  case h_33 x' =>   -- cvb
    split at hc
    case h_2 => cases hc
    rename_i s d x ho
    simp only [Bool.and_eq_true] at hc
    exact wp_done (s := convert s d (a.eval x)) (by simp [execOp, ho]) (cvb_ok r hc.1.1 hc.1.2 (eval_ok hf hc.2) e) hn
  case h_34 =>   -- mmk
    split at hc
    case h_2 => cases hc
    rename_i t ho
    exact wp_done (s := Instr.makeMap t none) (by simp [execOp, ho]) (mmk_ok r e) hn
  case h_35 ok agg qs z m' k' =>   -- mget
    split at hc
    case h_2 => cases hc
    rename_i t m kk o ho
    simp only [Bool.and_eq_true, beq_iff_eq] at hc
    obtain ⟨⟨⟨⟨rfl, h1⟩, h2⟩, h3⟩, h4⟩ := hc
    exact wp_done (s := Instr.lookup t (a.eval m) (a.eval kk) o) (by simp [execOp, ho]) (mget_ok r h1 h2 (eval_ok hf h3) (eval_ok hf h4) e) hn
  case h_36 qs m' k' x' =>   -- mput
    have key : ∀ {t : TypeId} {m kk x : Operand}, (o.op = .mapUpdate t m kk x ∨ o.op = .insert t m kk x) → (mapB P t qs && cOpd ν m m' && cOpd ν kk k' && cOpd ν x x') = true → o.wp P a g.w next Q := by
      intro t m kk x ho hc
      simp only [Bool.and_eq_true] at hc
      obtain ⟨g', hrun, rfl, hh, r', mm⟩ := mput_ok r hc.1.1.1 (eval_ok hf hc.1.1.2) (eval_ok hf hc.1.2) (eval_ok hf hc.2) e
      unfold Oper.wp
      have hx : (execOp a.eval o).run P g.w = .ok .skip g'.w := by rcases ho with ho | ho <;> simp [execOp, ho, hrun]
      rw [hx]
      exact hn g' undef hh r' mm (.tup rfl fun j v c h => by simp at h)
    split at hc
    · rename_i ho; exact key (.inl ho) hc
    · rename_i ho; exact key (.inr ho) hc
    · cases hc
  case h_37 qs m' k' =>   -- mdel
    split at hc
    case h_2 => cases hc
    rename_i args tys ho
    split at hc
    case h_2 => cases hc
    rename_i x z t u hx ht
    obtain rfl : args = #[x, z] := Array.ext' hx
    obtain rfl : tys = #[t, u] := Array.ext' ht
    simp only [Bool.and_eq_true] at hc
    exact wp_done (s := Builtin.delete_ #[t, u] o.type #[a.eval x, a.eval z]) (by simp [execOp, ho, resolve, invoke, builtin]) (mdel_ok r hc.1.1 (eval_ok hf hc.1.2) (eval_ok hf hc.2) e) hn
  case h_38 m' =>   -- mlen
    split at hc
    case h_2 => cases hc
    rename_i args tys ho
    split at hc
    case h_2 => cases hc
    rename_i x t hx ht
    obtain rfl : args = #[x] := Array.ext' hx
    obtain rfl : tys = #[t] := Array.ext' ht
    simp only [Bool.and_eq_true] at hc
    exact wp_done (s := Builtin.len_ #[t] o.type #[a.eval x]) (by simp [execOp, ho, resolve, invoke, builtin]) (mlen_ok r hc.1 (eval_ok hf hc.2) e) hn
end
end Arb

/-
  OPERATIONS THAT MEET NOWHERE MAY CHANGE PLACES: what an operation looks at and what it writes; a run of a list of operations goes on when one of them, free of those ahead of it, is taken first.
-/
namespace Arb
open Go

def GE {α : Type} (h h' : List (Nat × α)) : Prop := ∀ n, get h n = get h' n
theorem GE.refl {α : Type} (h : List (Nat × α)) : GE h h := fun _ => rfl
theorem GE.symm {α : Type} {h h' : List (Nat × α)} (e : GE h h') : GE h' h := fun n => (e n).symm
theorem GE.trans {α : Type} {a b c : List (Nat × α)} (e : GE a b) (f : GE b c) : GE a c := fun n => (e n).trans (f n)
theorem GE.set {α : Type} {h h' : List (Nat × α)} (e : GE h h') (n : Nat) (x : α) : GE (set h n x) (set h' n x) := fun m => by simp [get_set, e m]

theorem M.frame {α : Type} : ∀ (m : M α) (h h' h1 : Hp) (a : α), m.run h = some (a, h1) → (∀ n ∈ (m.foot h).1, Arb.get h n = Arb.get h' n) →
    ∃ h1', m.run h' = some (a, h1') ∧ m.foot h' = m.foot h ∧ (∀ n ∈ (m.foot h).2, Arb.get h1' n = Arb.get h1 n) ∧ ∀ n, n ∉ (m.foot h).2 → Arb.get h1' n = Arb.get h' n ∧ Arb.get h1 n = Arb.get h n
  | .ret x, h, h', h1, a, e, _ => by
    simp only [M.run, Option.some.injEq, Prod.mk.injEq] at e
    obtain ⟨rfl, rfl⟩ := e
    exact ⟨h', rfl, rfl, fun n hn => by simp [M.foot] at hn, fun n _ => ⟨rfl, rfl⟩⟩
  | .fail, h, h', h1, a, e, _ => by simp [M.run] at e
  | .get id k, h, h', h1, a, e, hr => by
    simp only [M.run] at e
    simp only [M.foot, List.mem_cons] at hr ⊢
    have hid := hr id (.inl rfl)
    obtain ⟨h1', e1, e2, e3, e4⟩ := M.frame (k (Arb.get h id)) h h' h1 a e fun n hn => hr n (.inr hn)
    refine ⟨h1', ?_, ?_, e3, e4⟩
    · simp only [M.run, ← hid]; exact e1
    · simp only [← hid]; rw [e2]
  | .put id o k, h, h', h1, a, e, hr => by
    simp only [M.run] at e
    simp only [M.foot, List.mem_append, List.mem_singleton, not_or] at hr ⊢
    obtain ⟨h1', e1, e2, e3, e4⟩ := M.frame k (Arb.set h id o) (Arb.set h' id o) h1 a e fun n hn => by simp [get_set, hr n hn]
    refine ⟨h1', e1, by rw [e2], ?_, ?_⟩
    · rintro n (hn | rfl)
      · exact e3 n hn
      · by_cases hin : n ∈ (k.foot (Arb.set h n o)).2
        · exact e3 n hin
        · obtain ⟨a1, a2⟩ := e4 n hin
          rw [a1, a2]; simp [get_set]
    · intro n hn
      obtain ⟨a1, a2⟩ := e4 n hn.1
      have hne : id ≠ n := fun h => hn.2 h.symm
      exact ⟨by rw [a1]; simp [get_set, hne], by rw [a2]; simp [get_set, hne]⟩

def oneR : Opd → List Nat
  | .t n => [n]
  | .c _ => []
def optR : Option Opd → List Nat
  | some x => oneR x
  | none => []
def manyR : List Opd → List Nat
  | [] => []
  | x :: r => oneR x ++ manyR r
def partR {α : Type} (f : α → Opd) : List α → List Nat
  | [] => []
  | x :: r => oneR (f x) ++ partR f r

/-- the slots that an operation looks at -/
def readsOf : IOp → List Nat
  | .mov x | .box x | .fadr _ x | .fld _ _ _ x | .un _ x | .cvi _ x | .cvs x | .cvb x | .slz _ x | .clr _ _ x | .len _ x | .ext x _ | .nchk x | .load _ _ x => oneR x
  | .nil0 _ | .alloc _ | .mmk => []
  | .mlen x => oneR x
  | .mget _ _ _ _ x y | .mdel _ x y => oneR x ++ oneR y
  | .mput _ x y z => oneR x ++ (oneR y ++ oneR z)
  | .pick c a b => oneR c ++ (oneR a ++ oneR b)
  | .build _ ps => partR (fun p => p.2.2) ps
  | .bsl _ _ _ ps => partR (fun p => p.2) ps
  | .store _ x y | .iarr _ _ x y | .isl _ x y | .xarr _ _ _ x y | .xstr x y | .bin _ _ x y | .eqc _ _ x y | .app _ x y => oneR x ++ oneR y
  | .slc _ x lo hi | .slcs x lo hi => oneR x ++ (optR lo ++ optR hi)
  | .mn x ys | .mx x ys => oneR x ++ manyR ys
  | .mkf _ cs => manyR cs
  | .call _ f as => oneR f ++ manyR as
def readsO (o : IOper) : List Nat := readsOf o.op ++ (match o.gd with | some (t, _) => [t] | none => [])

theorem manyR_map {ρ ρ' : Opd → AV} : ∀ {l : List Opd}, (∀ x : Opd, (∀ n ∈ oneR x, n ∈ manyR l) → ρ x = ρ' x) → l.map ρ = l.map ρ'
  | [], _ => rfl
  | x :: r, h => by
    simp only [List.map_cons, h x fun n hn => by simp [manyR, hn]]
    rw [manyR_map (l := r) fun y hy => h y fun n hn => by simp [manyR, hy n hn]]
theorem partR_map {α β : Type} {f : α → Opd} {ρ ρ' : Opd → AV} {F : α → AV → M β} : ∀ {l : List α}, (∀ x : Opd, (∀ n ∈ oneR x, n ∈ partR f l) → ρ x = ρ' x) →
    M.mapL (fun p => F p (ρ (f p))) l = M.mapL (fun p => F p (ρ' (f p))) l
  | [], _ => rfl
  | x :: r, h => by
    simp only [M.mapL]
    rw [h (f x) fun n hn => by simp [partR, hn], partR_map (l := r) fun y hy => h y fun n hn => by simp [partR, hy n hn]]

theorem osem_congr {call : Nat → List AV → Hp → Option (AV × Hp)} {slot : Nat} {ρ ρ' : Opd → AV} {op : IOp} (h : ∀ x : Opd, (∀ n ∈ oneR x, n ∈ readsOf op) → ρ x = ρ' x) : osem call slot ρ op = osem call slot ρ' op := by
  cases op <;> simp only [readsOf] at h <;> simp only [osem]
  case pick c a b => rw [h c fun n hn => by simp [hn], h a fun n hn => by simp [hn], h b fun n hn => by simp [hn]]
  case build z ps => rw [partR_map (F := fun p v => (cellsM v).bind fun l => (M.ok (l.length == p.2.1 && Nat.ble (p.1 + p.2.1) z.length)).bind fun _ => .ret (p.1, l)) h]
  case bsl e z n ps => rw [partR_map (F := fun p v => (cellsM v).bind fun xs => (M.ok (xs.length == e && Nat.blt p.1 n)).bind fun _ => (M.mapL (fz true 8) xs).bind fun l => .ret (p.1, l)) h]
  case slc e x lo hi =>
    rw [h x fun n hn => by simp [hn]]
    have h1 : lo.map ρ = lo.map ρ' := by cases lo with | none => rfl | some l => simp [h l fun n hn => by simp [optR, hn]]
    have h2 : hi.map ρ = hi.map ρ' := by cases hi with | none => rfl | some l => simp [h l fun n hn => by simp [optR, hn]]
    rw [h1, h2]
  case slcs x lo hi =>
    rw [h x fun n hn => by simp [hn]]
    have h1 : lo.map ρ = lo.map ρ' := by cases lo with | none => rfl | some l => simp [h l fun n hn => by simp [optR, hn]]
    have h2 : hi.map ρ = hi.map ρ' := by cases hi with | none => rfl | some l => simp [h l fun n hn => by simp [optR, hn]]
    rw [h1, h2]
  case mn x ys => rw [h x fun n hn => by simp [hn], manyR_map (l := ys) fun y hy => h y fun n hn => by simp [hy n hn]]
  case mx x ys => rw [h x fun n hn => by simp [hn], manyR_map (l := ys) fun y hy => h y fun n hn => by simp [hy n hn]]
  case mkf f ys => rw [manyR_map (l := ys) h]
  case call mode f ys => rw [h f fun n hn => by simp [hn], manyR_map (l := ys) fun y hy => h y fun n hn => by simp [hy n hn]]
  case mput qs x y z => rw [h x fun n hn => by simp [hn], h y fun n hn => by simp [hn], h z fun n hn => by simp [hn]]
  case mget ok agg qs z x y => rw [h x fun n hn => by simp [hn], h y fun n hn => by simp [hn]]
  case mdel qs x y => rw [h x fun n hn => by simp [hn], h y fun n hn => by simp [hn]]
  case store sz x y => rw [h x fun n hn => by simp [hn], h y fun n hn => by simp [hn]]
  case iarr len e x y => rw [h x fun n hn => by simp [hn], h y fun n hn => by simp [hn]]
  case isl e x y => rw [h x fun n hn => by simp [hn], h y fun n hn => by simp [hn]]
  case xarr a len e x y => rw [h x fun n hn => by simp [hn], h y fun n hn => by simp [hn]]
  case xstr x y => rw [h x fun n hn => by simp [hn], h y fun n hn => by simp [hn]]
  case bin op q x y => rw [h x fun n hn => by simp [hn], h y fun n hn => by simp [hn]]
  case eqc neg qs x y => rw [h x fun n hn => by simp [hn], h y fun n hn => by simp [hn]]
  case app e x y => rw [h x fun n hn => by simp [hn], h y fun n hn => by simp [hn]]
  all_goals first | rfl | (rename_i x; rw [h x fun n hn => hn]) | (rename_i x _; rw [h x fun n hn => hn])

def SE (s s' : St) : Prop := GE s.fr s'.fr ∧ GE s.hp s'.hp ∧ s.nx = s'.nx
theorem SE.refl (s : St) : SE s s := ⟨.refl _, .refl _, rfl⟩
theorem SE.symm {s s' : St} (h : SE s s') : SE s' s := ⟨h.1.symm, h.2.1.symm, h.2.2.symm⟩
theorem SE.trans {a b c : St} (h : SE a b) (h' : SE b c) : SE a c := ⟨h.1.trans h'.1, h.2.1.trans h'.2.1, h.2.2.trans h'.2.2⟩
theorem GE.putD {fr fr' : Fr} (e : GE fr fr') (d : Option Nat) (v : AV) : GE (putD fr d v) (putD fr' d v) := by
  cases d with
  | none => exact e
  | some d => exact e.set d v
theorem putD_ne {fr : Fr} {d : Option Nat} {v : AV} {n : Nat} (h : d ≠ some n) : get (putD fr d v) n = get fr n := by
  cases d with
  | none => rfl
  | some d => simp [Arb.putD, get_set, show d ≠ n from fun e => h (by rw [e])]
theorem putD_comm {fr : Fr} {d d' : Option Nat} {v v' : AV} (h : d ≠ d' ∨ d = none) : GE (putD (putD fr d v) d' v') (putD (putD fr d' v') d v) := by
  intro n
  cases d with
  | none => rfl
  | some d =>
    cases d' with
    | none => rfl
    | some d' =>
      have hne : d ≠ d' := fun e => by rcases h with h | h; exact h (by rw [e]); cases h
      simp only [Arb.putD, get_set]
      by_cases h1 : d' = n
      · have : d ≠ n := fun e => hne (e.trans h1.symm)
        simp [h1, this]
      · simp [h1]

theorem ev_same {fr fr' : Fr} {l : List Nat} (h : ∀ n ∈ l, get fr n = get fr' n) (x : Opd) (hx : ∀ n ∈ oneR x, n ∈ l) : ev fr x = ev fr' x := by
  cases x with
  | c v => rfl
  | t n => simp only [ev]; rw [h n (hx n (by simp [oneR]))]

abbrev Feet := List Nat × List Nat
section
variable {call : Nat → List AV → Hp → Option (AV × Hp)}

/-- a step from a state that looks alike to it -/
theorem step_like {slot : Nat} {o : IOper} {s s' s1 : St} (e : step call slot o s = some s1) (hf : ∀ n ∈ readsO o, get s.fr n = get s'.fr n)
    (hh : ∀ n ∈ (footOf call slot o s).1, get s.hp n = get s'.hp n) :
    ∃ s1' v, step call slot o s' = some s1' ∧ footOf call slot o s' = footOf call slot o s ∧ s1.fr = putD s.fr o.dst v ∧ s1'.fr = putD s'.fr o.dst v ∧ s1.nx = s.nx ∧ s1'.nx = s'.nx ∧
      (∀ n ∈ (footOf call slot o s).2, get s1'.hp n = get s1.hp n) ∧ ∀ n, n ∉ (footOf call slot o s).2 → get s1'.hp n = get s'.hp n ∧ get s1.hp n = get s.hp n := by
  have hw : wants s'.fr o.gd = wants s.fr o.gd := by
    cases hg : o.gd with
    | none => rfl
    | some g =>
      simp only [wants]
      rw [hf g.1 (by simp [readsO, hg])]
  have ho : osem call slot (ev s'.fr) o.op = osem call slot (ev s.fr) o.op := osem_congr fun x hx => (ev_same hf x fun n hn => by simp [readsO, hx n hn]).symm
  unfold step at e ⊢
  unfold footOf at hh ⊢
  rw [hw, ho]
  cases hwv : wants s.fr o.gd with
  | none => rw [hwv] at e; cases e
  | some b =>
    rw [hwv] at e hh
    cases b with
    | false =>
      simp only [Option.some.injEq] at e
      subst e
      exact ⟨_, .tup [], rfl, rfl, rfl, rfl, rfl, rfl, fun n h0 => by simp at h0, fun n _ => ⟨rfl, rfl⟩⟩
    | true =>
      simp only [] at e hh ⊢
      cases hr : (osem call slot (ev s.fr) o.op).run s.hp with
      | none => rw [hr] at e; cases e
      | some p =>
        obtain ⟨v, h1⟩ := p
        rw [hr] at e
        simp only [Option.some.injEq] at e
        subst e
        obtain ⟨h1', e1, e2, e3, e4⟩ := M.frame _ _ s'.hp _ _ hr hh
        rw [e1]
        exact ⟨_, v, rfl, e2, rfl, rfl, rfl, rfl, e3, e4⟩

theorem step_ext {slot : Nat} {o : IOper} {s s' s1 : St} (e : step call slot o s = some s1) (h : SE s s') :
    ∃ s1', step call slot o s' = some s1' ∧ footOf call slot o s' = footOf call slot o s ∧ SE s1 s1' := by
  obtain ⟨s1', v, e1, e2, e3, e4, e5, e6, e7, e8⟩ := step_like e (fun n _ => h.1 n) fun n _ => h.2.1 n
  refine ⟨s1', e1, e2, ?_, ?_, ?_⟩
  · rw [e3, e4]; exact h.1.putD _ _
  · intro n
    by_cases hn : n ∈ (footOf call slot o s).2
    · exact (e7 n hn).symm
    · rw [(e8 n hn).1, (e8 n hn).2]; exact h.2.1 n
  · rw [e5, e6]; exact h.2.2

/-- they meet in no slot -/
def apartT (x y : IOper) : Bool :=
  (match x.dst with | some d => !(readsO y).contains d && y.dst != some d | none => true) && (match y.dst with | some d => !(readsO x).contains d | none => true)
theorem apartT_spec {x y : IOper} (h : apartT x y = true) : (∀ d, x.dst = some d → d ∉ readsO y) ∧ (x.dst ≠ y.dst ∨ x.dst = none) ∧ ∀ d, y.dst = some d → d ∉ readsO x := by
  unfold apartT at h
  simp only [Bool.and_eq_true] at h
  obtain ⟨h1, h2⟩ := h
  refine ⟨fun d hd => ?_, ?_, fun d hd => ?_⟩
  · rw [hd] at h1; simp at h1; exact h1.1
  · cases hx : x.dst with
    | none => exact .inr rfl
    | some d =>
      rw [hx] at h1; simp at h1
      exact .inl fun e => h1.2 e.symm
  · rw [hd] at h2; simpa using h2

theorem meets_spec {a b : List Nat} (h : meets a b = false) : ∀ n ∈ a, n ∉ b := by
  intro n hn hb
  have : meets a b = true := by simp only [meets, List.any_eq_true, List.contains_iff_mem]; exact ⟨n, hn, hb⟩
  rw [h] at this; cases this

theorem swap {sx sy : Nat} {x y : IOper} {s s1 s2 : St} (e1 : step call sx x s = some s1) (e2 : step call sy y s1 = some s2) (hT : apartT x y = true)
    (hc : clash (footOf call sx x s) (footOf call sy y s1) = false) :
    ∃ t1 t2, step call sy y s = some t1 ∧ footOf call sy y s = footOf call sy y s1 ∧ step call sx x t1 = some t2 ∧ footOf call sx x t1 = footOf call sx x s ∧ SE s2 t2 := by
  obtain ⟨a1, a2, a3⟩ := apartT_spec hT
  simp only [clash, Bool.or_eq_false_iff] at hc
  have c1 := meets_spec hc.1
  have c2 := meets_spec hc.2
  obtain ⟨_, v, _, _, f1, _, n1, _, _, w1⟩ := step_like (s' := s) e1 (fun n _ => rfl) fun n _ => rfl
  obtain ⟨t1, u, e3, e4, f2, f3, n2, n3, w2, w3⟩ := step_like (s' := s) e2 (fun n hn => by
      rw [f1]; exact putD_ne fun h => a1 n h hn) (fun n hn => (w1 n fun hm => c1 n hm (by simp [hn])).2)
  obtain ⟨t2, v', e5, e6, f4, f5, n4, n5, w4, w5⟩ := step_like (s' := t1) e1 (fun n hn => by
      rw [f3]; exact (putD_ne fun h => a3 n h hn).symm) (fun n hn => ((w3 n fun hm => c2 n hm (by simp [hn])).1).symm)
  refine ⟨t1, t2, e3, e4, e5, e6, ?_, ?_, ?_⟩
  · have hv : putD (putD s.fr y.dst u) x.dst v' = putD (putD s.fr y.dst u) x.dst v ∨ x.dst = none := by
      cases hx : x.dst with
      | none => exact .inr rfl
      | some d =>
        rw [f1, hx] at f4
        have := congrArg (fun l => get l d) f4
        simp [Arb.putD, get_set_same] at this
        exact .inl (by rw [this])
    rw [f2, f5, f1, f3]
    rcases hv with hv | hv
    · rw [hv]; exact putD_comm a2
    · rw [hv]; exact .refl _
  · intro n
    by_cases hx : n ∈ (footOf call sx x s).2
    · have hy : n ∉ (footOf call sy y s1).2 := fun h => c1 n hx (by simp [h])
      rw [w4 n hx, (w3 n hy).2]
    · rw [(w5 n hx).1]
      by_cases hy : n ∈ (footOf call sy y s1).2
      · rw [w2 n hy]
      · rw [(w3 n hy).1, (w3 n hy).2, (w1 n hx).2]
  · rw [n2, n1, n5, n3]

/-- a run: each operation with its place, and with what it touches -/
inductive Run (call : Nat → List AV → Hp → Option (AV × Hp)) (s0 : Nat) : List (Nat × IOper × Feet) → St → St → Prop
  | nil {s s' : St} (h : SE s s') : Run call s0 [] s s'
  | cons {i : Nat} {o : IOper} {f : Feet} {r : List (Nat × IOper × Feet)} {s s1 s' : St} (e : step call (s0 + 64 * i) o s = some s1) (hf : footOf call (s0 + 64 * i) o s = f)
      (hr : Run call s0 r s1 s') : Run call s0 ((i, o, f) :: r) s s'

theorem Run.ext {s0 : Nat} {l : List (Nat × IOper × Feet)} {s t s' : St} (h : Run call s0 l s s') (e : SE s t) : Run call s0 l t s' := by
  induction h generalizing t with
  | nil h => exact .nil (e.symm.trans h)
  | cons e1 hf _ ih =>
    obtain ⟨t1, e2, e3, e4⟩ := step_ext e1 e
    exact .cons e2 (e3.trans hf) (ih e4)

def Apart (x y : Nat × IOper × Feet) : Prop := apartT x.2.1 y.2.1 = true ∧ clash x.2.2 y.2.2 = false

theorem Run.front {s0 : Nat} {x : Nat × IOper × Feet} {l2 : List (Nat × IOper × Feet)} {s' : St} : ∀ (l1 : List (Nat × IOper × Feet)) (s : St), Run call s0 (l1 ++ x :: l2) s s' → (∀ y ∈ l1, Apart y x) →
    ∃ s1, step call (s0 + 64 * x.1) x.2.1 s = some s1 ∧ footOf call (s0 + 64 * x.1) x.2.1 s = x.2.2 ∧ Run call s0 (l1 ++ l2) s1 s'
  | [], s, h, _ => by
    cases h with
    | cons e hf hr => exact ⟨_, e, hf, hr⟩
  | y :: l1, s, h, ha => by
    cases h with
    | cons e hf hr =>
      obtain ⟨t1, e2, f2, r2⟩ := Run.front l1 _ hr fun z hz => ha z (by simp [hz])
      obtain ⟨h1, h2⟩ := ha _ (List.mem_cons_self ..)
      obtain ⟨u1, u2, e3, e4, e5, e6, e7⟩ := swap e e2 h1 (by rw [hf, f2]; exact h2)
      exact ⟨u1, e3, e4.trans f2, .cons e5 (e6.trans hf) (r2.ext e7)⟩
end
end Arb

/-
  A REGION's OPERATIONS, in the text's order and in every other that the program allows.
-/
namespace Arb
open Go Go.RowKit

section
variable {ν : Nat → Nat} {P : Program} {k : Cx}

theorem Rel.he {g : Gh} (r : Rel ν k g) {h' : Hp} (e : GE g.h h') : Rel ν k { g with h := h' } ∧ Mono ν g { g with h := h' } := by
  have hm : Mono ν g { g with h := h' } := fun v x hx => RA.mono (g := g) (g' := { g with h := h' }) (fun _ _ h => h)
    (fun v id o n ver h => by unfold OwnAt at h ⊢; rw [e id] at h; exact h) (fun v id ver i j h => by unfold RefAt at h ⊢; rw [e id] at h; exact h) hx
  refine ⟨⟨fun id o ho => ?_, fun id id' o o' b h1 h2 => r.inj id id' o o' b ((e id).trans h1) ((e id').trans h2), r.small, r.i0, r.i1, fun id o b h => r.own id o b ((e id).trans h), r.size, r.os, r.tape, r.output, r.old⟩, hm⟩
  have old := r.ob id o ((e id).trans ho)
  cases o with
  | cells cs =>
    obtain ⟨b, e1, e2, e3, e4⟩ := old
    exact ⟨b, e1, e2, e3, fun j c hc => let ⟨v, c1, c2, c3⟩ := e4 j c hc; ⟨v, c1, c2, hm _ _ c3⟩⟩
  | buf v e es => exact old
  | imm v e es => exact old
  | map kvs =>
    obtain ⟨b, es, clock, e1, e2, e3, e4, e5, e6⟩ := old
    exact ⟨b, es, clock, e1, e2, e3, e4, e5, fun j e p h1 h2 => let ⟨c1, c2⟩ := e6 j e p h1 h2; ⟨hm _ _ c1, hm _ _ c2⟩⟩

structure Sim (ν : Nat → Nat) (k : Cx) (nt : Nat) (g : Gh) (a : Act) (s : St) : Prop where
  h : g.h = s.hp
  r : Rel ν k g
  f : FrR ν g a.tmps s.fr
  n : nt ≤ a.tmps.size
  d : a.defers = []

theorem Sim.like {nt : Nat} {g : Gh} {a : Act} {s s' : St} (m : Sim ν k nt g a s) (e : SE s s') : Sim ν k nt { g with h := s'.hp } a s' ∧ Mono ν g { g with h := s'.hp } := by
  have he : GE g.h s'.hp := by rw [m.h]; exact e.2.1
  obtain ⟨r, hm⟩ := m.r.he he
  exact ⟨⟨rfl, r, fun t x ht => let ⟨v, h1, h2⟩ := m.f t x ((e.1 t).trans ht); ⟨v, h1, hm _ _ h2⟩, m.n, m.d⟩, hm⟩

theorem Sim.put {nt : Nat} {g g' : Gh} {a : Act} {s : St} (m : Sim ν k nt g a s) {h' : Hp} {v : Value} {y : AV} {d : Option Nat} (hd : ∀ t, d = some t → t < nt) (hh : g'.h = h') (r' : Rel ν k g') (hm : Mono ν g g')
    (hv : RA ν g' v y) : Sim ν k nt g' (a.put d v) { s with fr := putD s.fr d y, hp := h' } := by
  refine ⟨hh, r', ?_, ?_, ?_⟩
  · cases d with
    | none => exact m.f.mono hm
    | some d =>
      intro t x ht
      simp only [Arb.putD, get_set] at ht
      have hlt : d < a.tmps.size := Nat.lt_of_lt_of_le (hd d rfl) m.n
      by_cases hdt : d = t
      · subst hdt
        simp only [if_true, Option.some.injEq] at ht
        subst ht
        exact ⟨v, by simp [Act.put, hlt], hv⟩
      · rw [if_neg hdt] at ht
        obtain ⟨u, h1, h2⟩ := m.f t x ht
        exact ⟨u, by simp [Act.put, Array.getElem?_setIfInBounds_ne hdt, h1], hm _ _ h2⟩
  · cases d with
    | none => exact m.n
    | some d => simpa [Act.put] using m.n
  · cases d with
    | none => exact m.d
    | some d => exact m.d

def cOper (P : Program) (ν : Nat → Nat) (nt : Nat) (ops : Array Oper) (o : Oper) (io : IOper) : Bool :=
  o.dst == io.dst && (match io.dst with | some d => Nat.blt d nt | none => true) &&
  (match o.guard, io.gd with | none, none => true | some (j, b), some (t, c) => b == c && (ops[j]?).bind (·.dst) == some t | _, _ => false) && cOp P ν o.op io.op

theorem wanted_spec {g : Gh} {a : Act} {s : St} {nt : Nat} (m : Sim ν k nt g a s) {ops : Array Oper} {o : Oper} {io : IOper} (hc : cOper P ν nt ops o io = true) {b : Bool} (h : wants s.fr io.gd = some b) :
    Region.wanted o (yielded ops a.tmps) = b := by
  simp only [cOper, Bool.and_eq_true] at hc
  obtain ⟨⟨_, hg⟩, _⟩ := hc
  unfold Region.wanted
  split at hg
  · rename_i h1 h2
    rw [h2] at h; simp only [wants, Option.some.injEq] at h
    rw [h1]; exact h
  · rename_i j want t c h1 h2
    simp only [Bool.and_eq_true, beq_iff_eq] at hg
    obtain ⟨rfl, hj⟩ := hg
    rw [h2] at h
    simp only [h1, yielded, hj, Option.bind_some]
    simp only [wants] at h
    split at h
    · rename_i c' hget
      obtain ⟨v, hv, hR⟩ := m.f _ _ hget
      cases hR with
      | iv hI => cases hI with
        | bool => simp only [Option.some.injEq] at h; subst h; rw [hv]; cases c' <;> cases want <;> rfl
    · rename_i hget
      obtain ⟨v, hv, hR⟩ := m.f _ _ hget
      cases hR with
      | tup hn _ => simp only [Option.some.injEq] at h; subst h; rw [hv]; rfl
    · cases h
  · cases hg

theorem step_wp {call : Nat → List AV → Hp → Option (AV × Hp)} (hs : CallSound ν P call) {nt : Nat} {ops : Array Oper} {o : Oper} {io : IOper} (hc : cOper P ν nt ops o io = true) {g : Gh} {a : Act} {s s1 : St} (m : Sim ν k nt g a s)
    {slot : Nat} (e : step call slot io s = some s1) {next : Act → World → Prop} {Q : Exit → Act → World → Prop} (hn : ∀ g' a', Sim ν k nt g' a' s1 → Mono ν g g' → next a' g'.w) :
    if Region.wanted o (yielded ops a.tmps) then o.wp P a g.w next Q else next (a.put o.dst undef) g.w := by
  have hc' := hc
  simp only [cOper, Bool.and_eq_true, beq_iff_eq] at hc'
  obtain ⟨⟨⟨hd, hlt⟩, -⟩, hop⟩ := hc'
  have hdn : ∀ t, io.dst = some t → t < nt := by
    intro t ht
    rw [ht] at hlt; simpa [Nat.blt_eq] using hlt
  unfold step at e
  split at e
  · rename_i hw
    rw [wanted_spec m hc hw, if_pos rfl]
    cases hr : (osem call slot (ev s.fr) io.op).run s.hp with
    | none => rw [hr] at e; cases e
    | some p =>
      obtain ⟨y, h1⟩ := p
      rw [hr] at e
      simp only [Option.some.injEq] at e
      subst e
      refine op_wp hs hop m.r m.f (slot := slot) (y := y) (h' := h1) (by rw [m.h]; exact hr) fun g' v hh r' hm hR => ?_
      rw [hd]
      exact hn g' _ (m.put hdn hh r' hm hR) hm
  · rename_i hw
    rw [wanted_spec m hc hw, if_neg (by simp)]
    simp only [Option.some.injEq] at e
    subst e
    rw [hd]
    exact hn g _ (m.put hdn m.h m.r (.refl ν g) (.tup rfl fun j v c h => by simp at h)) (.refl ν g)
  · cases e

def cOpers (P : Program) (ν : Nat → Nat) (nt : Nat) (ops : Array Oper) : List Oper → List IOper → Bool
  | [], [] => true
  | o :: r, io :: ir => cOper P ν nt ops o io && cOpers P ν nt ops r ir
  | _, _ => false
theorem cOpers_get {nt : Nat} {ops : Array Oper} : ∀ {l : List Oper} {il : List IOper}, cOpers P ν nt ops l il = true → l.length = il.length ∧ ∀ (i : Nat) (o : Oper) (io : IOper), l[i]? = some o → il[i]? = some io → cOper P ν nt ops o io = true
  | [], [], _ => ⟨rfl, fun i o io h => by simp at h⟩
  | o :: r, io :: ir, h => by
    simp only [cOpers, Bool.and_eq_true] at h
    obtain ⟨h1, h2⟩ := cOpers_get h.2
    refine ⟨by simp [h1], fun i o' io' e1 e2 => ?_⟩
    cases i with
    | zero => simp at e1 e2; subst e1 e2; exact h.1
    | succ i => exact h2 i o' io' (by simpa using e1) (by simpa using e2)
  | [], _ :: _, h => by simp [cOpers] at h
  | _ :: _, [], h => by simp [cOpers] at h

theorem ops_text {call : Nat → List AV → Hp → Option (AV × Hp)} (hs : CallSound ν P call) {nt : Nat} {ops : Array Oper} {Q : Exit → Act → World → Prop} : ∀ (l : List Oper) (il : List IOper) (slot : Nat) (g : Gh) (a : Act) (s s' : St),
    cOpers P ν nt ops l il = true → evalOps call il slot s = some s' → Sim ν k nt g a s → (∀ g' a', Sim ν k nt g' a' s' → Mono ν g g' → Q .normal a' g'.w) → wpList P ops Q l a g.w
  | [], [], slot, g, a, s, s', _, e, m, hQ => by
    simp only [evalOps, Option.some.injEq] at e
    subst e
    exact wpList_nil (hQ g a m (.refl ν g))
  | o :: r, io :: ir, slot, g, a, s, s', hc, e, m, hQ => by
    simp only [cOpers, Bool.and_eq_true] at hc
    simp only [evalOps] at e
    cases h1 : step call slot io s with
    | none => rw [h1] at e; cases e
    | some s1 =>
      rw [h1] at e
      exact wpList_step fun K hK => step_wp hs hc.1 m h1 fun g' a' m' hm => hK _ _ (ops_text hs r ir _ g' a' s1 s' hc.2 e m' fun g'' a'' m'' hm' => hQ g'' a'' m'' (hm.trans hm'))
  | [], _ :: _, _, _, _, _, _, hc, _, _, _ => by simp [cOpers] at hc
  | _ :: _, [], _, _, _, _, _, hc, _, _, _ => by simp [cOpers] at hc

/-! ### every order that the program allows -/

def tag : Nat → List IOper → List Feet → List (Nat × IOper × Feet)
  | i, o :: r, f :: fs => (i, o, f) :: tag (i + 1) r fs
  | _, _, _ => []
theorem Run.of_eval {call : Nat → List AV → Hp → Option (AV × Hp)} {s0 : Nat} : ∀ (il : List IOper) (i : Nat) (s s' : St), evalOps call il (s0 + 64 * i) s = some s' →
    Run call s0 (tag i il (evalFeet call il (s0 + 64 * i) s)) s s' ∧ (evalFeet call il (s0 + 64 * i) s).length = il.length
  | [], i, s, s', e => by
    simp only [evalOps, Option.some.injEq] at e
    subst e
    exact ⟨.nil (.refl _), rfl⟩
  | o :: r, i, s, s', e => by
    simp only [evalOps] at e
    simp only [evalFeet]
    cases h1 : step call (s0 + 64 * i) o s with
    | none => rw [h1] at e; cases e
    | some s1 =>
      rw [h1] at e
      obtain ⟨q1, q2⟩ := Run.of_eval (s0 := s0) r (i + 1) s1 s' e
      exact ⟨.cons h1 rfl q1, by simp only [List.length_cons]; exact congrArg (· + 1) q2⟩

theorem tag_mem : ∀ {il : List IOper} {fs : List Feet} {i : Nat} {x : Nat × IOper × Feet}, x ∈ tag i il fs → i ≤ x.1 ∧ il[x.1 - i]? = some x.2.1 ∧ fs[x.1 - i]? = some x.2.2
  | [], fs, i, x, h => by simp [tag] at h
  | _ :: _, [], i, x, h => by simp [tag] at h
  | o :: r, f :: fs, i, x, h => by
    simp only [tag, List.mem_cons] at h
    rcases h with rfl | h
    · simp
    · obtain ⟨h1, h2, h3⟩ := tag_mem h
      have : x.1 - i = (x.1 - (i + 1)) + 1 := by omega
      exact ⟨by omega, by rw [this]; simpa using h2, by rw [this]; simpa using h3⟩
theorem mem_tag : ∀ {il : List IOper} {fs : List Feet} {i j : Nat} {o : IOper}, fs.length = il.length → il[j]? = some o → ∃ x ∈ tag i il fs, x.1 = i + j
  | [], fs, i, j, o, _, h => by simp at h
  | _ :: _, [], i, j, o, hl, _ => by simp at hl
  | o' :: r, f :: fs, i, j, o, hl, h => by
    cases j with
    | zero => exact ⟨_, List.mem_cons_self .., rfl⟩
    | succ j =>
      obtain ⟨x, h1, h2⟩ := mem_tag (i := i + 1) (fs := fs) (by simpa using hl) (by simpa using h)
      exact ⟨x, List.mem_cons_of_mem _ h1, by omega⟩

def apartT1 (x : IOper) (i : Nat) : List IOper → Bool
  | [] => true
  | y :: r => (y.aft.contains i || apartT x y) && apartT1 x i r
def apartTAll : Nat → List IOper → Bool
  | _, [] => true
  | i, x :: r => apartT1 x i r && apartTAll (i + 1) r
theorem apartT1_spec {x : IOper} {i : Nat} : ∀ {r : List IOper}, apartT1 x i r = true → ∀ y ∈ r, i ∉ y.aft → apartT x y = true
  | [], _, y, hy, _ => by simp at hy
  | z :: r, h, y, hy, hi => by
    simp only [apartT1, Bool.and_eq_true, Bool.or_eq_true, List.contains_iff_mem] at h
    rcases List.mem_cons.1 hy with rfl | hy
    · exact h.1.resolve_left hi
    · exact apartT1_spec h.2 y hy hi

theorem apart1_spec {x : Feet} {i : Nat} : ∀ {fs : List Feet} {cs : List (List Nat)}, apart1 x i fs cs = true → ∀ (j : Nat) (f : Feet) (c : List Nat), fs[j]? = some f → cs[j]? = some c → i ∉ c → clash x f = false
  | [], cs, _, j, f, c, h, _, _ => by simp at h
  | _ :: _, [], _, j, f, c, _, h, _ => by simp at h
  | f' :: fs, c' :: cs, h, j, f, c, h1, h2, hi => by
    simp only [apart1, Bool.and_eq_true, Bool.or_eq_true, Bool.not_eq_true', List.contains_iff_mem] at h
    cases j with
    | zero => simp at h1 h2; subst h1 h2; exact h.1.resolve_right hi
    | succ j => exact apart1_spec h.2 j f c (by simpa using h1) (by simpa using h2) hi

def PW (x y : Nat × IOper × Feet) : Prop := x.1 < y.1 ∧ (x.1 ∉ y.2.1.aft → Apart x y)

theorem tag_pw : ∀ (il : List IOper) (fs : List Feet) (i : Nat), apartTAll i il = true → (apartAll fs i (il.map (·.aft)) = true ∨ ∀ f ∈ fs, f.2 = []) → (tag i il fs).Pairwise PW
  | [], fs, i, _, _ => by simp [tag]
  | _ :: _, [], i, _, _ => by simp [tag]
  | o :: r, f :: fs, i, hT, hF => by
    simp only [apartTAll, Bool.and_eq_true] at hT
    simp only [tag, List.pairwise_cons]
    refine ⟨fun y hy => ?_, tag_pw r fs (i + 1) hT.2 ?_⟩
    · obtain ⟨h1, h2, h3⟩ := tag_mem hy
      refine ⟨by show i < y.1; omega, fun hi => ⟨apartT1_spec hT.1 _ (List.mem_of_getElem? h2) hi, ?_⟩⟩
      rcases hF with hF | hF
      · simp only [List.map_cons, apartAll, Bool.and_eq_true] at hF
        exact apart1_spec hF.1 _ _ y.2.1.aft h3 (by simp [h2]) hi
      · have e1 := hF f (List.mem_cons_self ..)
        have e2 := hF _ (List.mem_cons_of_mem _ (List.mem_of_getElem? h3))
        simp [clash, meets, e1, e2]
    · rcases hF with hF | hF
      · simp only [List.map_cons, apartAll, Bool.and_eq_true] at hF
        exact .inl hF.2
      · exact .inr fun f' hf' => hF f' (List.mem_cons_of_mem _ hf')

/-- the edges lead back; what is said to come before does -/
def cAft (iops : List IOper) (i : Nat) (o : Oper) (io : IOper) : Bool :=
  o.after.toList.all (fun e => !Region.binds .any e || Nat.blt e.on i) &&
  io.aft.all fun a => o.after.toList.any fun e => Region.binds .any e && (e.on == a || (match iops[e.on]? with | some x => x.aft.contains a | none => false))
def cAfts (iops : List IOper) : Nat → List Oper → List IOper → Bool
  | i, o :: r, io :: ir => cAft iops i o io && cAfts iops (i + 1) r ir
  | _, _, _ => true
theorem cAfts_get {iops : List IOper} : ∀ {l : List Oper} {il : List IOper} {i : Nat}, cAfts iops i l il = true → ∀ (j : Nat) (o : Oper) (io : IOper), l[j]? = some o → il[j]? = some io → cAft iops (i + j) o io = true
  | [], _, _, _, j, o, io, h, _ => by simp at h
  | _ :: _, [], _, _, j, o, io, _, h => by simp at h
  | o' :: r, io' :: ir, i, h, j, o, io, h1, h2 => by
    simp only [cAfts, Bool.and_eq_true] at h
    cases j with
    | zero => simp at h1 h2; subst h1 h2; exact h.1
    | succ j => have := cAfts_get h.2 j o io (by simpa using h1) (by simpa using h2); rwa [show i + 1 + j = i + (j + 1) by omega] at this

/-- which are listed, and which are left -/
structure Rest (ops : Array Oper) (iops : List IOper) (L : List (Nat × IOper × Feet)) (listed : Array Bool) : Prop where
  size : listed.size = ops.size
  left : ∀ x ∈ L, x.1 < ops.size ∧ listed[x.1]? = some false ∧ iops[x.1]? = some x.2.1
  all : ∀ (i : Nat), listed[i]? = some false → ∃ x ∈ L, x.1 = i
  down : ∀ (i : Nat) (io : IOper), iops[i]? = some io → listed[i]? = some true → ∀ a ∈ io.aft, listed[a]? = some true
  pw : L.Pairwise PW

theorem ops_any {call : Nat → List AV → Hp → Option (AV × Hp)} (hs : CallSound ν P call) {nt : Nat} {ops : Array Oper} {iops : List IOper} {Q : Exit → Act → World → Prop} {s0 : Nat} {s' : St}
    (hc : cOpers P ν nt ops ops.toList iops = true) (haft : cAfts iops 0 ops.toList iops = true) : ∀ (n : Nat) (L : List (Nat × IOper × Feet)) (listed : Array Bool) (g : Gh) (a : Act) (s : St), L.length = n → Rest ops iops L listed →
    Run call s0 L s s' → Sim ν k nt g a s → (∀ g' a', Sim ν k nt g' a' s' → Mono ν g g' → Q .normal a' g'.w) → wpAny P .any ops Q n listed a g.w := by
  intro n
  induction n with
  | zero =>
    intro L listed g a s hn hl hr m hQ
    cases L with
    | cons => simp at hn
    | nil =>
      refine ⟨?_, ?_⟩
      · refine List.eq_nil_iff_forall_not_mem.2 fun j hj => ?_
        obtain ⟨h1, o, ho, -⟩ := mem_ready.1 hj
        have hjn : j < listed.size := by rw [hl.size]; exact (Array.getElem?_eq_some_iff.1 ho).1
        obtain ⟨x, hx, -⟩ := hl.all j (by simp [Array.getD, hjn] at h1; simp [hjn, h1])
        cases hx
      · cases hr with
        | nil h =>
          obtain ⟨m', hm⟩ := m.like h
          exact hQ { g with h := s'.hp } a m' hm
  | succ n ih =>
    intro L listed g a s hn hl hr m hQ
    have hat : ∀ {j : Nat} {b : Bool} {d : Bool}, listed.getD j d = b → b ≠ d → listed[j]? = some b := by
      intro j b d h hb
      by_cases hj : j < listed.size
      · simp [Array.getD, hj] at h; simp [hj, h]
      · simp [Array.getD, hj] at h; exact absurd h.symm hb
    obtain ⟨hlen, hget⟩ := cOpers_get hc
    refine ⟨fun h0 => ?_, fun j hj => ?_⟩
    · exfalso
      cases L with
      | nil => simp at hn
      | cons x r =>
        obtain ⟨h1, h2, h3⟩ := hl.left x (List.mem_cons_self ..)
        have : x.1 ∈ Region.ready .any ops listed := by
          have ho : ops[x.1]? = some ops[x.1] := by simp [h1]
          refine mem_ready.2 ⟨by simp [Array.getD_eq_getD_getElem?, h2], _, ho, fun e he hb => ?_⟩
          have hA := cAfts_get haft x.1 ops[x.1] x.2.1 (by simp [h1]) h3
          simp only [cAft, Bool.and_eq_true, List.all_eq_true, Nat.zero_add] at hA
          have hlt := hA.1 e (by simpa using he)
          simp only [hb, Bool.not_true, Bool.false_or, Nat.blt_eq] at hlt
          have hlt' : e.on < listed.size := by rw [hl.size]; omega
          cases hv : listed[e.on] with
          | true => simp [hlt', hv]
          | false =>
            obtain ⟨y, hy, hye⟩ := hl.all e.on (by simp [hlt', hv])
            rcases List.mem_cons.1 hy with rfl | hy
            · omega
            · have := (List.pairwise_cons.1 hl.pw).1 y hy
              have := this.1
              omega
        rw [h0] at this; cases this
    · obtain ⟨h1, o, ho, hedge⟩ := mem_ready.1 hj
      obtain ⟨x, hx, rfl⟩ := hl.all j (hat h1 (by simp))
      obtain ⟨L1, L2, rfl⟩ := List.append_of_mem hx
      obtain ⟨hlt, hfalse, hix⟩ := hl.left x hx
      have hA := cAfts_get haft x.1 o x.2.1 (by simpa using ho) hix
      simp only [cAft, Bool.and_eq_true, List.all_eq_true, List.any_eq_true, Nat.zero_add] at hA
      have hdn : ∀ b ∈ x.2.1.aft, listed[b]? = some true := by
        intro b hb
        obtain ⟨e, he, h2, h3⟩ := hA.2 b hb
        have hel := hat (hedge e (by simpa using he) h2) (by simp)
        simp only [Bool.or_eq_true, beq_iff_eq] at h3
        rcases h3 with h3 | h3
        · subst h3; exact hel
        · split at h3
          · rename_i y hy
            exact hl.down e.on y hy hel b (by simpa using h3)
          · cases h3
      have hpw := List.pairwise_append.1 hl.pw
      have hpw2 := List.pairwise_cons.1 hpw.2.1
      obtain ⟨s1, e1, -, r1⟩ := Run.front L1 s hr fun y hy => by
        obtain ⟨q1, q2⟩ := hpw.2.2 y hy x (List.mem_cons_self ..)
        refine q2 fun hb => ?_
        have := hdn _ hb
        rw [(hl.left y (by simp [hy])).2.1] at this
        cases this
      have hl' : Rest ops iops (L1 ++ L2) (listed.setIfInBounds x.1 true) := by
        have hne : ∀ y ∈ L1 ++ L2, x.1 ≠ y.1 := by
          intro y hy
          rcases List.mem_append.1 hy with hy | hy
          · have := (hpw.2.2 y hy x (List.mem_cons_self ..)).1; omega
          · have := (hpw2.1 y hy).1; omega
        have hxl : x.1 < listed.size := by rw [hl.size]; exact hlt
        refine ⟨by simpa using hl.size, fun y hy => ?_, fun i hi => ?_, fun i io hio hi b hb => ?_, List.pairwise_append.2 ⟨hpw.1, hpw2.2, fun y hy z hz => hpw.2.2 y hy z (List.mem_cons_of_mem _ hz)⟩⟩
        · obtain ⟨q1, q2, q3⟩ := hl.left y (by rcases List.mem_append.1 hy with h | h <;> simp [h])
          exact ⟨q1, by rw [Array.getElem?_setIfInBounds_ne (hne y hy)]; exact q2, q3⟩
        · by_cases hxi : x.1 = i
          · subst hxi; simp [hxl] at hi
          · rw [Array.getElem?_setIfInBounds_ne hxi] at hi
            obtain ⟨y, hy, hyi⟩ := hl.all i hi
            refine ⟨y, ?_, hyi⟩
            simp only [List.mem_append, List.mem_cons] at hy ⊢
            rcases hy with h | rfl | h
            · exact .inl h
            · exact absurd hyi hxi
            · exact .inr h
        · have hup : ∀ {b : Nat}, listed[b]? = some true → (listed.setIfInBounds x.1 true)[b]? = some true := by
            intro b hb
            by_cases hxb : x.1 = b
            · subst hxb; simp [hxl]
            · rw [Array.getElem?_setIfInBounds_ne hxb]; exact hb
          by_cases hxi : x.1 = i
          · subst hxi
            rw [hix] at hio; cases hio
            exact hup (hdn b hb)
          · rw [Array.getElem?_setIfInBounds_ne hxi] at hi
            exact hup (hl.down i io hio hi b hb)
      unfold wpOp
      simp only [ho]
      have hw := step_wp (Q := Q) hs (hget x.1 o x.2.1 (by simpa using ho) hix) m e1 (next := wpAny P .any ops Q n (listed.setIfInBounds x.1 true)) fun g' a' m' hm =>
        ih (L1 ++ L2) _ g' a' s1 (by simp at hn ⊢; omega) hl' r1 m' fun g'' a'' m'' hm' => hQ g'' a'' m'' (hm.trans hm')
      split
      · rename_i h; rw [if_pos h] at hw; exact .inl hw
      · rename_i h; rw [if_neg h] at hw; exact hw

def cRgn (P : Program) (ν : Nat → Nat) (nt : Nat) (draw : Bool) (ops : Array Oper) (iops : List IOper) : Bool :=
  cOpers P ν nt ops ops.toList iops && (!draw || (cAfts iops 0 ops.toList iops && apartTAll 0 iops))

theorem keepFr_get : ∀ (keep : List Nat) (fr : Fr) (t : Nat) (x : AV), get (keepFr keep fr) t = some x → get fr t = some x
  | [], fr, t, x, h => by simp [keepFr, get] at h
  | k :: r, fr, t, x, h => by
    simp only [keepFr] at h
    cases hk : get fr k with
    | none => rw [hk] at h; exact keepFr_get r fr t x h
    | some y =>
      rw [hk] at h
      simp only [get] at h
      split at h
      · rename_i h0; subst h0; rw [hk]; exact h
      · exact keepFr_get r fr t x h
theorem Sim.keep {nt : Nat} {g : Gh} {a : Act} {s : St} (m : Sim ν k nt g a s) (keep : List Nat) (nx : Nat) : Sim ν k nt g a { fr := keepFr keep s.fr, hp := s.hp, nx := nx } :=
  ⟨m.h, m.r, fun t x ht => m.f t x (keepFr_get keep s.fr t x ht), m.n, m.d⟩

theorem rgn_wp {call : Nat → List AV → Hp → Option (AV × Hp)} (hs : CallSound ν P call) (hmix : P.follows .mixedOrders = true) {nt id : Nat} {draw : Bool} {ops : Array Oper} {iops : List IOper} {keep : List Nat}
    (hc : cRgn P ν nt draw ops iops = true) {g : Gh} {a : Act} {s s' : St} (e : evalRgn call draw iops keep s = some s') (m : Sim ν k nt g a s) {Q : Exit → Act → World → Prop}
    (hQ : ∀ g' a', Sim ν k nt g' a' s' → Mono ν g g' → Q .normal a' g'.w) : (Code.region id ops draw).wp P Q a g.w := by
  unfold evalRgn at e
  cases h1 : evalOps call iops s.nx s with
  | none => rw [h1] at e; cases e
  | some s1 =>
    rw [h1] at e
    simp only [cRgn, Bool.and_eq_true] at hc
    simp only [] at e
    split at e
    · rename_i hord
      simp only [Option.some.injEq] at e
      subst e
      cases draw with
      | false => exact wp_region_list (ops_text hs ops.toList iops s.nx g a s s1 hc.1 h1 m fun g' a' m' hm => hQ g' a' (m'.keep keep _) hm)
      | true =>
        simp only [Bool.not_true, Bool.false_or, Bool.and_eq_true] at hord hc
        refine wp_region_any hmix ?_
        obtain ⟨r', hm⟩ := m.r.world (w' := { g.w with drawn := g.w.drawn + 1 }) (I' := g.I) (fun _ h => h) (fun _ h => .inl h) (Nat.le_refl _) rfl rfl rfl fun _ _ => rfl
        obtain ⟨hrun, hlen⟩ := Run.of_eval (s0 := s.nx) iops 0 s s1 (by simpa using h1)
        have hn := (cOpers_get hc.1).1
        simp only [Array.length_toList] at hn
        have hpw := tag_pw iops (evalFeet call iops (s.nx + 64 * 0) s) 0 hc.2.2 (by
          simp only [orderOk, Bool.or_eq_true, List.all_eq_true, List.isEmpty_iff] at hord
          exact hord.symm)
        have hlt : (tag 0 iops (evalFeet call iops (s.nx + 64 * 0) s)).length = ops.size := by
          rw [hn]
          generalize evalFeet call iops (s.nx + 64 * 0) s = fs at hlen
          generalize 0 = i
          clear hrun hpw hord h1 hc hn hQ
          induction iops generalizing fs i with
          | nil => simp [tag]
          | cons o r ih =>
            cases fs with
            | nil => simp at hlen
            | cons f fs => simp only [tag, List.length_cons]; rw [ih fs (by simpa using hlen)]
        refine ops_any hs hc.1 hc.2.1 ops.size _ _ { g with w := { g.w with drawn := g.w.drawn + 1 } } a s hlt ?_ hrun ⟨m.h, r', m.f.mono hm, m.n, m.d⟩ fun g' a' m' hm' => hQ g' a' (m'.keep keep _) (hm.trans hm')
        refine ⟨by simp, fun x hx => ?_, fun i hi => ?_, fun i io _ hi => ?_, hpw⟩
        · obtain ⟨q1, q2, q3⟩ := tag_mem hx
          simp only [Nat.sub_zero] at q2
          have : x.1 < ops.size := by rw [hn]; exact (List.getElem?_eq_some_iff.1 q2).1
          exact ⟨this, by simp [this], q2⟩
        · have hi' : i < ops.size := by
            have := (Array.getElem?_eq_some_iff.1 hi).1
            simpa using this
          obtain ⟨x, hx, hxi⟩ := mem_tag (i := 0) (j := i) (il := iops) hlen (List.getElem?_eq_getElem (by omega))
          exact ⟨x, hx, by omega⟩
        · have hi' := (Array.getElem?_eq_some_iff.1 hi)
          obtain ⟨q1, q2⟩ := hi'
          simp at q2
    · cases e
end
end Arb

/-
  THE CODE OF A FUNCTION: sequences, branches, blocks, loops.
-/
namespace Arb
open Go Go.RowKit

section
variable {ν : Nat → Nat} {P : Program} {k : Cx}

theorem get_map {α β : Type} (f : Nat → α → β) : ∀ (l : List (Nat × α)) (n : Nat), get (l.map fun p => (p.1, f p.1 p.2)) n = (get l n).map (f n)
  | [], _ => rfl
  | p :: r, n => by
    simp only [List.map_cons, get]
    by_cases h : p.1 = n
    · subst h; simp
    · rw [if_neg h, if_neg h]; exact get_map f r n
theorem get_filter {α : Type} (q : Nat → Bool) : ∀ (l : List (Nat × α)) (n : Nat), get (l.filter fun p => q p.1) n = if q n then get l n else none
  | [], n => by simp [get]
  | p :: r, n => by
    simp only [List.filter_cons]
    by_cases hq : q p.1 = true
    · rw [if_pos hq]
      simp only [get]
      by_cases h : p.1 = n
      · subst h; simp [hq]
      · rw [if_neg h, if_neg h]; exact get_filter q r n
    · rw [if_neg hq, get_filter q r n]
      simp only [get]
      by_cases h : p.1 = n
      · subst h; simp [hq]
      · rw [if_neg h]

theorem again_hp (kp : List Nat) (n0 : Nat) (s : St) (id : Nat) : get (again kp n0 s).hp id = if id < 1000 ∨ id < n0 then (get s.hp id).map (nrmO n0 s.hp id) else none := by
  show get (List.map (fun p => (p.1, nrmO n0 s.hp p.1 p.2)) (List.filter (fun p => decide (p.1 < 1000) || decide (p.1 < n0)) s.hp)) id = _
  rw [get_map (fun n => nrmO n0 s.hp n), get_filter (fun n => decide (n < 1000) || decide (n < n0))]
  by_cases h : id < 1000 ∨ id < n0
  · rw [if_pos h, if_pos (by simpa using h)]
  · rw [if_neg h, if_neg (by simpa using h)]; rfl

section
variable {kp : List Nat} {n0 : Nat} {g : Gh} {s : St}

theorem again_own (hh : g.h = s.hp) {v : Value} {id o n ver : Nat} (hid : id < 1000) (h : OwnAt g v id o n ver) : OwnAt { g with h := (again kp n0 s).hp } v id o n ver := by
  unfold OwnAt at h ⊢
  rw [hh] at h
  rw [show get (again kp n0 s).hp id = (get s.hp id).map (nrmO n0 s.hp id) by rw [again_hp, if_pos (.inl hid)]]
  cases hg : get s.hp id with
  | none => rw [hg] at h; exact h
  | some ob =>
    rw [hg] at h
    cases ob with
    | cells cs => exact h
    | buf v' e es => simp only [Option.map_some, nrmO, if_pos hid]; exact h
    | imm v' e es => simp only [Option.map_some, nrmO, if_pos hid]; exact h
    | map kvs => exact h
theorem again_ref (hh : g.h = s.hp) {v : Value} {id ver i j : Nat} (hid : id < 1000) (h : RefAt g v id ver i j) : RefAt { g with h := (again kp n0 s).hp } v id ver i j := by
  unfold RefAt at h ⊢
  rw [hh] at h
  rw [show get (again kp n0 s).hp id = (get s.hp id).map (nrmO n0 s.hp id) by rw [again_hp, if_pos (.inl hid)]]
  cases hg : get s.hp id with
  | none => rw [hg] at h; exact h
  | some ob =>
    rw [hg] at h
    cases ob with
    | cells cs => exact h
    | buf v' e es => simp only [Option.map_some, nrmO, if_pos hid]; exact h
    | imm v' e es => simp only [Option.map_some, nrmO, if_pos hid]; exact h
    | map kvs => exact h

theorem nrm_ok (hh : g.h = s.hp) : ∀ (d : Nat) (v : Value) (x : AV), RA ν g v x → RA ν { g with h := (again kp n0 s).hp } v (nrm n0 s.hp d x)
  | 0, v, x, _ => .undef v
  | d + 1, v, x, hx => by
    cases hx with
    | undef => exact .undef v
    | iv h => exact .iv h
    | agg hn h1 hr =>
      refine .agg (by simpa using hn) h1 fun j v c hv hc => ?_
      simp only [List.getElem?_map, Option.map_eq_some_iff] at hc
      obtain ⟨c', hc', rfl⟩ := hc
      exact nrm_ok hh d v c' (hr j v c' hv hc')
    | tup hn hr =>
      refine .tup (by simpa using hn) fun j v c hv hc => ?_
      simp only [List.getElem?_map, Option.map_eq_some_iff] at hc
      obtain ⟨c', hc', rfl⟩ := hc
      exact nrm_ok hh d v c' (hr j v c' hv hc')
    | clo hn hr =>
      refine .clo (by simpa using hn) fun j v c hv hc => ?_
      simp only [List.getElem?_map, Option.map_eq_some_iff] at hc
      obtain ⟨c', hc', rfl⟩ := hc
      exact nrm_ok hh d v c' (hr j v c' hv hc')
    | @own _ id o n ver h1 h =>
      simp only [nrm]
      by_cases hid : id < 1000
      · rw [if_pos hid]; exact .own h1 (again_own hh hid h)
      · rw [if_neg hid]
        by_cases hn : id < n0
        · rw [if_pos hn]
          have hg' : get (again kp n0 s).hp id = (get s.hp id).map (nrmO n0 s.hp id) := by rw [again_hp, if_pos (.inr hn)]
          unfold OwnAt at h
          rw [hh] at h
          split
          · rename_i v' e es hg
            rw [hg] at h
            split
            · rename_i hv
              refine .own h1 ?_
              unfold OwnAt
              rw [hg', hg]
              simp only [Option.map_some, nrmO, if_neg hid]
              exact ⟨Nat.le_refl _, fun _ => h.2 hv⟩
            · exact .undef v
          · rename_i v' e es hg
            rw [hg] at h
            split
            · rename_i hv
              refine .own h1 ?_
              unfold OwnAt
              rw [hg', hg]
              simp only [Option.map_some, nrmO, if_neg hid]
              exact ⟨Nat.le_refl _, fun _ => h.2 hv⟩
            · exact .undef v
          · exact .undef v
        · rw [if_neg hn]; exact .undef v
    | @ref _ id ver i j h1 h =>
      simp only [nrm]
      by_cases hid : id < 1000
      · rw [if_pos hid]; exact .ref h1 (again_ref hh hid h)
      · rw [if_neg hid]
        by_cases hn : id < n0
        · rw [if_pos hn]
          have hg' : get (again kp n0 s).hp id = (get s.hp id).map (nrmO n0 s.hp id) := by rw [again_hp, if_pos (.inr hn)]
          unfold RefAt at h
          rw [hh] at h
          split
          · rename_i v' e es hg
            rw [hg] at h
            split
            · rename_i hv
              refine .ref h1 ?_
              unfold RefAt
              rw [hg', hg]
              simp only [Option.map_some, nrmO, if_neg hid]
              exact ⟨Nat.le_refl _, fun _ => h.2 hv⟩
            · exact .undef v
          · rename_i v' e es hg
            rw [hg] at h
            split
            · rename_i hv
              refine .ref h1 ?_
              unfold RefAt
              rw [hg', hg]
              simp only [Option.map_some, nrmO, if_neg hid]
              exact ⟨Nat.le_refl _, fun _ => h.2 hv⟩
            · exact .undef v
          · rename_i cs hg
            rw [hg] at h
            refine .ref h1 ?_
            unfold RefAt
            rw [hg', hg]
            exact h
          · rename_i kvs hg
            rw [hg] at h
            refine .ref h1 ?_
            unfold RefAt
            rw [hg', hg]
            exact h
          · exact .undef v
        · rw [if_neg hn]; exact .undef v

theorem again_ok {nt : Nat} {a : Act} (m : Sim ν k nt g a s) : Sim ν k nt { g with h := (again kp n0 s).hp } a (again kp n0 s) ∧ MonoL g { g with h := (again kp n0 s).hp } := by
  have hget : ∀ {id : Nat} {o : Ob}, get (again kp n0 s).hp id = some o → ∃ o', get g.h id = some o' ∧ o = nrmO n0 s.hp id o' := by
    intro id o ho
    rw [again_hp] at ho
    split at ho
    · simp only [Option.map_eq_some_iff] at ho
      obtain ⟨o', h1, rfl⟩ := ho
      exact ⟨o', by rw [m.h]; exact h1, rfl⟩
    · cases ho
  refine ⟨⟨rfl, ⟨fun id o ho => ?_, fun id id' o o' b h1 h2 h3 h4 => ?_, m.r.small, m.r.i0, m.r.i1, fun id o b ho hφ => ?_, m.r.size, m.r.os, m.r.tape, m.r.output, m.r.old⟩, fun t x ht => ?_, m.n, m.d⟩,
    ⟨fun v id o n ver hid _ h => again_own m.h hid h, fun v id ver i j hid _ h => again_ref m.h hid h⟩⟩
  · obtain ⟨o', h1, rfl⟩ := hget ho
    have old := m.r.ob id o' h1
    cases o' with
    | cells cs =>
      obtain ⟨b, e1, e2, e3, e4⟩ := old
      refine ⟨b, e1, e2, e3, fun j c hc => ?_⟩
      simp only [List.getElem?_map, Option.map_eq_some_iff] at hc
      obtain ⟨c', hc', rfl⟩ := hc
      obtain ⟨v, c1, c2, c3⟩ := e4 j c' hc'
      exact ⟨v, c1, c2, nrm_ok m.h 8 v c' c3⟩
    | buf v e es => exact old
    | imm v e es => exact old
    | map kvs =>
      obtain ⟨b, es, clock, e1, e2, e3, e4, e5, e6⟩ := old
      refine ⟨b, es, clock, e1, e2, e3, e4, by simpa using e5, fun j e p h1 h2 => ?_⟩
      simp only [List.getElem?_map, Option.map_eq_some_iff] at h2
      obtain ⟨p', hp, rfl⟩ := h2
      obtain ⟨c1, c2⟩ := e6 j e p' h1 hp
      exact ⟨nrm_ok m.h 8 _ _ c1, nrm_ok m.h 8 _ _ c2⟩
  · obtain ⟨p, q1, -⟩ := hget h1
    obtain ⟨p', q1', -⟩ := hget h2
    exact m.r.inj id id' p p' b q1 q1' h3 h4
  · obtain ⟨p, q1, -⟩ := hget ho
    exact m.r.own id p b q1 hφ
  · have : get (again kp n0 s).fr t = (get (keepFr kp s.fr) t).map (nrm n0 s.hp 8) := get_map (fun _ => nrm n0 s.hp 8) (keepFr kp s.fr) t
    rw [this] at ht
    simp only [Option.map_eq_some_iff] at ht
    obtain ⟨y, hy, rfl⟩ := ht
    obtain ⟨v, h1, h2⟩ := m.f t y (keepFr_get _ _ _ _ hy)
    exact ⟨v, h1, nrm_ok m.h 8 v y h2⟩
end

def Ex.as : Ex → Exit
  | .norm => .normal
  | .exit i => .exit i
  | .ret => .ret

def cCode (P : Program) (ν : Nat → Nat) (nt : Nat) : Code → IC → Bool
  | .skip, .skip => true
  | .label _, .skip => true
  | .region _ ops draw, .rgn d iops _ => draw == d && cRgn P ν nt draw ops iops
  | .seq a b, .seq x y => cCode P ν nt a x && cCode P ν nt b y
  | .cond c a b, .cond d x y => cOpd ν c d && cCode P ν nt a x && cCode P ν nt b y
  | .block id a, .block jd x => id == jd && cCode P ν nt a x
  | .loop a, .loop _ x => cCode P ν nt a x
  | .exit id, .exit jd => id == jd
  | .ret, .ret => true
  | _, _ => false

/-- a loop, as many rounds as it takes -/
theorem wp_rounds {c : Code} {Q : Exit → Act → World → Prop} (I : Nat → Act → World → Prop) (h0 : ∀ a w, ¬ I 0 a w)
    (round : ∀ n a w, I (n + 1) a w → c.wp P (Exit.then (I n) Q) a w) {n : Nat} {a : Act} {w : World} (h : I n a w) : (Code.loop c).wp P Q a w := by
  intro b kk cs
  have key : ∀ n a w, I n a w → ∃ e a' w', Q e a' w' ∧ Arrives P (lone (b.at a (.code c :: .inLoop c :: kk)) cs w) b kk cs e a' w' := by
    intro n
    induction n with
    | zero => exact fun a w h => (h0 a w h).elim
    | succ n ih =>
      intro a w hI
      obtain ⟨e, a₁, w₁, hq, harr⟩ := round n a w hI b (.inLoop c :: kk) cs
      cases e with
      | normal =>
        obtain ⟨e₂, a₂, w₂, hq₂, harr₂⟩ := ih a₁ w₁ hq
        exact ⟨e₂, a₂, w₂, hq₂, .of_steps (Steps.trans harr (.one step_inLoop)) harr₂⟩
      | exit id => exact ⟨_, a₁, w₁, hq, .pass (x := .inLoop c) rfl (fun _ _ => .inl (by simp)) harr⟩
      | goto l => exact ⟨_, a₁, w₁, hq, .pass (x := .inLoop c) rfl (fun _ _ => .inl (by simp)) harr⟩
      | ret => exact ⟨_, a₁, w₁, hq, .pass (x := .inLoop c) rfl (fun _ _ => .inl (by simp)) harr⟩
      | panic ch => exact ⟨_, a₁, w₁, hq, .pass (x := .inLoop c) rfl (fun _ _ => .inl (by simp)) harr⟩
      | outgrown => exact ⟨_, a₁, w₁, hq, .pass (x := .inLoop c) rfl (fun _ _ => .inl (by simp)) harr⟩
  obtain ⟨e, a', w', hq, harr⟩ := key n a w h
  exact ⟨e, a', w', hq, .of_steps (.one step_loop) harr⟩

theorem code_wp {call : Nat → List AV → Hp → Option (AV × Hp)} (hs : CallSound ν P call) (hmix : P.follows .mixedOrders = true) {nt n : Nat} : ∀ (ic : IC) (c : Code), cCode P ν nt c ic = true →
    ∀ (g : Gh) (a : Act) (s : St) (r : Ex) (s' : St), evalC call n ic s = some (r, s') → Sim ν k nt g a s → ∀ Q : Exit → Act → World → Prop, (∀ g' a', Sim ν k nt g' a' s' → MonoL g g' → Q r.as a' g'.w) → c.wp P Q a g.w := by
  intro ic
  induction ic with
  | skip =>
    intro c hc g a s r s' e m Q hQ
    simp only [evalC, Option.some.injEq, Prod.mk.injEq] at e
    obtain ⟨rfl, rfl⟩ := e
    cases c <;> simp only [cCode, Bool.false_eq_true] at hc
    · exact wp_skip (hQ g a m (.refl g))
    · exact wp_label (hQ g a m (.refl g))
  | rgn draw ops keep =>
    intro c hc g a s r s' e m Q hQ
    cases c <;> simp only [cCode, Bool.false_eq_true] at hc
    rename_i id cops cdraw
    simp only [Bool.and_eq_true, beq_iff_eq] at hc
    obtain ⟨rfl, hc⟩ := hc
    simp only [evalC, Option.map_eq_some_iff, Prod.mk.injEq] at e
    obtain ⟨s1, e1, rfl, rfl⟩ := e
    exact rgn_wp hs hmix hc e1 m fun g' a' m' hm => hQ g' a' m' hm.low
  | seq x y ihx ihy =>
    intro c hc g a s r s' e m Q hQ
    cases c <;> simp only [cCode, Bool.false_eq_true] at hc
    simp only [Bool.and_eq_true] at hc
    refine wp_seq ?_
    simp only [evalC] at e
    cases h1 : evalC call n x s with
    | none => rw [h1] at e; cases e
    | some p =>
      obtain ⟨r1, s1⟩ := p
      rw [h1] at e
      refine ihx _ hc.1 g a s r1 s1 h1 m _ fun g' a' m' hm => ?_
      cases r1 with
      | norm => exact ihy _ hc.2 g' a' s1 r s' e m' Q fun g'' a'' m'' hm' => hQ g'' a'' m'' (hm.trans hm')
      | exit i => simp only [Option.some.injEq, Prod.mk.injEq] at e; obtain ⟨rfl, rfl⟩ := e; exact hQ g' a' m' hm
      | ret => simp only [Option.some.injEq, Prod.mk.injEq] at e; obtain ⟨rfl, rfl⟩ := e; exact hQ g' a' m' hm
  | cond d x y ihx ihy =>
    intro c hc g a s r s' e m Q hQ
    cases c <;> simp only [cCode, Bool.false_eq_true] at hc
    rename_i cd cx cy
    simp only [Bool.and_eq_true] at hc
    simp only [evalC] at e
    split at e
    · rename_i t ht
      have hR := eval_ok m.f hc.1.1
      rw [ht] at hR
      generalize hv : a.eval cd = v at hR
      cases hR with
      | iv h =>
        cases h with
        | bool =>
          refine wp_cond hv ?_
          cases t with
          | true => exact ihx _ hc.1.2 g a s r s' e m Q hQ
          | false => exact ihy _ hc.2 g a s r s' e m Q hQ
    · cases e
  | block id x ih =>
    intro c hc g a s r s' e m Q hQ
    cases c <;> simp only [cCode, Bool.false_eq_true] at hc
    simp only [Bool.and_eq_true, beq_iff_eq] at hc
    obtain ⟨rfl, hc⟩ := hc
    refine wp_block ?_
    simp only [evalC] at e
    cases h1 : evalC call n x s with
    | none => rw [h1] at e; cases e
    | some p =>
      obtain ⟨r1, s1⟩ := p
      rw [h1] at e
      refine ih _ hc g a s r1 s1 h1 m _ fun g' a' m' hm => ?_
      cases r1 with
      | norm => simp only [Option.some.injEq, Prod.mk.injEq] at e; obtain ⟨rfl, rfl⟩ := e; exact hQ g' a' m' hm
      | ret => simp only [Option.some.injEq, Prod.mk.injEq] at e; obtain ⟨rfl, rfl⟩ := e; exact hQ g' a' m' hm
      | exit i =>
        simp only [Ex.as, Exit.inBlock]
        simp only [] at e
        split at e
        · rename_i hi
          simp only [Option.some.injEq, Prod.mk.injEq] at e; obtain ⟨rfl, rfl⟩ := e
          rw [if_pos hi]; exact hQ g' a' m' hm
        · rename_i hi
          simp only [Option.some.injEq, Prod.mk.injEq] at e; obtain ⟨rfl, rfl⟩ := e
          rw [if_neg hi]; exact hQ g' a' m' hm
  | loop keep x ih =>
    intro c hc g a s r s' e m Q hQ
    cases c <;> simp only [cCode, Bool.false_eq_true] at hc
    rename_i cx
    simp only [evalC] at e
    generalize hn0 : s.nx = n0 at e
    subst hn0
    refine wp_rounds (fun j a w => ∃ g1 s1, g1.w = w ∧ Sim ν k nt g1 a s1 ∧ MonoL g g1 ∧ iter (evalC call n x) keep s.nx j s1 = some (r, s')) ?_ ?_ (n := n) ⟨g, _, rfl, m.keep keep s.nx, .refl g, e⟩
    · rintro a w ⟨g1, s1, -, -, -, h⟩
      simp [iter] at h
    · rintro j a w ⟨g1, s1, rfl, m1, hm1, h⟩
      simp only [iter] at h
      cases h1 : evalC call n x s1 with
      | none => rw [h1] at h; cases h
      | some p =>
        obtain ⟨r2, s2⟩ := p
        rw [h1] at h
        refine ih _ hc g1 a s1 r2 s2 h1 m1 _ fun g' a' m' hm => ?_
        cases r2 with
        | norm =>
          obtain ⟨m2, hm2⟩ := again_ok (kp := keep) (n0 := s.nx) m'
          exact ⟨{ g' with h := (again keep s.nx s2).hp }, _, rfl, m2, (hm1.trans hm).trans hm2, h⟩
        | exit i => simp only [Option.some.injEq, Prod.mk.injEq] at h; obtain ⟨rfl, rfl⟩ := h; exact hQ g' a' m' (hm1.trans hm)
        | ret => simp only [Option.some.injEq, Prod.mk.injEq] at h; obtain ⟨rfl, rfl⟩ := h; exact hQ g' a' m' (hm1.trans hm)
  | exit id =>
    intro c hc g a s r s' e m Q hQ
    cases c <;> simp only [cCode, Bool.false_eq_true] at hc
    simp only [evalC, Option.some.injEq, Prod.mk.injEq] at e
    obtain ⟨rfl, rfl⟩ := e
    rw [beq_iff_eq] at hc; subst hc
    exact wp_exit (hQ g a m (.refl g))
  | ret =>
    intro c hc g a s r s' e m Q hQ
    cases c <;> simp only [cCode, Bool.false_eq_true] at hc
    simp only [evalC, Option.some.injEq, Prod.mk.injEq] at e
    obtain ⟨rfl, rfl⟩ := e
    exact wp_ret (hQ g a m (.refl g))
end
end Arb

/-
  WHAT A FUNCTION ANSWERS.
-/
namespace Arb
open Go Go.RowKit

section
variable {ν : Nat → Nat} {P : Program} {k : Cx}

theorem outA_ok {g : Gh} (r : Rel ν k g) {x y : AV} {h' : Hp} (e : (outA x).run g.h = some (y, h')) {v : Value} (hv : RA ν g v x) : ∃ I', Froze ν k g h' I' ∧ RA ν { g with I := I', h := h' } v y := by
  have rest : ∀ {x : AV}, (fz1 true x).run g.h = some (y, h') → RA ν g v x → ∃ I', Froze ν k g h' I' ∧ RA ν { g with I := I', h := h' } v y := by
    intro x e hv
    obtain ⟨I', f, hR⟩ := fz1T r e hv
    exact ⟨I', f, hR.up fun _ _ h => h⟩
  cases x with
  | own id o n ver =>
    obtain ⟨ob, h1, e1, e2⟩ := M.bind_some e
    obtain ⟨hg, rfl⟩ := M.look_some e1
    cases hv with
    | own hone ho =>
      cases ob with
      | cells cs => exact (M.fail_some e2).elim
      | buf v' ee es =>
        obtain ⟨_, h2, e3, e4⟩ := M.bind_some e2
        obtain ⟨_, rfl⟩ := M.ok_some e3
        obtain ⟨rfl, rfl⟩ := M.ret_some e4
        exact ⟨g.I, .refl r, .own hone ho⟩
      | imm v' ee es =>
        obtain ⟨_, h2, e3, e4⟩ := M.bind_some e2
        obtain ⟨hb, rfl⟩ := M.ok_some e3
        obtain ⟨rfl, rfl⟩ := M.ret_some e4
        refine ⟨g.I, .refl r, .iv (sl_reads r hg rfl ?_)⟩
        unfold OwnAt at ho
        rw [hg] at ho
        exact ho.2 (beq_iff_eq.1 hb)
      | map _ => exact (M.fail_some e2).elim
  | undef => exact rest (x := .undef) e hv
  | iv x => exact rest (x := .iv x) e hv
  | tup vs => exact rest (x := .tup vs) e hv
  | agg cs => exact rest (x := .agg cs) e hv
  | ref id v i j => exact rest (x := .ref id v i j) e hv
  | clo f caps => exact rest (x := .clo f caps) e hv

def resOne (tmps : Array Value) : ResultVar → Sem Value
  | .tmp t => pure (tmps.getD t undef)
  | .cell a t => do loadVar t (← asAddr (tmps.getD a undef))

def cRes (P : Program) : ResultVar → IRes → Bool
  | .tmp t, .t n => t == n
  | .cell a t, .cell n agg sz => a == n && tyB P t sz agg
  | .tmp t, .keep n => t == n
  | .cell a t, .kcell n agg sz => a == n && tyB P t sz agg
  | _, _ => false
def cRess (P : Program) : List ResultVar → List IRes → Bool
  | [], [] => true
  | r :: rs, x :: xs => cRes P r x && cRess P rs xs
  | _, _ => false

theorem as_sure {t : TypeId} {v u : Value} {w w' : World} (h : (Instr.loadAt t v).run P w = .ok u w') : (do loadVar t (← asAddr v) : Sem Value).run P w = .ok u w' := by
  unfold Instr.loadAt at h
  cases v with
  | pointer a =>
    cases a with
    | none => simp [Instr.sureAddr] at h
    | some a => simpa [Instr.sureAddr, asAddr] using h
  | _ => simp [Instr.sureAddr] at h

theorem resM_ok {g : Gh} (r : Rel ν k g) {a : Act} {fr : Fr} (hf : FrR ν g a.tmps fr) {rv : ResultVar} {x : IRes} (hc : cRes P rv x = true) {y : AV} {h' : Hp} (e : (resM fr x).run g.h = some (y, h')) :
    ∃ v g', (resOne a.tmps rv).run P g.w = .ok v g.w ∧ g'.w = g.w ∧ g'.h = h' ∧ Rel ν k g' ∧ Mono ν g g' ∧ RA ν g' v y := by
  cases x with
  | t n =>
    cases rv with
    | cell => simp [cRes] at hc
    | tmp t =>
      obtain ⟨I', f, hR⟩ := outA_ok r e (eval_ok (ν := ν) (x := .tmp t) hf (by simpa [cOpd, cRes] using hc))
      exact ⟨_, { g with I := I', h := h' }, by simp [resOne, Act.eval], rfl, rfl, f.rel, f.mono, hR⟩
  | cell n agg sz =>
    cases rv with
    | tmp => simp [cRes] at hc
    | cell t ty =>
      simp only [cRes, Bool.and_eq_true] at hc
      obtain ⟨z, h1, e1, e2⟩ := M.bind_some e
      obtain ⟨rfl, u, hu, hR1⟩ := load_at r hc.2 (eval_ok (ν := ν) (x := .tmp t) hf (by simpa [cOpd] using hc.1)) e1
      obtain ⟨I', f, hR⟩ := outA_ok r e2 hR1
      exact ⟨u, { g with I := I', h := h' }, as_sure hu, rfl, rfl, f.rel, f.mono, hR⟩
  | keep n =>
    cases rv with
    | cell => simp [cRes] at hc
    | tmp t =>
      obtain ⟨rfl, rfl⟩ := M.ret_some e
      exact ⟨_, g, by simp [resOne, Act.eval], rfl, rfl, r, .refl ν g, eval_ok (ν := ν) (x := .tmp t) (a := a) hf (by simpa [cOpd, cRes] using hc)⟩
  | kcell n agg sz =>
    cases rv with
    | tmp => simp [cRes] at hc
    | cell t ty =>
      simp only [cRes, Bool.and_eq_true] at hc
      obtain ⟨rfl, u, hu, hR1⟩ := load_at r hc.2 (eval_ok (ν := ν) (x := .tmp t) hf (by simpa [cOpd] using hc.1)) e
      exact ⟨u, g, as_sure hu, rfl, rfl, r, .refl ν g, hR1⟩

theorem resM_list : ∀ (rvs : List ResultVar) (xs : List IRes) (g : Gh) (a : Act) (fr : Fr) (ys : List AV) (h' : Hp), cRess P rvs xs = true → Rel ν k g → FrR ν g a.tmps fr → (M.mapL (resM fr) xs).run g.h = some (ys, h') →
    ∃ vs g', vs.length = rvs.length ∧ (∀ (j : Nat) (rv : ResultVar) (v : Value), rvs[j]? = some rv → vs[j]? = some v → (resOne a.tmps rv).run P g.w = .ok v g.w) ∧ g'.w = g.w ∧ g'.h = h' ∧ Rel ν k g' ∧ Mono ν g g' ∧ RL ν g' vs ys
  | [], [], g, a, fr, ys, h', _, r, _, e => by
    obtain ⟨rfl, rfl⟩ := M.mapL_nil e
    exact ⟨[], g, rfl, fun j rv v h => by simp at h, rfl, rfl, r, .refl ν g, .nil⟩
  | rv :: rvs, x :: xs, g, a, fr, ys, h', hc, r, hf, e => by
    simp only [cRess, Bool.and_eq_true] at hc
    obtain ⟨y, h1, zs, e1, e2, rfl⟩ := M.mapL_cons e
    obtain ⟨v, g1, q1, q2, q3, q4, q5, q6⟩ := resM_ok r hf hc.1 e1
    obtain ⟨vs, g2, p1, p2, p3, p4, p5, p6, p7⟩ := resM_list rvs xs g1 a fr zs h' hc.2 q4 (hf.mono q5) (by rw [q3]; exact e2)
    refine ⟨v :: vs, g2, by simp [p1], fun j rv' v' hj hv => ?_, p3.trans q2, p4, p5, q5.trans p6, .cons (p6 _ _ q6) p7⟩
    cases j with
    | zero => simp at hj hv; subst hj hv; exact q1
    | succ j => have := p2 j rv' v' (by simpa using hj) (by simpa using hv); rwa [q2] at this
  | [], _ :: _, _, _, _, _, _, hc, _, _, _ => by simp [cRess] at hc
  | _ :: _, [], _, _, _, _, _, hc, _, _, _ => by simp [cRess] at hc

def oneV : List Value → Value
  | [v] => v
  | vs => .tuple vs.toArray
theorem results_run {fn : Func} {tmps : Array Value} {w : World} {rvs : List ResultVar} (hrv : fn.results = rvs.toArray) (h4 : rvs.length ≤ 4) {vs : List Value} (hl : vs.length = rvs.length)
    (h : ∀ (j : Nat) (rv : ResultVar) (v : Value), rvs[j]? = some rv → vs[j]? = some v → (resOne tmps rv).run P w = .ok v w) :
    (results fn tmps).run P w = .ok (oneV vs) w := by
  have hd : (results fn tmps) = (do
      let vs ← fn.results.mapM (resOne tmps)
      pure (if h : vs.size = 1 then vs[0] else .tuple vs)) := by
    have hf : resOne tmps = fun rv => (match rv with | .tmp t => pure (tmps.getD t undef) | .cell a t => do loadVar t (← asAddr (tmps.getD a undef)) : Sem Value) := by
      funext rv; cases rv <;> rfl
    rw [hf]; rfl
  rw [hd, hrv]
  clear hrv
  match rvs, vs, hl, h4, h with
  | [], [], _, _, _ => simp [oneV]
  | [a], [v], _, _, h => simp [oneV, h 0 a v rfl rfl]
  | [a, b], [v, u], _, _, h => simp [oneV, h 0 a v rfl rfl, h 1 b u rfl rfl]
  | [a, b, c], [v, u, x], _, _, h => simp [oneV, h 0 a v rfl rfl, h 1 b u rfl rfl, h 2 c x rfl rfl]
  | [a, b, c, d], [v, u, x, y], _, _, h => simp [oneV, h 0 a v rfl rfl, h 1 b u rfl rfl, h 2 c x rfl rfl, h 3 d y rfl rfl]
  | _ :: _ :: _ :: _ :: _ :: _, _, _, h4, _ => simp at h4

theorem resAll_ok {g : Gh} (r : Rel ν k g) {a : Act} {fr : Fr} (hf : FrR ν g a.tmps fr) {fn : Func} {xs : List IRes} (hc : cRess P fn.results.toList xs = true) (h4 : xs.length ≤ 4) {y : AV} {h' : Hp} (e : (resAll fr xs).run g.h = some (y, h')) :
    ∃ v g', (results fn a.tmps).run P g.w = .ok v g.w ∧ g'.w = g.w ∧ g'.h = h' ∧ Rel ν k g' ∧ Mono ν g g' ∧ RA ν g' v y := by
  have hlen : ∀ {rvs : List ResultVar} {xs : List IRes}, cRess P rvs xs = true → rvs.length = xs.length := by
    intro rvs
    induction rvs with
    | nil => intro xs h; cases xs with | nil => rfl | cons => simp [cRess] at h
    | cons a r ih => intro xs h; cases xs with | nil => simp [cRess] at h | cons x xs => simp only [cRess, Bool.and_eq_true] at h; simp [ih h.2]
  have hn := hlen hc
  have many : ∀ {ys : List AV}, (M.mapL (resM fr) xs).run g.h = some (ys, h') → xs.length ≠ 1 → ∃ v g', (results fn a.tmps).run P g.w = .ok v g.w ∧ g'.w = g.w ∧ g'.h = h' ∧ Rel ν k g' ∧ Mono ν g g' ∧ RA ν g' v (.tup ys) := by
    intro ys e hne
    obtain ⟨vs, g', p1, p2, p3, p4, p5, p6, p7⟩ := resM_list fn.results.toList xs g a fr ys h' hc r hf e
    refine ⟨.tuple vs.toArray, g', ?_, p3, p4, p5, p6, .tup (by simpa using p7.1) fun j v c h1 h2 => p7.2 j v c (by simpa using h1) h2⟩
    rw [results_run (rvs := fn.results.toList) (by simp) (by omega) p1 p2]
    rcases vs with _ | ⟨v, _ | ⟨u, vs⟩⟩
    · rfl
    · exact absurd (hn.symm.trans p1.symm) (by simpa using hne)
    · rfl
  rcases xs with _ | ⟨x, _ | ⟨x2, xs⟩⟩
  · obtain ⟨l, h1, e1, e2⟩ := M.bind_some e
    obtain ⟨rfl, rfl⟩ := M.ret_some e2
    exact many e1 (by simp)
  · rcases hl : fn.results.toList with _ | ⟨rv, _ | ⟨rv2, rvs⟩⟩
    · rw [hl] at hn; simp at hn
    · rw [hl] at hc
      simp only [cRess, Bool.and_true] at hc
      obtain ⟨v, g', q1, q2, q3, q4, q5, q6⟩ := resM_ok r hf hc e
      refine ⟨v, g', ?_, q2, q3, q4, q5, q6⟩
      refine results_run (rvs := [rv]) (vs := [v]) (by rw [← hl]) (by simp) rfl fun j rv' v' hj hv => ?_
      cases j with
      | zero => simp at hj hv; subst hj hv; exact q1
      | succ j => simp at hj
    · rw [hl] at hn; simp at hn
  · obtain ⟨l, h1, e1, e2⟩ := M.bind_some e
    obtain ⟨rfl, rfl⟩ := M.ret_some e2
    exact many e1 (by simp)

end
end Arb

/-
  A COPY OF A ROW: Go's library asks whether the row is nil; the abstract machine does not know, and need not.
-/
namespace Arb
open Go Go.RowKit

def ioMov (d : Nat) (x : Opd) : IOper := ⟨some d, .mov x, none, []⟩
def cpIr (e : Nat) (z : List IV) : List IOper := [⟨some 5, .bsl e z 0 [], none, []⟩, ioMov 6 (.t 0), ⟨some 7, .app e (.t 5) (.t 6), none, []⟩, ioMov 2 (.t 7)]
def cNilQ (P : Program) (nt e : Nat) (b : Oper) : Bool :=
  b.dst == some 4 && Nat.blt 4 nt && (match b.guard with | none => true | _ => false) && (match b.op with | .binOp .eql t (.tmp 3) (.const (.slice none 0 0)) _ => sliceB P t e | _ => false)
def cClone (P : Program) (ν : Nat → Nat) (nt : Nat) (c : Code) (e : Nat) (z : List IV) : Bool :=
  match c with
  | .seq (.region _ o1 false) (.seq (.seq (.region _ o2 false) (.cond (.tmp 4) (.seq (.region _ o3 false) .ret) .skip)) (.seq (.region _ o4 false) .ret)) =>
    cRgn P ν nt false o1 [ioMov 2 (.c (.nsl e))] && (match o2.toList with | [a, b] => cOper P ν nt o2 a (ioMov 3 (.t 0)) && cNilQ P nt e b | _ => false) &&
    cRgn P ν nt false o3 [ioMov 2 (.c (.nsl e))] && cRgn P ν nt false o4 (cpIr e z)
  | _ => false

section
variable {ν : Nat → Nat} {P : Program} {k : Cx}

def noCall : Nat → List AV → Hp → Option (AV × Hp) := fun _ _ _ => none
theorem noCall_sound : CallSound ν P noCall := fun f args hp r hp' e => by simp [noCall] at e

theorem set_set_ge (h : Hp) (n : Nat) (x y : Ob) : GE (set h n y) (set (set h n x) n y) := fun m => by
  by_cases hm : n = m <;> simp [get_set, hm]

theorem Sim.nx {nt : Nat} {g : Gh} {a : Act} {s : St} (m : Sim ν k nt g a s) {fr : Fr} (hf : fr = s.fr) {hp : Hp} (hh : hp = s.hp) (n : Nat) : Sim ν k nt g a ⟨fr, hp, n⟩ := by
  subst hf hh; exact ⟨m.h, m.r, m.f, m.n, m.d⟩

theorem ev_cp1 (e : Nat) (x : AV) (hp : Hp) : evalRgn noCall false [ioMov 2 (.c (.nsl e))] [0] ⟨[(0, x)], hp, 1000⟩ = some ⟨[(0, x)], hp, 1064⟩ := rfl
theorem ev_cp3 (e : Nat) (fr : Fr) (hp : Hp) : evalRgn noCall false [ioMov 2 (.c (.nsl e))] [2] ⟨fr, hp, 1000⟩ = some ⟨keepFr [2] (set fr 2 (.iv (.nsl e))), hp, 1064⟩ := rfl

theorem ev_cp4 {e : Nat} {z : List IV} (hz : z.length = e) {es : List (List IV)} {hp : Hp} (hf : get hp 1000 = none) (hr : roomy es.length = true) :
    evalRgn noCall false (cpIr e z) [2] ⟨[(0, .iv (.sl e es))], hp, 1000⟩ = some ⟨[(2, .own 1000 0 es.length 1)], set (set hp 1000 (.buf 0 e [])) 1000 (.buf 1 e es), 1256⟩ := by
  simp [evalRgn, cpIr, ioMov, evalOps, step, wants, osem, M.run_bind, M.mapL, M.run, M.ok, M.fresh, M.write, hz, hf, putD, Arb.set, ev, get, app, elems, M.look, get_set, setAll, hr, keepFr]

theorem clone_ok {f : Nat} {fn : Func} {c : Code} (hfn : P.funcs[ν f]? = some fn) (hb : fn.body = some c) (hmix : P.follows .mixedOrders = true) {e : Nat} {z : List IV} (hc : cClone P ν fn.ntmps c e z = true)
    (hres : cRess P fn.results.toList [.t 2] = true) {args : List AV} {hp : Hp} {r : AV} {hp' : Hp} (he : (cloneM e args).run hp = some (r, hp')) : CallOK ν P f args hp r hp' := by
  intro k0 g0 cargs hh hkw hki r0 hRL
  unfold cloneM at he
  split at he
  case h_2 => exact (M.fail_some he).elim
  rename_i e' es
  obtain ⟨_, h1, e1, e2⟩ := M.bind_some he
  obtain ⟨hk, rfl⟩ := M.ok_some e1
  simp only [Bool.and_eq_true, beq_iff_eq] at hk
  obtain ⟨rfl, hroom⟩ := hk
  obtain ⟨_, h2, e3, e4⟩ := M.bind_some e2
  obtain ⟨hfr, rfl⟩ := M.fresh_some e3
  obtain ⟨_, h3, e5, e6⟩ := M.bind_some e4
  obtain rfl := M.write_some e5
  obtain ⟨_, h4, e7, e8⟩ := M.bind_some e6
  obtain rfl := M.write_some e7
  obtain ⟨rfl, rfl⟩ := M.ret_some e8
  clear he e1 e2 e3 e4 e5 e6 e7 e8
  obtain ⟨cv, hcv⟩ : ∃ cv, cargs = #[cv] := by
    have := hRL.1
    simp only [List.length_cons, List.length_nil, Nat.zero_add, Array.length_toList] at this
    obtain ⟨l⟩ := cargs
    match l, this with
    | [v], _ => exact ⟨v, rfl⟩
  subst hcv
  have hR0 : RA ν g0 cv (.iv (.sl e' es)) := hRL.2 0 _ _ rfl rfl
  refine calls_of_wp hfn hb ?_
  have m0 : Sim ν k0 fn.ntmps g0 { tmps := #[cv] ++ Array.replicate (fn.ntmps - 1) undef, defers := [] } ⟨[(0, .iv (.sl e' es))], h2, 1000⟩ := by
    refine ⟨hh, r0, fun t x ht => ?_, by simp; omega, rfl⟩
    simp only [get] at ht
    split at ht
    · rename_i h0
      subst h0
      simp only [Option.some.injEq] at ht
      subst ht
      exact ⟨cv, by simp [Array.getElem?_append], hR0⟩
    · cases ht
  unfold cClone at hc
  split at hc
  case h_2 => cases hc
  rename_i i1 o1 i2 o2 i3 o3 i4 o4
  simp only [Bool.and_eq_true] at hc
  obtain ⟨⟨⟨hc1, hc2⟩, hc3⟩, hc4⟩ := hc
  split at hc2
  case h_2 => cases hc2
  rename_i oa ob hl
  simp only [Bool.and_eq_true] at hc2
  obtain ⟨hoa, hob⟩ := hc2
  simp only [cNilQ, Bool.and_eq_true, beq_iff_eq] at hob
  obtain ⟨⟨⟨hbd, hbn⟩, hbg⟩, hbo⟩ := hob
  have hbg' : ob.guard = none := by
    split at hbg
    · assumption
    · cases hbg
  split at hbo
  case h_2 => cases hbo
  rename_i t yt hbop
  obtain ⟨el, ti, hut, -, -⟩ := sliceB_spec hbo
  refine wp_seq (rgn_wp noCall_sound hmix hc1 (ev_cp1 e' (.iv (.sl e' es)) h2) m0 fun g1 a1 m1 hm1 => ?_)
  refine wp_seq (wp_seq (wp_region_list ?_))
  rw [hl]
  refine wpList_step fun K hK => step_wp (slot := 0) (s1 := ⟨[(0, .iv (.sl e' es)), (3, .iv (.sl e' es))], h2, 1064⟩) noCall_sound hoa m1 rfl fun g2 a2 m2 hm2 => hK _ _ ?_
  refine wpList_step fun K2 hK2 => ?_
  simp only [Region.wanted, hbg', if_true]
  obtain ⟨v3, hv3, hR3⟩ := m2.f 3 _ rfl
  have hev : a2.eval (.tmp 3) = v3 := by simp [Act.eval, Array.getD, (Array.getElem?_eq_some_iff.1 hv3).1, (Array.getElem?_eq_some_iff.1 hv3).2]
  obtain ⟨aa, n, cap, hvs, hnil⟩ : ∃ aa n cap, v3 = .slice aa n cap ∧ (aa = none → es = []) := by
    cases hR3 with
    | iv h =>
      cases h with
      | sl0 a cap e => exact ⟨a, 0, cap, rfl, fun _ => rfl⟩
      | sl b off n cap e es f => exact ⟨_, n, cap, rfl, fun h => by cases h⟩
  subst hvs
  have hrun : (execOp a2.eval ob).run P g2.w = .ok (.value (.bool aa.isNone)) g2.w := by
    have hg : eqGuard .eql t (.tmp 3) (.const (.slice none 0 0)) (.slice aa n cap) (.slice none 0 0) = pure () := rfl
    have := Lib.run_eql_slice_nil g2.w t el aa n cap 0 0 hut
    simp only [execOp, hbop, hev, show a2.eval (.const (.slice none 0 0)) = .slice none 0 0 from rfl, hg]
    simp only [Sem.run_bind, Sem.run_pure, Result.andThen_ok, this]
  unfold Oper.wp
  rw [hrun, Oper.upon_value]
  refine hK2 _ _ (wpList_nil ?_)
  have m3 := m2.put (d := some 4) (v := .bool aa.isNone) (y := .iv (.bool aa.isNone)) (fun t ht => by cases ht; simpa using hbn) m2.h m2.r (.refl ν g2) (.iv (.bool _))
  rw [← hbd] at m3
  simp only [Exit.then]
  have hcond : (a2.put ob.dst (.bool aa.isNone)).eval (.tmp 4) = .bool aa.isNone := by
    have := eval_ok (ν := ν) (x := .tmp 4) (y := .t 4) m3.f (by rfl)
    have hev4 : ev (putD [(0, AV.iv (.sl e' es)), (3, .iv (.sl e' es))] ob.dst (.iv (.bool aa.isNone))) (.t 4) = .iv (.bool aa.isNone) := by rw [hbd]; rfl
    rw [hev4] at this
    generalize (a2.put ob.dst (.bool aa.isNone)).eval (.tmp 4) = u at this
    cases this with
    | iv h => cases h; rfl
  refine wp_cond hcond ?_
  have fin : ∀ (g' : Gh) (a' : Act), Sim ν k0 fn.ntmps g' a' ⟨[(2, .own 1000 0 es.length 1)], set (set h2 1000 (.buf 0 e' [])) 1000 (.buf 1 e' es), 1256⟩ → MonoL g0 g' →
      a'.defers = [] ∧ ∃ v, (results fn a'.tmps).run P g'.w = .ok v g'.w ∧ ∃ u g'', Ending.returned v = .returned u ∧ g''.w = g'.w ∧ g''.h = set (set h2 1000 (.buf 0 e' [])) 1000 (.buf 1 e' es) ∧ Rel ν k0 g'' ∧ MonoL g0 g'' ∧
        RA ν g'' u (.own 1000 0 es.length 1) := by
    intro g' a' m' hm
    obtain ⟨v, g'', q1, q2, q3, q4, q5, q6⟩ := resAll_ok (y := .own 1000 0 es.length 1) (h' := set (set h2 1000 (.buf 0 e' [])) 1000 (.buf 1 e' es)) m'.r m'.f hres (by simp) (by
      rw [m'.h]
      simp [resAll, resM, outA, ev, get, M.look, M.bind, M.run, get_set, M.ok])
    exact ⟨m'.d, v, q1, v, g'', rfl, q2, q3, q4, hm.trans q5.low, q6⟩
  cases aa with
  | none =>
    obtain rfl := hnil rfl
    simp only [Option.isNone_none, if_true] at m3 ⊢
    refine wp_seq (rgn_wp noCall_sound hmix hc3 (ev_cp3 e' _ h2) (m3.nx rfl rfl 1000) fun g4 a4 m4 hm4 => wp_ret ?_)
    have hnew := m4.r.new (s := 1000) (ob := .buf 1 e' []) (p := none) (w' := g4.w) (by rw [m4.h]; exact hfr) (Nat.le_refl _) rfl rfl rfl (fun _ _ => rfl) (fun b h => by cases h) fun _ => .inl ⟨updφ_same g4.φ 1000 none, rfl⟩
    have hge : GE (set g4.h 1000 (.buf 1 e' [])) (set (set h2 1000 (.buf 0 e' [])) 1000 (.buf 1 e' [])) := by rw [m4.h]; exact set_set_ge _ _ _ _
    obtain ⟨r5, hm5⟩ := Rel.he hnew.1 hge
    refine fin { g4 with φ := updφ g4.φ 1000 none, h := set (set h2 1000 (.buf 0 e' [])) 1000 (.buf 1 e' []) } a4 ⟨rfl, r5, fun t x ht => ?_, m4.n, m4.d⟩ ((((hm1.trans hm2).trans hm4).trans hnew.2).trans hm5).low
    simp only [get] at ht
    split at ht
    · rename_i h2'
      subst h2'
      simp only [Option.some.injEq] at ht
      subst ht
      obtain ⟨u, hu, hRu⟩ := m4.f 2 (.iv (.nsl e')) (by rw [hbd]; rfl)
      refine ⟨u, hu, ?_⟩
      cases hRu with
      | iv h =>
        cases h with
        | nsl a e =>
          refine .own rfl ?_
          unfold OwnAt
          simp only [get_set_same, updφ_same]
          exact ⟨Nat.le_refl _, fun _ => ⟨⟨a, rfl⟩, rfl⟩⟩
    · cases ht
  | some ad =>
    simp only [Option.isNone_some, Bool.false_eq_true, if_false] at m3 ⊢
    refine wp_skip ?_
    simp only [Exit.then]
    have m3' : Sim ν k0 fn.ntmps g2 (a2.put ob.dst (.bool false)) ⟨[(0, .iv (.sl e' es))], h2, 1000⟩ := ⟨m3.h, m3.r, fun t x ht => m3.f t x (by
      simp only [get] at ht
      split at ht
      · rename_i h0; subst h0; rw [hbd]; exact ht
      · cases ht), m3.n, m3.d⟩
    have hz : z.length = e' := by
      simp only [cRgn, Bool.and_eq_true] at hc4
      have := (cOpers_get hc4.1)
      have hlen := this.1
      have h0 := this.2 0 (o4.toList[0]'(by rw [hlen]; simp [cpIr])) _ (List.getElem?_eq_getElem _) rfl
      simp only [cOper, Bool.and_eq_true] at h0
      have h1 := h0.2
      simp only [cOp] at h1
      split at h1
      · simp only [Bool.and_eq_true, bslB] at h1
        have h2 := h1.1.2
        split at h2
        · simp only [Bool.and_eq_true, beq_iff_eq] at h2
          exact h2.1.2
        · cases h2
      · cases h1
    refine wp_seq (rgn_wp noCall_sound hmix hc4 (ev_cp4 hz hfr hroom) m3' fun g4 a4 m4 hm4 => wp_ret ?_)
    exact fin g4 a4 m4 ((hm1.trans hm2).trans hm4).low
end
end Arb

/-
  A FUNCTION: from its call to what it answers; then every function of a program, at every depth.
-/
namespace Arb
open Go Go.RowKit

section
variable {ν : Nat → Nat} {P : Program} {k : Cx}

def cFn (P : Program) (ν : Nat → Nat) (fn : Func) (c : Code) (ir : IFn) : Bool :=
  (match ir.cl with | some p => cClone P ν fn.ntmps c p.1 p.2 && cRess P fn.results.toList [.t 2] | none => cCode P ν fn.ntmps c ir.body) && cRess P fn.results.toList ir.res && Nat.ble ir.res.length 4

def Tie (P : Program) (ν : Nat → Nat) (prog : Nat → Option IFn) : Prop :=
  ∀ f ir, prog f = some ir → ∃ fn c, P.funcs[ν f]? = some fn ∧ fn.body = some c ∧ (fn.name == "runtime.NumGoroutine") = false ∧ cFn P ν fn c ir = true

theorem params_get : ∀ (l : List AV) (i t : Nat), get (params l i) t = if i ≤ t then l[t - i]? else none
  | [], i, t => by simp [params, get]
  | x :: r, i, t => by
    simp only [params, get]
    by_cases h : i = t
    · subst h; simp
    · rw [if_neg h, params_get r (i + 1) t]
      by_cases h' : i + 1 ≤ t
      · rw [if_pos h', if_pos (by omega)]
        have : t - i = (t - (i + 1)) + 1 := by omega
        rw [this]; simp
      · rw [if_neg h', if_neg (by omega)]

theorem sound (hmix : P.follows .mixedOrders = true) {prog : Nat → Option IFn} (tie : Tie P ν prog) : ∀ n, CallSound ν P (evalF prog n) := by
  intro n
  induction n with
  | zero => intro f args hp r hp' e; simp [evalF] at e
  | succ n ih =>
    intro f args hp r hp' e
    simp only [evalF] at e
    cases hf : prog f with
    | none => rw [hf] at e; cases e
    | some ir =>
      rw [hf] at e
      simp only [] at e
      obtain ⟨fn, c, hfn, hb, hnm, hcf⟩ := tie f ir hf
      refine ⟨⟨fn, hfn, by simp [hb], hnm⟩, ?_⟩
      simp only [cFn, Bool.and_eq_true, Nat.ble_eq] at hcf
      cases hcl : ir.cl with
      | some p =>
        rw [hcl] at e hcf
        simp only [Bool.and_eq_true] at hcf
        exact clone_ok hfn hb hmix hcf.1.1.1 hcf.1.1.2 e
      | none =>
      rw [hcl] at e hcf
      simp only [] at e hcf
      split at e
      · rename_i hlen
        intro k0 g0 cargs hh hkw hki r0 hRL
        refine calls_of_wp hfn hb ?_
        have m0 : Sim ν k0 fn.ntmps g0 { tmps := cargs ++ Array.replicate (fn.ntmps - cargs.size) undef, defers := [] } ⟨params args 0, hp, 1000⟩ := by
          refine ⟨hh, r0, fun t x ht => ?_, by simp; omega, rfl⟩
          simp only [params_get, Nat.zero_le, if_true, Nat.sub_zero] at ht
          have hlt : t < cargs.size := by have := hRL.1; have := lt_of_some ht; simp only [Array.length_toList] at *; omega
          refine ⟨cargs[t], by simp [Array.getElem?_append, hlt], hRL.2 t _ _ (by simp [hlt]) ht⟩
        cases he : evalC (evalF prog n) n ir.body ⟨params args 0, hp, 1000⟩ with
        | none => rw [he] at e; cases e
        | some p =>
          obtain ⟨ex, s⟩ := p
          rw [he] at e
          have fin : ∀ (g' : Gh) (a' : Act), Sim ν k0 fn.ntmps g' a' s → MonoL g0 g' → (resAll s.fr ir.res).run s.hp = some (r, hp') → a'.defers = [] ∧ ∃ v, (results fn a'.tmps).run P g'.w = .ok v g'.w ∧
              ∃ u g'', Ending.returned v = .returned u ∧ g''.w = g'.w ∧ g''.h = hp' ∧ Rel ν k0 g'' ∧ MonoL g0 g'' ∧ RA ν g'' u r := by
            intro g' a' m' hm hr
            obtain ⟨v, g'', q1, q2, q3, q4, q5, q6⟩ := resAll_ok m'.r m'.f hcf.1.2 hcf.2 (by rw [m'.h]; exact hr)
            exact ⟨m'.d, v, q1, v, g'', rfl, q2, q3, q4, hm.trans q5.low, q6⟩
          refine code_wp ih hmix ir.body c hcf.1.1 g0 _ _ ex s he m0 _ fun g' a' m' hm => ?_
          cases ex with
          | norm => exact fin g' a' m' hm e
          | ret => exact fin g' a' m' hm e
          | exit i => cases e
      · cases e
end
end Arb

/-
  HOW THE ABSTRACT MACHINE IS WALKED: what a piece of code comes to, with rounds enough.
-/
namespace Arb
open Go

section
variable {prog : Nat → Option IFn}

/-- a call's answer, with what it leaves -/
def Ev (prog : Nat → Option IFn) (f : Nat) (args : List AV) (hp : Hp) (p : AV × Hp) : Prop := ∃ K, ∀ n, K ≤ n → evalF prog n f args hp = some p
/-- a call's answer, as a value behind which nothing of anybody's own stands -/
def Ans (prog : Nat → Option IFn) (f : Nat) (args : List AV) (y : AV) : Prop := ∃ K, ∀ n, K ≤ n → (evalF prog n f args []).bind shut = some y
/-- the code comes to an end for which Q holds -/
def Wp (prog : Nat → Option IFn) (c : IC) (s : St) (Q : Ex → St → Prop) : Prop := ∃ K ex s', (∀ n, K ≤ n → evalC (evalF prog n) n c s = some (ex, s')) ∧ Q ex s'

def Ex.then (k : St → Prop) (Q : Ex → St → Prop) : Ex → St → Prop
  | .norm, s => k s
  | e, s => Q e s
def Ex.inBlock (id : Nat) (Q : Ex → St → Prop) : Ex → St → Prop
  | .exit i, s => if i = id then Q .norm s else Q (.exit i) s
  | e, s => Q e s

theorem Wp.mono {c : IC} {s : St} {Q Q' : Ex → St → Prop} (h : Wp prog c s Q) (hq : ∀ e s, Q e s → Q' e s) : Wp prog c s Q' := by
  obtain ⟨K, ex, s', h, q⟩ := h
  exact ⟨K, ex, s', h, hq _ _ q⟩

theorem Wp.skip {s : St} {Q : Ex → St → Prop} (h : Q .norm s) : Wp prog .skip s Q := ⟨0, _, _, fun _ _ => rfl, h⟩
theorem Wp.exit {id : Nat} {s : St} {Q : Ex → St → Prop} (h : Q (.exit id) s) : Wp prog (.exit id) s Q := ⟨0, _, _, fun _ _ => rfl, h⟩
theorem Wp.ret {s : St} {Q : Ex → St → Prop} (h : Q .ret s) : Wp prog .ret s Q := ⟨0, _, _, fun _ _ => rfl, h⟩

theorem Wp.seq {a b : IC} {s : St} {Q : Ex → St → Prop} (h : Wp prog a s (Ex.then (fun s' => Wp prog b s' Q) Q)) : Wp prog (.seq a b) s Q := by
  obtain ⟨K, ex, s', h, q⟩ := h
  cases ex with
  | norm =>
    obtain ⟨K2, ex2, s2, h2, q2⟩ := q
    exact ⟨max K K2, ex2, s2, fun n hn => by simp only [evalC, h n (by omega), h2 n (by omega)], q2⟩
  | exit i => exact ⟨K, _, _, fun n hn => by simp only [evalC, h n hn], q⟩
  | ret => exact ⟨K, _, _, fun n hn => by simp only [evalC, h n hn], q⟩

theorem Wp.cond {c : Opd} {a b : IC} {s : St} {Q : Ex → St → Prop} {t : Bool} (hc : ev s.fr c = .iv (.bool t)) (h : Wp prog (if t then a else b) s Q) : Wp prog (.cond c a b) s Q := by
  obtain ⟨K, ex, s', h, q⟩ := h
  refine ⟨K, ex, s', fun n hn => ?_, q⟩
  have := h n hn
  cases t <;> simpa [evalC, hc] using this

theorem Wp.block {id : Nat} {b : IC} {s : St} {Q : Ex → St → Prop} (h : Wp prog b s (Ex.inBlock id Q)) : Wp prog (.block id b) s Q := by
  obtain ⟨K, ex, s', h, q⟩ := h
  cases ex with
  | norm => exact ⟨K, _, _, fun n hn => by simp only [evalC, h n hn], q⟩
  | ret => exact ⟨K, _, _, fun n hn => by simp only [evalC, h n hn], q⟩
  | exit i =>
    simp only [Ex.inBlock] at q
    by_cases hi : i = id
    · rw [if_pos hi] at q
      exact ⟨K, .norm, s', fun n hn => by simp only [evalC, h n hn, if_pos hi], q⟩
    · rw [if_neg hi] at q
      exact ⟨K, .exit i, s', fun n hn => by simp only [evalC, h n hn, if_neg hi], q⟩

theorem Wp.rgn {draw : Bool} {ops : List IOper} {keep : List Nat} {s s' : St} {Q : Ex → St → Prop} {K : Nat} (h : ∀ n, K ≤ n → evalRgn (evalF prog n) draw ops keep s = some s') (q : Q .norm s') : Wp prog (.rgn draw ops keep) s Q :=
  ⟨K, _, _, fun n hn => by simp only [evalC, h n hn, Option.map_some], q⟩

theorem Wp.loop {keep : List Nat} {b : IC} {s : St} {Q : Ex → St → Prop} (I : Nat → St → Prop) {m : Nat} (h0 : I m { s with fr := keepFr keep s.fr })
    (round : ∀ m s1, I m s1 → Wp prog b s1 (Ex.then (fun s2 => ∃ j, j < m ∧ I j (again keep s.nx s2)) Q)) : Wp prog (.loop keep b) s Q := by
  have key : ∀ m s1, I m s1 → ∃ K ex s', (∀ n, K ≤ n → ∀ j, K ≤ j → iter (evalC (evalF prog n) n b) keep s.nx j s1 = some (ex, s')) ∧ Q ex s' := by
    intro m
    induction m using Nat.strongRecOn with
    | _ m ih =>
      intro s1 hI
      obtain ⟨K, ex, s2, h, q⟩ := round m s1 hI
      cases ex with
      | norm =>
        obtain ⟨j, hj, hIj⟩ := q
        obtain ⟨K2, ex2, s3, h2, q2⟩ := ih j hj _ hIj
        refine ⟨max K K2 + 1, ex2, s3, fun n hn i hi => ?_, q2⟩
        obtain ⟨i, rfl⟩ : ∃ i', i = i' + 1 := ⟨i - 1, by omega⟩
        simp only [iter, h n (by omega)]
        exact h2 n (by omega) i (by omega)
      | exit e =>
        refine ⟨K + 1, .exit e, s2, fun n hn i hi => ?_, q⟩
        obtain ⟨i, rfl⟩ : ∃ i', i = i' + 1 := ⟨i - 1, by omega⟩
        simp only [iter, h n (by omega)]
      | ret =>
        refine ⟨K + 1, .ret, s2, fun n hn i hi => ?_, q⟩
        obtain ⟨i, rfl⟩ : ∃ i', i = i' + 1 := ⟨i - 1, by omega⟩
        simp only [iter, h n (by omega)]
  obtain ⟨K, ex, s', h, q⟩ := key m _ h0
  exact ⟨K, ex, s', fun n hn => by simp only [evalC]; exact h n hn n hn, q⟩

/-- the end of a function -/
def Fin (res : List IRes) (p : AV × Hp) : Ex → St → Prop
  | .norm, s | .ret, s => (resAll s.fr res).run s.hp = some p
  | _, _ => False
theorem Ev.of {f : Nat} {fn : IFn} (hf : prog f = some fn) (hcl : fn.cl = none) {args : List AV} (hn : args.length = fn.np) {hp : Hp} {p : AV × Hp} (h : Wp prog fn.body ⟨params args 0, hp, 1000⟩ (Fin fn.res p)) : Ev prog f args hp p := by
  obtain ⟨K, ex, s', h, q⟩ := h
  refine ⟨K + 1, fun n hn' => ?_⟩
  obtain ⟨n, rfl⟩ : ∃ n', n = n' + 1 := ⟨n - 1, by omega⟩
  simp only [evalF, hf, hcl, if_pos hn, h n (by omega)]
  cases ex with
  | norm => exact q
  | ret => exact q
  | exit i => exact q.elim
def FinS (res : List IRes) (y : AV) : Ex → St → Prop
  | .norm, s | .ret, s => ((resAll s.fr res).run s.hp).bind shut = some y
  | _, _ => False
theorem Ans.of {f : Nat} {fn : IFn} (hf : prog f = some fn) (hcl : fn.cl = none) {args : List AV} (hn : args.length = fn.np) {y : AV} (h : Wp prog fn.body ⟨params args 0, [], 1000⟩ (FinS fn.res y)) : Ans prog f args y := by
  obtain ⟨K, ex, s', h, q⟩ := h
  refine ⟨K + 1, fun n hn' => ?_⟩
  obtain ⟨n, rfl⟩ : ∃ n', n = n' + 1 := ⟨n - 1, by omega⟩
  simp only [evalF, hf, hcl, if_pos hn, h n (by omega)]
  cases ex with
  | norm => exact q
  | ret => exact q
  | exit i => exact q.elim
end
end Arb

/-
  MORE ROUNDS CHANGE NOTHING.
-/
namespace Arb
open Go

abbrev CallF := Nat → List AV → Hp → Option (AV × Hp)
def Cle (c c' : CallF) : Prop := ∀ f as hp p, c f as hp = some p → c' f as hp = some p
def Mle {α : Type} (m m' : M α) : Prop := ∀ h p, m.run h = some p → m'.run h = some p ∧ m'.foot h = m.foot h
theorem Mle.refl {α : Type} (m : M α) : Mle m m := fun _ _ e => ⟨e, rfl⟩
theorem M.foot_bind {α β : Type} (m : M α) (f : α → M β) (h : Hp) : (m.bind f).foot h = match m.run h with
    | some (a, h1) => ((m.foot h).1 ++ ((f a).foot h1).1, ((f a).foot h1).2 ++ (m.foot h).2)
    | none => m.foot h := by
  induction m generalizing h with
  | ret a => simp [M.bind, M.run, M.foot]
  | fail => simp [M.bind, M.run, M.foot]
  | get id k ih =>
    simp only [M.bind, M.run, M.foot, ih]
    cases (k (Arb.get h id)).run h <;> simp
  | put id o k ih =>
    simp only [M.bind, M.run, M.foot, ih]
    cases k.run (Arb.set h id o) <;> simp
theorem Mle.bind {α β : Type} {m m' : M α} {f f' : α → M β} (h : Mle m m') (hf : ∀ a, Mle (f a) (f' a)) : Mle (m.bind f) (m'.bind f') := by
  intro g p e
  obtain ⟨a, h1, e1, e2⟩ := M.bind_some e
  obtain ⟨q1, q2⟩ := h _ _ e1
  obtain ⟨q3, q4⟩ := hf a _ _ e2
  refine ⟨by rw [M.run_bind, q1]; exact q3, ?_⟩
  rw [M.foot_bind, M.foot_bind, q1, e1]
  simp only [q2, q4]
theorem Mle.lift {α : Type} {x y : Option α} (h : ∀ a, x = some a → y = some a) : Mle (M.lift x) (M.lift y) := by
  cases x with
  | none => intro g p e; exact (M.fail_some e).elim
  | some a => rw [h a rfl]; exact .refl _

theorem osem_le {c c' : CallF} (h : Cle c c') {slot : Nat} {ρ : Opd → AV} (op : IOp) : Mle (osem c slot ρ op) (osem c' slot ρ op) := by
  cases op <;> first | exact .refl _ | skip
  rename_i mode f args
  simp only [osem]
  match mode with
  | 0 =>
    refine .bind (.refl _) fun q => .bind (.refl _) fun as => .bind (.lift fun a ha => ?_) fun r => .refl _
    simp only [Option.bind_eq_some_iff] at ha ⊢
    obtain ⟨p, h1, h2⟩ := ha
    exact ⟨p, h _ _ _ _ h1, h2⟩
  | 1 => exact .bind (.refl _) fun q => .bind (.refl _) fun _ => .bind (.refl _) fun as => .bind (.refl _) fun os => .bind (.lift fun p hp => h _ _ _ _ hp) fun p => .refl _
  | 2 => exact .bind (.refl _) fun q => .bind (.refl _) fun as => .bind (.lift fun p hp => h _ _ _ _ hp) fun p => .refl _
  | 4 => exact .bind (.refl _) fun q => .bind (.refl _) fun _ => .bind (.refl _) fun _ => .bind (.lift fun p hp => h _ _ _ _ hp) fun p => .refl _
  | 3 | _ + 5 =>
    refine .bind (.refl _) fun q => .bind (.refl _) fun as => .lift fun a ha => ?_
    simp only [Option.bind_eq_some_iff] at ha ⊢
    obtain ⟨p, h1, h2⟩ := ha
    exact ⟨p, h _ _ _ _ h1, h2⟩

theorem step_le {c c' : CallF} (h : Cle c c') {slot : Nat} {o : IOper} {s s1 : St} (e : step c slot o s = some s1) : step c' slot o s = some s1 ∧ footOf c' slot o s = footOf c slot o s := by
  unfold step at e ⊢
  unfold footOf
  split at e
  · rename_i hw
    cases hr : (osem c slot (ev s.fr) o.op).run s.hp with
    | none => rw [hr] at e; cases e
    | some p =>
      obtain ⟨q1, q2⟩ := osem_le h o.op _ _ hr
      rw [hr] at e
      rw [hw, q1]
      exact ⟨e, q2⟩
  · rename_i hw
    rw [hw]
    exact ⟨e, rfl⟩
  · cases e

theorem ops_le {c c' : CallF} (h : Cle c c') : ∀ (ops : List IOper) (slot : Nat) (s s1 : St), evalOps c ops slot s = some s1 → evalOps c' ops slot s = some s1 ∧ evalFeet c' ops slot s = evalFeet c ops slot s
  | [], slot, s, s1, e => ⟨e, rfl⟩
  | o :: r, slot, s, s1, e => by
    simp only [evalOps, evalFeet] at e ⊢
    cases h1 : step c slot o s with
    | none => rw [h1] at e; cases e
    | some s2 =>
      obtain ⟨q1, q2⟩ := step_le h h1
      rw [h1] at e
      rw [q1]
      obtain ⟨q3, q4⟩ := ops_le h r _ _ _ e
      exact ⟨q3, by simp only [q2, q4]⟩

theorem rgn_le {c c' : CallF} (h : Cle c c') {draw : Bool} {ops : List IOper} {keep : List Nat} {s s1 : St} (e : evalRgn c draw ops keep s = some s1) : evalRgn c' draw ops keep s = some s1 := by
  unfold evalRgn at e ⊢
  cases h1 : evalOps c ops s.nx s with
  | none => rw [h1] at e; cases e
  | some s2 =>
    obtain ⟨q1, q2⟩ := ops_le h ops _ _ _ h1
    rw [h1] at e
    rw [q1, q2]
    exact e

theorem iter_le {f f' : St → Option (Ex × St)} (h : ∀ s r, f s = some r → f' s = some r) {keep : List Nat} {n0 : Nat} : ∀ (m m' : Nat) (s : St) (r : Ex × St), m ≤ m' → iter f keep n0 m s = some r → iter f' keep n0 m' s = some r
  | 0, _, s, r, _, e => by simp [iter] at e
  | m + 1, m', s, r, hm, e => by
    obtain ⟨m', rfl⟩ : ∃ k, m' = k + 1 := ⟨m' - 1, by omega⟩
    simp only [iter] at e ⊢
    cases h1 : f s with
    | none => rw [h1] at e; cases e
    | some p =>
      obtain ⟨ex, s1⟩ := p
      rw [h1] at e
      rw [h _ _ h1]
      cases ex with
      | norm => exact iter_le h m m' _ r (by omega) e
      | exit i => exact e
      | ret => exact e

theorem code_le {c c' : CallF} (h : Cle c c') {n n' : Nat} (hn : n ≤ n') : ∀ (ic : IC) (s : St) (r : Ex × St), evalC c n ic s = some r → evalC c' n' ic s = some r := by
  intro ic
  induction ic with
  | skip => exact fun s r e => e
  | exit id => exact fun s r e => e
  | ret => exact fun s r e => e
  | rgn draw ops keep =>
    intro s r e
    simp only [evalC, Option.map_eq_some_iff] at e ⊢
    obtain ⟨s1, h1, h2⟩ := e
    exact ⟨s1, rgn_le h h1, h2⟩
  | seq a b iha ihb =>
    intro s r e
    simp only [evalC] at e ⊢
    cases h1 : evalC c n a s with
    | none => rw [h1] at e; cases e
    | some p =>
      obtain ⟨ex, s1⟩ := p
      rw [h1] at e
      rw [iha _ _ h1]
      cases ex with
      | norm => exact ihb _ _ e
      | exit i => exact e
      | ret => exact e
  | cond d a b iha ihb =>
    intro s r e
    simp only [evalC] at e ⊢
    generalize ev s.fr d = v at e
    split at e
    · rename_i t
      cases t with
      | true => exact iha _ _ e
      | false => exact ihb _ _ e
    · cases e
  | block id b ih =>
    intro s r e
    simp only [evalC] at e ⊢
    cases h1 : evalC c n b s with
    | none => rw [h1] at e; cases e
    | some p =>
      rw [h1] at e
      rw [ih _ _ h1]
      exact e
  | loop keep b ih =>
    intro s r e
    simp only [evalC] at e ⊢
    exact iter_le ih n n' _ r hn e

theorem evalF_le {prog : Nat → Option IFn} : ∀ (n n' : Nat), n ≤ n' → Cle (evalF prog n) (evalF prog n')
  | 0, _, _ => fun f as hp p e => by simp [evalF] at e
  | n + 1, n', hn => by
    obtain ⟨n', rfl⟩ : ∃ k, n' = k + 1 := ⟨n' - 1, by omega⟩
    have ih := evalF_le (prog := prog) n n' (by omega)
    intro f as hp p e
    simp only [evalF] at e ⊢
    cases hf : prog f with
    | none => rw [hf] at e; cases e
    | some fn =>
      rw [hf] at e
      simp only [] at e ⊢
      cases hcl : fn.cl with
      | some q => rw [hcl] at e; exact e
      | none =>
        rw [hcl] at e
        simp only [] at e ⊢
        split at e
        · rename_i hl
          rw [if_pos hl]
          cases h1 : evalC (evalF prog n) n fn.body ⟨params as 0, hp, 1000⟩ with
          | none => rw [h1] at e; cases e
          | some q =>
            rw [h1] at e
            rw [code_le ih (by omega) _ _ _ h1]
            exact e
        · cases e

theorem Ev.at {prog : Nat → Option IFn} {n f : Nat} {args : List AV} {hp : Hp} {p : AV × Hp} (e : evalF prog n f args hp = some p) : Ev prog f args hp p := ⟨n, fun m hm => evalF_le n m hm _ _ _ _ e⟩
end Arb
