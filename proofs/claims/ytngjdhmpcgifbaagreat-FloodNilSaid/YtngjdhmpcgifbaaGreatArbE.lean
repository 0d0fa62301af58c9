/-
  A REGION's OPERATIONS, in the text's order and in every other that the program allows.
-/
import Derived.Scope
import Derived.WalkKit
import Derived.ProofKit
import Derived.OpenShut
import Derived.WalkLawsBesides
import Derived.WalkSpells
import Derived.Maps.RangeRun
import Derived.IntWalk
import Derived.Below
import Derived.Test.YtngjdhmpcgifbaaGreatArbA
import Derived.Test.YtngjdhmpcgifbaaGreatArbB
import Derived.Test.YtngjdhmpcgifbaaGreatArbC
import Derived.Test.YtngjdhmpcgifbaaGreatArbD
namespace Arx
open Go Go.RowKit Arb

section
variable {ν : Nat → Nat} {P : Program} {k : Cx}

structure Sim (ν : Nat → Nat) (k : Cx) (nt : Nat) (g : Gh) (a : Act) (s : St) : Prop where
  h : g.h = s.hp
  r : Rel ν k g
  f : FrR ν g a.tmps s.fr
  n : nt ≤ a.tmps.size
  d : a.defers = []

theorem Sim.like {nt : Nat} {g : Gh} {a : Act} {s s' : St} (m : Sim ν k nt g a s) (e : SE s s') : Sim ν k nt g a s' :=
  ⟨m.h.trans e.2.1, m.r, fun t x ht => m.f t x ((e.1 t).trans ht), m.n, m.d⟩

theorem Sim.put {nt : Nat} {g g' : Gh} {a : Act} {s : St} (m : Sim ν k nt g a s) {h' : Hp} {nx' : Nat} {v : Value} {y : AV} {d : Option Nat} (hd : ∀ t, d = some t → t < nt) (hh : g'.h = h') (r' : Rel ν k g') (hm : Mono ν g g')
    (hv : RA ν g' v y) : Sim ν k nt g' (a.put d v) { fr := putD s.fr d y, hp := h', nx := nx' } := by
  refine ⟨hh, r', ?_, ?_, ?_⟩
  · cases d with
    | none => exact m.f.mono hm
    | some d =>
      intro t x ht
      simp only [putD, get_set] at ht
      have hlt : d < a.tmps.size := Nat.lt_of_lt_of_le (hd d rfl) m.n
      by_cases hdt : d = t
      · subst hdt
        simp only [if_true, Option.some.injEq] at ht
        subst ht
        exact ⟨v, by simp [Act.put, hlt], hv⟩
      · rw [if_neg hdt] at ht
        obtain ⟨u, h1, h2⟩ := m.f t x ht
        exact ⟨u, by simp [Act.put, Array.getElem?_setIfInBounds_ne hdt, h1], hm _ _ h2⟩
  · cases d with
    | none => exact m.n
    | some d => simpa [Act.put] using m.n
  · cases d with
    | none => exact m.d
    | some d => exact m.d

def cOper (P : Program) (ν : Nat → Nat) (nt : Nat) (ops : Array Oper) (o : Oper) (io : IOper) : Bool :=
  o.dst == io.dst && (match io.dst with | some d => Nat.blt d nt | none => true) &&
  (match o.guard, io.gd with | none, none => true | some (j, b), some (t, c) => b == c && (ops[j]?).bind (·.dst) == some t | _, _ => false) && cOp P ν o.op io.op

theorem wanted_spec {g : Gh} {a : Act} {s : St} {nt : Nat} (m : Sim ν k nt g a s) {ops : Array Oper} {o : Oper} {io : IOper} (hc : cOper P ν nt ops o io = true) {b : Bool} (h : wants s.fr io.gd = some b) :
    Region.wanted o (yielded ops a.tmps) = b := by
  simp only [cOper, Bool.and_eq_true] at hc
  obtain ⟨⟨_, hg⟩, _⟩ := hc
  unfold Region.wanted
  split at hg
  · rename_i h1 h2
    rw [h2] at h; simp only [wants, Option.some.injEq] at h
    rw [h1]; exact h
  · rename_i j want t c h1 h2
    simp only [Bool.and_eq_true, beq_iff_eq] at hg
    obtain ⟨rfl, hj⟩ := hg
    rw [h2] at h
    simp only [h1, yielded, hj, Option.bind_some]
    simp only [wants] at h
    split at h
    · rename_i c' hget
      obtain ⟨v, hv, hR⟩ := m.f _ _ hget
      cases hR with
      | iv hI => cases hI with
        | bool => simp only [Option.some.injEq] at h; subst h; rw [hv]; cases c' <;> cases want <;> rfl
    · rename_i hget
      obtain ⟨v, hv, hR⟩ := m.f _ _ hget
      cases hR with
      | tup hn _ => simp only [Option.some.injEq] at h; subst h; rw [hv]; rfl
    · cases h
  · cases hg

theorem step_wp {c1 : Call1} {cx : CallX} (hs : Arb.CallSound ν P c1) (hx : CallSound ν P cx) {nt : Nat} {ops : Array Oper} {o : Oper} {io : IOper} (hc : cOper P ν nt ops o io = true) {g : Gh} {a : Act} {s s1 : St} (m : Sim ν k nt g a s)
    {slot : Nat} (e : step c1 cx slot io s = some s1) {next : Act → World → Prop} {Q : Exit → Act → World → Prop} (hn : ∀ g' a', Sim ν k nt g' a' s1 → Mono ν g g' → next a' g'.w) :
    if Region.wanted o (yielded ops a.tmps) then o.wp P a g.w next Q else next (a.put o.dst undef) g.w := by
  have hc' := hc
  simp only [cOper, Bool.and_eq_true, beq_iff_eq] at hc'
  obtain ⟨⟨⟨hd, hlt⟩, -⟩, hop⟩ := hc'
  have hdn : ∀ t, io.dst = some t → t < nt := by
    intro t ht
    rw [ht] at hlt; simpa [Nat.blt_eq] using hlt
  unfold step at e
  split at e
  · rename_i hw
    rw [wanted_spec m hc hw, if_pos rfl]
    cases hsc : isS io.op with
    | some fa =>
      rw [hsc] at e
      simp only [] at e
      obtain ⟨f', args'⟩ := fa
      have hio : io.op = .scall f' args' := by
        generalize io.op = op at hsc
        cases op <;> simp [isS] at hsc
        obtain ⟨rfl, rfl⟩ := hsc; rfl
      rw [hio] at hop
      unfold cOp at hop
      simp only [] at hop
      split at hop
      case h_2 => cases hop
      rename_i fo cargs tys ho
      simp only [Bool.and_eq_true] at hop
      have hfv := eval_ok m.f hop.1
      have hR := args_ok m.f hop.2
      cases hcl : callee (ev s.fr f') with
      | none => rw [hcl] at e; cases e
      | some q =>
        rw [hcl] at e
        simp only [] at e
        cases hr : cx q.1 (q.2.1 ++ (args'.map (ev s.fr) ++ q.2.2)) s.hp s.nx with
        | none => rw [hr] at e; cases e
        | some p =>
          obtain ⟨y, h1, n1⟩ := p
          rw [hr] at e
          simp only [Option.some.injEq] at e
          subst e
          obtain ⟨first, caps, hfe, hfirst, hcaps⟩ := callee_ok hcl hfv
          obtain ⟨⟨fn, hfn, hb, hnm⟩, hok⟩ := hx _ _ _ _ _ _ _ hr
          refine wp_call ho (h' := h1) (y := y) ⟨q.1, first, caps, fn, hfe, hfn, hb, hnm, hok k g _ m.h m.r (args_all hfirst hcaps hR)⟩ fun g' v hh r' hm hR' => ?_
          rw [hd]
          exact hn g' _ (m.put hdn hh r' hm hR') hm
    | none =>
      rw [hsc] at e
      simp only [] at e
      cases hr : (osem c1 slot (ev s.fr) io.op).run s.hp with
      | none => rw [hr] at e; cases e
      | some p =>
        obtain ⟨y, h1⟩ := p
        rw [hr] at e
        simp only [Option.some.injEq] at e
        subst e
        refine op_wp hs hop m.r m.f (slot := slot) (y := y) (h' := h1) (by rw [m.h]; exact hr) fun g' v hh r' hm hR => ?_
        rw [hd]
        exact hn g' _ (m.put hdn hh r' hm hR) hm
  · rename_i hw
    rw [wanted_spec m hc hw, if_neg (by simp)]
    simp only [Option.some.injEq] at e
    subst e
    rw [hd]
    exact hn g _ (m.put hdn m.h m.r (.refl ν g) (.tup rfl fun j v c h => by simp at h)) (.refl ν g)
  · cases e

def cOpers (P : Program) (ν : Nat → Nat) (nt : Nat) (ops : Array Oper) : List Oper → List IOper → Bool
  | [], [] => true
  | o :: r, io :: ir => cOper P ν nt ops o io && cOpers P ν nt ops r ir
  | _, _ => false
theorem cOpers_get {nt : Nat} {ops : Array Oper} : ∀ {l : List Oper} {il : List IOper}, cOpers P ν nt ops l il = true → l.length = il.length ∧ ∀ (i : Nat) (o : Oper) (io : IOper), l[i]? = some o → il[i]? = some io → cOper P ν nt ops o io = true
  | [], [], _ => ⟨rfl, fun i o io h => by simp at h⟩
  | o :: r, io :: ir, h => by
    simp only [cOpers, Bool.and_eq_true] at h
    obtain ⟨h1, h2⟩ := cOpers_get h.2
    refine ⟨by simp [h1], fun i o' io' e1 e2 => ?_⟩
    cases i with
    | zero => simp at e1 e2; subst e1 e2; exact h.1
    | succ i => exact h2 i o' io' (by simpa using e1) (by simpa using e2)
  | [], _ :: _, h => by simp [cOpers] at h
  | _ :: _, [], h => by simp [cOpers] at h

theorem ops_text {c1 : Call1} {cx : CallX} (hs : Arb.CallSound ν P c1) (hx : CallSound ν P cx) {nt : Nat} {ops : Array Oper} {Q : Exit → Act → World → Prop} : ∀ (l : List Oper) (il : List IOper) (slot : Nat) (g : Gh) (a : Act) (s s' : St),
    cOpers P ν nt ops l il = true → evalOps c1 cx il slot s = some s' → Sim ν k nt g a s → (∀ g' a', Sim ν k nt g' a' s' → Mono ν g g' → Q .normal a' g'.w) → wpList P ops Q l a g.w
  | [], [], slot, g, a, s, s', _, e, m, hQ => by
    simp only [evalOps, Option.some.injEq] at e
    subst e
    exact wpList_nil (hQ g a m (.refl ν g))
  | o :: r, io :: ir, slot, g, a, s, s', hc, e, m, hQ => by
    simp only [cOpers, Bool.and_eq_true] at hc
    simp only [evalOps] at e
    cases h1 : step c1 cx slot io s with
    | none => rw [h1] at e; cases e
    | some s1 =>
      rw [h1] at e
      exact wpList_step fun K hK => step_wp hs hx hc.1 m h1 fun g' a' m' hm => hK _ _ (ops_text hs hx r ir _ g' a' s1 s' hc.2 e m' fun g'' a'' m'' hm' => hQ g'' a'' m'' (hm.trans hm'))
  | [], _ :: _, _, _, _, _, _, hc, _, _, _ => by simp [cOpers] at hc
  | _ :: _, [], _, _, _, _, _, hc, _, _, _ => by simp [cOpers] at hc

/-! ### every order that the program allows -/

def tag : Nat → List IOper → List Feet → List (Nat × IOper × Feet)
  | i, o :: r, f :: fs => (i, o, f) :: tag (i + 1) r fs
  | _, _, _ => []
theorem Run.of_eval {c1 : Call1} {cx : CallX} {s0 : Nat} : ∀ (il : List IOper) (i : Nat) (s s' : St) (fs : List Feet), evalFeet c1 cx il (s0 + i) s = some (s', fs) →
    Run c1 cx s0 (tag i il fs) s s' ∧ fs.length = il.length
  | [], i, s, s', fs, e => by
    simp only [evalFeet, Option.some.injEq, Prod.mk.injEq] at e
    obtain ⟨rfl, rfl⟩ := e
    exact ⟨.nil (.refl _), rfl⟩
  | o :: r, i, s, s', fs, e => by
    simp only [evalFeet] at e
    cases h1 : step c1 cx (s0 + i) o s with
    | none => rw [h1] at e; cases e
    | some s1 =>
      rw [h1] at e
      simp only [] at e
      cases h2 : evalFeet c1 cx r (s0 + i + 1) s1 with
      | none => rw [h2] at e; cases e
      | some p =>
        rw [h2] at e
        simp only [Option.some.injEq, Prod.mk.injEq] at e
        obtain ⟨rfl, rfl⟩ := e
        obtain ⟨q1, q2⟩ := Run.of_eval (s0 := s0) r (i + 1) s1 p.1 p.2 h2
        exact ⟨.cons (Stp.of h1) q1, by simp only [List.length_cons]; exact congrArg (· + 1) q2⟩

theorem tag_mem : ∀ {il : List IOper} {fs : List Feet} {i : Nat} {x : Nat × IOper × Feet}, x ∈ tag i il fs → i ≤ x.1 ∧ il[x.1 - i]? = some x.2.1 ∧ fs[x.1 - i]? = some x.2.2
  | [], fs, i, x, h => by simp [tag] at h
  | _ :: _, [], i, x, h => by simp [tag] at h
  | o :: r, f :: fs, i, x, h => by
    simp only [tag, List.mem_cons] at h
    rcases h with rfl | h
    · simp
    · obtain ⟨h1, h2, h3⟩ := tag_mem h
      have : x.1 - i = (x.1 - (i + 1)) + 1 := by omega
      exact ⟨by omega, by rw [this]; simpa using h2, by rw [this]; simpa using h3⟩
theorem mem_tag : ∀ {il : List IOper} {fs : List Feet} {i j : Nat} {o : IOper}, fs.length = il.length → il[j]? = some o → ∃ x ∈ tag i il fs, x.1 = i + j
  | [], fs, i, j, o, _, h => by simp at h
  | _ :: _, [], i, j, o, hl, _ => by simp at hl
  | o' :: r, f :: fs, i, j, o, hl, h => by
    cases j with
    | zero => exact ⟨_, List.mem_cons_self .., rfl⟩
    | succ j =>
      obtain ⟨x, h1, h2⟩ := mem_tag (i := i + 1) (fs := fs) (by simpa using hl) (by simpa using h)
      exact ⟨x, List.mem_cons_of_mem _ h1, by omega⟩

def apartT1 (x : IOper) (i : Nat) : List IOper → Bool
  | [] => true
  | y :: r => (y.aft.contains i || apartT x y) && apartT1 x i r
def apartTAll : Nat → List IOper → Bool
  | _, [] => true
  | i, x :: r => apartT1 x i r && apartTAll (i + 1) r
theorem apartT1_spec {x : IOper} {i : Nat} : ∀ {r : List IOper}, apartT1 x i r = true → ∀ y ∈ r, i ∉ y.aft → apartT x y = true
  | [], _, y, hy, _ => by simp at hy
  | z :: r, h, y, hy, hi => by
    simp only [apartT1, Bool.and_eq_true, Bool.or_eq_true, List.contains_iff_mem] at h
    rcases List.mem_cons.1 hy with rfl | hy
    · exact h.1.resolve_left hi
    · exact apartT1_spec h.2 y hy hi

theorem apart1_spec {x : Feet} {i : Nat} : ∀ {fs : List Feet} {cs : List (List Nat)}, apart1 x i fs cs = true → ∀ (j : Nat) (f : Feet) (c : List Nat), fs[j]? = some f → cs[j]? = some c → i ∉ c → clash x f = false
  | [], cs, _, j, f, c, h, _, _ => by simp at h
  | _ :: _, [], _, j, f, c, _, h, _ => by simp at h
  | f' :: fs, c' :: cs, h, j, f, c, h1, h2, hi => by
    simp only [apart1, Bool.and_eq_true, Bool.or_eq_true, Bool.not_eq_true', List.contains_iff_mem] at h
    cases j with
    | zero => simp at h1 h2; subst h1 h2; exact h.1.resolve_right hi
    | succ j => exact apart1_spec h.2 j f c (by simpa using h1) (by simpa using h2) hi

def PW (x y : Nat × IOper × Feet) : Prop := x.1 < y.1 ∧ (x.1 ∉ y.2.1.aft → Apart x y)

theorem tag_pw : ∀ (il : List IOper) (fs : List Feet) (i : Nat), apartTAll i il = true → (apartAll fs i (il.map (·.aft)) = true ∨ ∀ f ∈ fs, quietF f = true) → (tag i il fs).Pairwise PW
  | [], fs, i, _, _ => by simp [tag]
  | _ :: _, [], i, _, _ => by simp [tag]
  | o :: r, f :: fs, i, hT, hF => by
    simp only [apartTAll, Bool.and_eq_true] at hT
    simp only [tag, List.pairwise_cons]
    refine ⟨fun y hy => ?_, tag_pw r fs (i + 1) hT.2 ?_⟩
    · obtain ⟨h1, h2, h3⟩ := tag_mem hy
      refine ⟨by show i < y.1; omega, fun hi => ⟨apartT1_spec hT.1 _ (List.mem_of_getElem? h2) hi, ?_⟩⟩
      rcases hF with hF | hF
      · simp only [List.map_cons, apartAll, Bool.and_eq_true] at hF
        exact apart1_spec hF.1 _ _ y.2.1.aft h3 (by simp [h2]) hi
      · have e1 := hF f (List.mem_cons_self ..)
        have e2 := hF _ (List.mem_cons_of_mem _ (List.mem_of_getElem? h3))
        cases f with
        | c => simp [quietF] at e1
        | m f =>
          generalize y.2.2 = q at e2
          cases q with
          | c => simp [quietF] at e2
          | m q => simp [quietF] at e1 e2; simp [clash, meets, e1, e2]
    · rcases hF with hF | hF
      · simp only [List.map_cons, apartAll, Bool.and_eq_true] at hF
        exact .inl hF.2
      · exact .inr fun f' hf' => hF f' (List.mem_cons_of_mem _ hf')

/-- the edges lead back; what is said to come before does -/
def cAft (iops : List IOper) (i : Nat) (o : Oper) (io : IOper) : Bool :=
  o.after.toList.all (fun e => !Region.binds .any e || Nat.blt e.on i) &&
  io.aft.all fun a => o.after.toList.any fun e => Region.binds .any e && (e.on == a || (match iops[e.on]? with | some x => x.aft.contains a | none => false))
def cAfts (iops : List IOper) : Nat → List Oper → List IOper → Bool
  | i, o :: r, io :: ir => cAft iops i o io && cAfts iops (i + 1) r ir
  | _, _, _ => true
theorem cAfts_get {iops : List IOper} : ∀ {l : List Oper} {il : List IOper} {i : Nat}, cAfts iops i l il = true → ∀ (j : Nat) (o : Oper) (io : IOper), l[j]? = some o → il[j]? = some io → cAft iops (i + j) o io = true
  | [], _, _, _, j, o, io, h, _ => by simp at h
  | _ :: _, [], _, _, j, o, io, _, h => by simp at h
  | o' :: r, io' :: ir, i, h, j, o, io, h1, h2 => by
    simp only [cAfts, Bool.and_eq_true] at h
    cases j with
    | zero => simp at h1 h2; subst h1 h2; exact h.1
    | succ j => have := cAfts_get h.2 j o io (by simpa using h1) (by simpa using h2); rwa [show i + 1 + j = i + (j + 1) by omega] at this

/-- which are listed, and which are left -/
structure Rest (ops : Array Oper) (iops : List IOper) (L : List (Nat × IOper × Feet)) (listed : Array Bool) : Prop where
  size : listed.size = ops.size
  left : ∀ x ∈ L, x.1 < ops.size ∧ listed[x.1]? = some false ∧ iops[x.1]? = some x.2.1
  all : ∀ (i : Nat), listed[i]? = some false → ∃ x ∈ L, x.1 = i
  down : ∀ (i : Nat) (io : IOper), iops[i]? = some io → listed[i]? = some true → ∀ a ∈ io.aft, listed[a]? = some true
  pw : L.Pairwise PW

theorem ops_any {c1 : Call1} {cx : CallX} (hs : Arb.CallSound ν P c1) (hx' : CallSound ν P cx) (hmore : MoreX cx) {nt : Nat} {ops : Array Oper} {iops : List IOper} {Q : Exit → Act → World → Prop} {s0 : Nat} {s' : St}
    (hc : cOpers P ν nt ops ops.toList iops = true) (haft : cAfts iops 0 ops.toList iops = true) : ∀ (n : Nat) (L : List (Nat × IOper × Feet)) (listed : Array Bool) (g : Gh) (a : Act) (s : St), L.length = n → Rest ops iops L listed →
    Run c1 cx s0 L s s' → Sim ν k nt g a s → (∀ g' a', Sim ν k nt g' a' s' → Mono ν g g' → Q .normal a' g'.w) → wpAny P .any ops Q n listed a g.w := by
  intro n
  induction n with
  | zero =>
    intro L listed g a s hn hl hr m hQ
    cases L with
    | cons => simp at hn
    | nil =>
      refine ⟨?_, ?_⟩
      · refine List.eq_nil_iff_forall_not_mem.2 fun j hj => ?_
        obtain ⟨h1, o, ho, -⟩ := mem_ready.1 hj
        have hjn : j < listed.size := by rw [hl.size]; exact (Array.getElem?_eq_some_iff.1 ho).1
        obtain ⟨x, hx, -⟩ := hl.all j (by simp [Array.getD, hjn] at h1; simp [hjn, h1])
        cases hx
      · cases hr with
        | nil h => exact hQ g a (m.like h) (.refl ν g)
  | succ n ih =>
    intro L listed g a s hn hl hr m hQ
    have hat : ∀ {j : Nat} {b : Bool} {d : Bool}, listed.getD j d = b → b ≠ d → listed[j]? = some b := by
      intro j b d h hb
      by_cases hj : j < listed.size
      · simp [Array.getD, hj] at h; simp [hj, h]
      · simp [Array.getD, hj] at h; exact absurd h.symm hb
    obtain ⟨hlen, hget⟩ := cOpers_get hc
    refine ⟨fun h0 => ?_, fun j hj => ?_⟩
    · exfalso
      cases L with
      | nil => simp at hn
      | cons x r =>
        obtain ⟨h1, h2, h3⟩ := hl.left x (List.mem_cons_self ..)
        have : x.1 ∈ Region.ready .any ops listed := by
          have ho : ops[x.1]? = some ops[x.1] := by simp [h1]
          refine mem_ready.2 ⟨by simp [Array.getD_eq_getD_getElem?, h2], _, ho, fun e he hb => ?_⟩
          have hA := cAfts_get haft x.1 ops[x.1] x.2.1 (by simp [h1]) h3
          simp only [cAft, Bool.and_eq_true, List.all_eq_true, Nat.zero_add] at hA
          have hlt := hA.1 e (by simpa using he)
          simp only [hb, Bool.not_true, Bool.false_or, Nat.blt_eq] at hlt
          have hlt' : e.on < listed.size := by rw [hl.size]; omega
          cases hv : listed[e.on] with
          | true => simp [hlt', hv]
          | false =>
            obtain ⟨y, hy, hye⟩ := hl.all e.on (by simp [hlt', hv])
            rcases List.mem_cons.1 hy with rfl | hy
            · omega
            · have := (List.pairwise_cons.1 hl.pw).1 y hy
              have := this.1
              omega
        rw [h0] at this; cases this
    · obtain ⟨h1, o, ho, hedge⟩ := mem_ready.1 hj
      obtain ⟨x, hx, rfl⟩ := hl.all j (hat h1 (by simp))
      obtain ⟨L1, L2, rfl⟩ := List.append_of_mem hx
      obtain ⟨hlt, hfalse, hix⟩ := hl.left x hx
      have hA := cAfts_get haft x.1 o x.2.1 (by simpa using ho) hix
      simp only [cAft, Bool.and_eq_true, List.all_eq_true, List.any_eq_true, Nat.zero_add] at hA
      have hdn : ∀ b ∈ x.2.1.aft, listed[b]? = some true := by
        intro b hb
        obtain ⟨e, he, h2, h3⟩ := hA.2 b hb
        have hel := hat (hedge e (by simpa using he) h2) (by simp)
        simp only [Bool.or_eq_true, beq_iff_eq] at h3
        rcases h3 with h3 | h3
        · subst h3; exact hel
        · split at h3
          · rename_i y hy
            exact hl.down e.on y hy hel b (by simpa using h3)
          · cases h3
      have hpw := List.pairwise_append.1 hl.pw
      have hpw2 := List.pairwise_cons.1 hpw.2.1
      obtain ⟨s1, e1', r1⟩ := Run.front hmore L1 s hr fun y hy => by
        obtain ⟨q1, q2⟩ := hpw.2.2 y hy x (List.mem_cons_self ..)
        refine q2 fun hb => ?_
        have := hdn _ hb
        rw [(hl.left y (by simp [hy])).2.1] at this
        cases this
      have e1 := e1'.step hmore
      have hl' : Rest ops iops (L1 ++ L2) (listed.setIfInBounds x.1 true) := by
        have hne : ∀ y ∈ L1 ++ L2, x.1 ≠ y.1 := by
          intro y hy
          rcases List.mem_append.1 hy with hy | hy
          · have := (hpw.2.2 y hy x (List.mem_cons_self ..)).1; omega
          · have := (hpw2.1 y hy).1; omega
        have hxl : x.1 < listed.size := by rw [hl.size]; exact hlt
        refine ⟨by simpa using hl.size, fun y hy => ?_, fun i hi => ?_, fun i io hio hi b hb => ?_, List.pairwise_append.2 ⟨hpw.1, hpw2.2, fun y hy z hz => hpw.2.2 y hy z (List.mem_cons_of_mem _ hz)⟩⟩
        · obtain ⟨q1, q2, q3⟩ := hl.left y (by rcases List.mem_append.1 hy with h | h <;> simp [h])
          exact ⟨q1, by rw [Array.getElem?_setIfInBounds_ne (hne y hy)]; exact q2, q3⟩
        · by_cases hxi : x.1 = i
          · subst hxi; simp [hxl] at hi
          · rw [Array.getElem?_setIfInBounds_ne hxi] at hi
            obtain ⟨y, hy, hyi⟩ := hl.all i hi
            refine ⟨y, ?_, hyi⟩
            simp only [List.mem_append, List.mem_cons] at hy ⊢
            rcases hy with h | rfl | h
            · exact .inl h
            · exact absurd hyi hxi
            · exact .inr h
        · have hup : ∀ {b : Nat}, listed[b]? = some true → (listed.setIfInBounds x.1 true)[b]? = some true := by
            intro b hb
            by_cases hxb : x.1 = b
            · subst hxb; simp [hxl]
            · rw [Array.getElem?_setIfInBounds_ne hxb]; exact hb
          by_cases hxi : x.1 = i
          · subst hxi
            rw [hix] at hio; cases hio
            exact hup (hdn b hb)
          · rw [Array.getElem?_setIfInBounds_ne hxi] at hi
            exact hup (hl.down i io hio hi b hb)
      unfold wpOp
      simp only [ho]
      have hw := step_wp (Q := Q) hs hx' (hget x.1 o x.2.1 (by simpa using ho) hix) m e1 (next := wpAny P .any ops Q n (listed.setIfInBounds x.1 true)) fun g' a' m' hm =>
        ih (L1 ++ L2) _ g' a' s1 (by simp at hn ⊢; omega) hl' r1 m' fun g'' a'' m'' hm' => hQ g'' a'' m'' (hm.trans hm')
      split
      · rename_i h; rw [if_pos h] at hw; exact .inl hw
      · rename_i h; rw [if_neg h] at hw; exact hw

def cRgn (P : Program) (ν : Nat → Nat) (nt : Nat) (draw : Bool) (ops : Array Oper) (iops : List IOper) : Bool :=
  cOpers P ν nt ops ops.toList iops && (!draw || (cAfts iops 0 ops.toList iops && apartTAll 0 iops))

theorem keepFr_get : ∀ (keep : List Nat) (fr : Fr) (t : Nat) (x : AV), get (keepFr keep fr) t = some x → get fr t = some x
  | [], fr, t, x, h => by simp [keepFr, fr_nil] at h
  | k :: r, fr, t, x, h => by
    simp only [keepFr] at h
    cases hk : get fr k with
    | none => rw [hk] at h; exact keepFr_get r fr t x h
    | some y =>
      rw [hk] at h
      simp only [fr_cons] at h
      split at h
      · rename_i h0; subst h0; rw [hk]; exact h
      · exact keepFr_get r fr t x h
theorem Sim.keep {nt : Nat} {g : Gh} {a : Act} {s : St} (m : Sim ν k nt g a s) (keep : List Nat) : Sim ν k nt g a { s with fr := keepFr keep s.fr } :=
  ⟨m.h, m.r, fun t x ht => m.f t x (keepFr_get keep s.fr t x ht), m.n, m.d⟩
theorem Sim.next {nt : Nat} {g : Gh} {a : Act} {s : St} (m : Sim ν k nt g a s) (n : Nat) : Sim ν k nt g a { s with nx := n } := ⟨m.h, m.r, m.f, m.n, m.d⟩

theorem rgn_wp {c1 : Call1} {cx : CallX} (hs : Arb.CallSound ν P c1) (hx : CallSound ν P cx) (hmore : MoreX cx) (hmix : P.follows .mixedOrders = true) {nt id : Nat} {draw : Bool} {ops : Array Oper} {iops : List IOper} {keep : List Nat}
    (hc : cRgn P ν nt draw ops iops = true) {g : Gh} {a : Act} {s s' : St} (e : evalRgn c1 cx draw iops keep s = some s') (m : Sim ν k nt g a s) {Q : Exit → Act → World → Prop}
    (hQ : ∀ g' a', Sim ν k nt g' a' s' → Mono ν g g' → Q .normal a' g'.w) : (Code.region id ops draw).wp P Q a g.w := by
  unfold evalRgn at e
  generalize hs0 : ({ s with nx := s.nx + iops.length } : St) = t at e
  have mt : Sim ν k nt g a t := by rw [← hs0]; exact m.next _
  generalize s.nx = n0 at e
  clear hs0 m
  simp only [cRgn, Bool.and_eq_true] at hc
  cases draw with
  | false =>
    simp only [Bool.false_eq_true, if_false] at e
    cases h1 : evalOps c1 cx iops n0 t with
    | none => rw [h1] at e; cases e
    | some s1 =>
      rw [h1] at e
      simp only [Option.some.injEq] at e
      subst e
      exact wp_region_list (ops_text hs hx ops.toList iops n0 g a t s1 hc.1 h1 mt fun g' a' m' hm => hQ g' a' (m'.keep keep) hm)
  | true =>
    simp only [if_true] at e
    cases h1 : evalFeet c1 cx iops n0 t with
    | none => rw [h1] at e; cases e
    | some p =>
      obtain ⟨s1, fs⟩ := p
      rw [h1] at e
      simp only [] at e
      split at e
      case isFalse => cases e
      rename_i hord
      simp only [Option.some.injEq] at e
      subst e
      simp only [Bool.not_true, Bool.false_or, Bool.and_eq_true] at hc
      refine wp_region_any hmix ?_
      obtain ⟨r', hm⟩ := mt.r.world (w' := { g.w with drawn := g.w.drawn + 1 }) (I' := g.I) (fun _ h => h) (fun _ h => .inl h) (Nat.le_refl _) rfl rfl rfl fun _ _ => rfl
      obtain ⟨hrun, hlen⟩ := Run.of_eval (s0 := n0) iops 0 t s1 fs (by simpa using h1)
      have hn := (cOpers_get hc.1).1
      simp only [Array.length_toList] at hn
      have hpw := tag_pw iops fs 0 hc.2.2 (by
        simp only [orderOk, Bool.or_eq_true, List.all_eq_true] at hord
        exact hord.symm)
      have hlt : (tag 0 iops fs).length = ops.size := by
        rw [hn]
        generalize 0 = i
        clear hrun hpw hord h1 hc hn hQ
        induction iops generalizing fs i with
        | nil => simp [tag]
        | cons o r ih =>
          cases fs with
          | nil => simp at hlen
          | cons f fs => simp only [tag, List.length_cons]; rw [ih fs (by simpa using hlen)]
      refine ops_any hs hx hmore hc.1 hc.2.1 ops.size _ _ { g with w := { g.w with drawn := g.w.drawn + 1 } } a t hlt ?_ hrun ⟨mt.h, r', mt.f.mono hm, mt.n, mt.d⟩ fun g' a' m' hm' => hQ g' a' (m'.keep keep) (hm.trans hm')
      refine ⟨by simp, fun x hx => ?_, fun i hi => ?_, fun i io _ hi => ?_, hpw⟩
      · obtain ⟨q1, q2, q3⟩ := tag_mem hx
        simp only [Nat.sub_zero] at q2
        have : x.1 < ops.size := by rw [hn]; exact (List.getElem?_eq_some_iff.1 q2).1
        exact ⟨this, by simp [this], q2⟩
      · have hi' : i < ops.size := by
          have := (Array.getElem?_eq_some_iff.1 hi).1
          simpa using this
        obtain ⟨x, hx, hxi⟩ := mem_tag (i := 0) (j := i) (il := iops) hlen (List.getElem?_eq_getElem (by omega))
        exact ⟨x, hx, by omega⟩
      · have hi' := (Array.getElem?_eq_some_iff.1 hi)
        obtain ⟨q1, q2⟩ := hi'
        simp at q2
end
end Arx

/-
  THE CODE OF A FUNCTION: sequences, branches, blocks, loops.
-/
namespace Arx
open Go Go.RowKit Arb

section
variable {ν : Nat → Nat} {P : Program} {k : Cx}

def cCode (P : Program) (ν : Nat → Nat) (nt : Nat) : Code → IC → Bool
  | .skip, .skip => true
  | .label _, .skip => true
  | .region _ ops draw, .rgn d iops _ => draw == d && cRgn P ν nt draw ops iops
  | .seq a b, .seq x y => cCode P ν nt a x && cCode P ν nt b y
  | .cond c a b, .cond d x y => cOpd ν c d && cCode P ν nt a x && cCode P ν nt b y
  | .block id a, .block jd x => id == jd && cCode P ν nt a x
  | .loop a, .loop _ x => cCode P ν nt a x
  | .exit id, .exit jd => id == jd
  | .ret, .ret => true
  | .scope a, .scope x => cCode P ν nt a x
  | _, .stop => true
  | _, _ => false

theorem code_wp {c1 : Call1} {cx : CallX} (hs : Arb.CallSound ν P c1) (hx : CallSound ν P cx) (hmore : MoreX cx) (hmix : P.follows .mixedOrders = true) {nt n : Nat} : ∀ (ic : IC) (c : Code), cCode P ν nt c ic = true →
    ∀ (g : Gh) (a : Act) (s : St) (r : Ex) (s' : St), evalC c1 cx n ic s = some (r, s') → Sim ν k nt g a s → ∀ Q : Exit → Act → World → Prop, (∀ g' a', Sim ν k nt g' a' s' → Mono ν g g' → Q r.as a' g'.w) → c.wp P Q a g.w := by
  intro ic
  induction ic with
  | skip =>
    intro c hc g a s r s' e m Q hQ
    simp only [evalC, Option.some.injEq, Prod.mk.injEq] at e
    obtain ⟨rfl, rfl⟩ := e
    cases c <;> simp only [cCode, Bool.false_eq_true] at hc
    · exact wp_skip (hQ g a m (.refl ν g))
    · exact wp_label (hQ g a m (.refl ν g))
  | rgn draw ops keep =>
    intro c hc g a s r s' e m Q hQ
    cases c <;> simp only [cCode, Bool.false_eq_true] at hc
    rename_i id cops cdraw
    simp only [Bool.and_eq_true, beq_iff_eq] at hc
    obtain ⟨rfl, hc⟩ := hc
    simp only [evalC, Option.map_eq_some_iff, Prod.mk.injEq] at e
    obtain ⟨s1, e1, rfl, rfl⟩ := e
    exact rgn_wp hs hx hmore hmix hc e1 m fun g' a' m' hm => hQ g' a' m' hm
  | seq x y ihx ihy =>
    intro c hc g a s r s' e m Q hQ
    cases c <;> simp only [cCode, Bool.false_eq_true] at hc
    simp only [Bool.and_eq_true] at hc
    refine wp_seq ?_
    simp only [evalC] at e
    cases h1 : evalC c1 cx n x s with
    | none => rw [h1] at e; cases e
    | some p =>
      obtain ⟨r1, s1⟩ := p
      rw [h1] at e
      refine ihx _ hc.1 g a s r1 s1 h1 m _ fun g' a' m' hm => ?_
      cases r1 with
      | norm => exact ihy _ hc.2 g' a' s1 r s' e m' Q fun g'' a'' m'' hm' => hQ g'' a'' m'' (hm.trans hm')
      | exit i => simp only [Option.some.injEq, Prod.mk.injEq] at e; obtain ⟨rfl, rfl⟩ := e; exact hQ g' a' m' hm
      | ret => simp only [Option.some.injEq, Prod.mk.injEq] at e; obtain ⟨rfl, rfl⟩ := e; exact hQ g' a' m' hm
  | cond d x y ihx ihy =>
    intro c hc g a s r s' e m Q hQ
    cases c <;> simp only [cCode, Bool.false_eq_true] at hc
    rename_i cd cX cY
    simp only [Bool.and_eq_true] at hc
    simp only [evalC] at e
    split at e
    · rename_i t ht
      have hR := eval_ok m.f hc.1.1
      rw [ht] at hR
      generalize hv : a.eval cd = v at hR
      cases hR with
      | iv h =>
        cases h with
        | bool =>
          refine wp_cond hv ?_
          cases t with
          | true => exact ihx _ hc.1.2 g a s r s' e m Q hQ
          | false => exact ihy _ hc.2 g a s r s' e m Q hQ
    · cases e
  | block id x ih =>
    intro c hc g a s r s' e m Q hQ
    cases c <;> simp only [cCode, Bool.false_eq_true] at hc
    simp only [Bool.and_eq_true, beq_iff_eq] at hc
    obtain ⟨rfl, hc⟩ := hc
    refine wp_block ?_
    simp only [evalC] at e
    cases h1 : evalC c1 cx n x s with
    | none => rw [h1] at e; cases e
    | some p =>
      obtain ⟨r1, s1⟩ := p
      rw [h1] at e
      refine ih _ hc g a s r1 s1 h1 m _ fun g' a' m' hm => ?_
      cases r1 with
      | norm => simp only [Option.some.injEq, Prod.mk.injEq] at e; obtain ⟨rfl, rfl⟩ := e; exact hQ g' a' m' hm
      | ret => simp only [Option.some.injEq, Prod.mk.injEq] at e; obtain ⟨rfl, rfl⟩ := e; exact hQ g' a' m' hm
      | exit i =>
        simp only [Ex.as, Exit.inBlock]
        simp only [] at e
        split at e
        · rename_i hi
          simp only [Option.some.injEq, Prod.mk.injEq] at e; obtain ⟨rfl, rfl⟩ := e
          rw [if_pos hi]; exact hQ g' a' m' hm
        · rename_i hi
          simp only [Option.some.injEq, Prod.mk.injEq] at e; obtain ⟨rfl, rfl⟩ := e
          rw [if_neg hi]; exact hQ g' a' m' hm
  | loop keep x ih =>
    intro c hc g a s r s' e m Q hQ
    cases c <;> simp only [cCode, Bool.false_eq_true] at hc
    rename_i cX
    simp only [evalC] at e
    refine wp_rounds (fun j a w => ∃ g1 s1, g1.w = w ∧ Sim ν k nt g1 a s1 ∧ Mono ν g g1 ∧ iter (evalC c1 cx n x) keep j s1 = some (r, s')) ?_ ?_ (n := n) ⟨g, _, rfl, m.keep keep, .refl ν g, e⟩
    · rintro a w ⟨g1, s1, -, -, -, h⟩
      simp [iter] at h
    · rintro j a w ⟨g1, s1, rfl, m1, hm1, h⟩
      simp only [iter] at h
      cases h1 : evalC c1 cx n x s1 with
      | none => rw [h1] at h; cases h
      | some p =>
        obtain ⟨r2, s2⟩ := p
        rw [h1] at h
        refine ih _ hc g1 a s1 r2 s2 h1 m1 _ fun g' a' m' hm => ?_
        cases r2 with
        | norm => exact ⟨g', _, rfl, m'.keep keep, hm1.trans hm, h⟩
        | exit i => simp only [Option.some.injEq, Prod.mk.injEq] at h; obtain ⟨rfl, rfl⟩ := h; exact hQ g' a' m' (hm1.trans hm)
        | ret => simp only [Option.some.injEq, Prod.mk.injEq] at h; obtain ⟨rfl, rfl⟩ := h; exact hQ g' a' m' (hm1.trans hm)
  | scope x ih =>
    intro c hc g a s r s' e m Q hQ
    cases c <;> simp only [cCode, Bool.false_eq_true] at hc
    refine wp_scope_straight (ih _ hc g a s r s' e m _ fun g' a' m' hm => ?_)
    have := hQ g' a' m' hm
    cases r <;> exact this
  | stop =>
    intro c hc g a s r s' e m Q hQ
    simp [evalC] at e
  | exit id =>
    intro c hc g a s r s' e m Q hQ
    cases c <;> simp only [cCode, Bool.false_eq_true] at hc
    simp only [evalC, Option.some.injEq, Prod.mk.injEq] at e
    obtain ⟨rfl, rfl⟩ := e
    rw [beq_iff_eq] at hc; subst hc
    exact wp_exit (hQ g a m (.refl ν g))
  | ret =>
    intro c hc g a s r s' e m Q hQ
    cases c <;> simp only [cCode, Bool.false_eq_true] at hc
    simp only [evalC, Option.some.injEq, Prod.mk.injEq] at e
    obtain ⟨rfl, rfl⟩ := e
    exact wp_ret (hQ g a m (.refl ν g))
end
end Arx

/-
  WHAT A FUNCTION ANSWERS; a function, from its call to what it answers; then every function of a program, at every depth.
-/
namespace Arx
open Go Go.RowKit Arb

section
variable {ν : Nat → Nat} {P : Program} {k : Cx}

def cRes (P : Program) : ResultVar → IRes → Bool
  | .tmp t, .t n => t == n
  | .cell a t, .cell n agg sz => a == n && tyB P t sz agg
  | _, _ => false
def cRess (P : Program) : List ResultVar → List IRes → Bool
  | [], [] => true
  | r :: rs, x :: xs => cRes P r x && cRess P rs xs
  | _, _ => false

theorem resM_ok {g : Gh} (r : Rel ν k g) {a : Act} {fr : Fr} (hf : FrR ν g a.tmps fr) {rv : ResultVar} {x : IRes} (hc : cRes P rv x = true) {y : AV} {h' : Hp} (e : (resM fr x).run g.h = some (y, h')) :
    h' = g.h ∧ ∃ v, (resOne a.tmps rv).run P g.w = .ok v g.w ∧ RA ν g v y := by
  cases x with
  | t n =>
    cases rv with
    | cell => simp [cRes] at hc
    | tmp t =>
      obtain ⟨rfl, rfl⟩ := M.ret_some e
      exact ⟨rfl, _, by simp [resOne, Act.eval], eval_ok (ν := ν) (x := .tmp t) (a := a) hf (by simpa [cOpd, cRes] using hc)⟩
  | cell n agg sz =>
    cases rv with
    | tmp => simp [cRes] at hc
    | cell t ty =>
      simp only [cRes, Bool.and_eq_true] at hc
      obtain ⟨rfl, u, hu, hR1⟩ := load_at r hc.2 (eval_ok (ν := ν) (x := .tmp t) hf (by simpa [cOpd] using hc.1)) e
      exact ⟨rfl, u, as_sure hu, hR1⟩

theorem resM_list {g : Gh} (r : Rel ν k g) {a : Act} {fr : Fr} (hf : FrR ν g a.tmps fr) : ∀ (rvs : List ResultVar) (xs : List IRes) (ys : List AV) (h' : Hp), cRess P rvs xs = true → (M.mapL (resM fr) xs).run g.h = some (ys, h') →
    h' = g.h ∧ ∃ vs, vs.length = rvs.length ∧ (∀ (j : Nat) (rv : ResultVar) (v : Value), rvs[j]? = some rv → vs[j]? = some v → (resOne a.tmps rv).run P g.w = .ok v g.w) ∧ RL ν g vs ys
  | [], [], ys, h', _, e => by
    obtain ⟨rfl, rfl⟩ := M.mapL_nil e
    exact ⟨rfl, [], rfl, fun j rv v h => by simp at h, .nil⟩
  | rv :: rvs, x :: xs, ys, h', hc, e => by
    simp only [cRess, Bool.and_eq_true] at hc
    obtain ⟨y, h1, zs, e1, e2, rfl⟩ := M.mapL_cons e
    obtain ⟨rfl, v, q1, q6⟩ := resM_ok r hf hc.1 e1
    obtain ⟨rfl, vs, p1, p2, p7⟩ := resM_list r hf rvs xs zs h' hc.2 e2
    refine ⟨rfl, v :: vs, by simp [p1], fun j rv' v' hj hv => ?_, .cons q6 p7⟩
    cases j with
    | zero => simp at hj hv; subst hj hv; exact q1
    | succ j => exact p2 j rv' v' (by simpa using hj) (by simpa using hv)
  | [], _ :: _, _, _, hc, _ => by simp [cRess] at hc
  | _ :: _, [], _, _, hc, _ => by simp [cRess] at hc

theorem resAll_ok {g : Gh} (r : Rel ν k g) {a : Act} {fr : Fr} (hf : FrR ν g a.tmps fr) {fn : Func} {xs : List IRes} (hc : cRess P fn.results.toList xs = true) (h4 : xs.length ≤ 4) {y : AV} {h' : Hp} (e : (resAll fr xs).run g.h = some (y, h')) :
    h' = g.h ∧ ∃ v, (results fn a.tmps).run P g.w = .ok v g.w ∧ RA ν g v y := by
  have hlen : ∀ {rvs : List ResultVar} {xs : List IRes}, cRess P rvs xs = true → rvs.length = xs.length := by
    intro rvs
    induction rvs with
    | nil => intro xs h; cases xs with | nil => rfl | cons => simp [cRess] at h
    | cons a r ih => intro xs h; cases xs with | nil => simp [cRess] at h | cons x xs => simp only [cRess, Bool.and_eq_true] at h; simp [ih h.2]
  have hn := hlen hc
  have many : ∀ {ys : List AV} {h' : Hp}, (M.mapL (resM fr) xs).run g.h = some (ys, h') → xs.length ≠ 1 → h' = g.h ∧ ∃ v, (results fn a.tmps).run P g.w = .ok v g.w ∧ RA ν g v (.tup ys) := by
    intro ys h' e hne
    obtain ⟨rfl, vs, p1, p2, p7⟩ := resM_list r hf fn.results.toList xs ys h' hc e
    refine ⟨rfl, .tuple vs.toArray, ?_, .tup (by simpa using p7.1) fun j v c h1 h2 => p7.2 j v c (by simpa using h1) h2⟩
    rw [results_run (rvs := fn.results.toList) (by simp) (by omega) p1 p2]
    rcases vs with _ | ⟨v, _ | ⟨u, vs⟩⟩
    · rfl
    · exact absurd (hn.symm.trans p1.symm) (by simpa using hne)
    · rfl
  rcases xs with _ | ⟨x, _ | ⟨x2, xs⟩⟩
  · obtain ⟨l, h1, e1, e2⟩ := M.bind_some e
    obtain ⟨rfl, rfl⟩ := M.ret_some e2
    exact many e1 (by simp)
  · rcases hl : fn.results.toList with _ | ⟨rv, _ | ⟨rv2, rvs⟩⟩
    · rw [hl] at hn; simp at hn
    · rw [hl] at hc
      simp only [cRess, Bool.and_true] at hc
      obtain ⟨rfl, v, q1, q6⟩ := resM_ok r hf hc e
      refine ⟨rfl, v, ?_, q6⟩
      refine results_run (rvs := [rv]) (vs := [v]) (by rw [← hl]) (by simp) rfl fun j rv' v' hj hv => ?_
      cases j with
      | zero => simp at hj hv; subst hj hv; exact q1
      | succ j => simp at hj
    · rw [hl] at hn; simp at hn
  · obtain ⟨l, h1, e1, e2⟩ := M.bind_some e
    obtain ⟨rfl, rfl⟩ := M.ret_some e2
    exact many e1 (by simp)

def cFn (P : Program) (ν : Nat → Nat) (fn : Func) (c : Code) (ir : IFn) : Bool :=
  cCode P ν fn.ntmps c ir.body && cRess P fn.results.toList ir.res && Nat.ble ir.res.length 4 && ir.prim.isNone

abbrev PrimF := Call1 → CallX → List AV → Hp → Nat → Option (AV × Hp × Nat)
/-- a primitive's own proof -/
def PrimOK (P : Program) (ν : Nat → Nat) (f : Nat) (p : PrimF) : Prop :=
  ∀ (c1 : Call1) (cx : CallX), Arb.CallSound ν P c1 → CallSound ν P cx → ∀ args hp nx r hp' nx', p c1 cx args hp nx = some (r, hp', nx') →
    (∃ fn, P.funcs[ν f]? = some fn ∧ fn.body.isSome = true ∧ (fn.name == "runtime.NumGoroutine") = false) ∧ CallOK ν P f args hp r hp'

def TieAt (P : Program) (ν : Nat → Nat) (f : Nat) (ir : IFn) : Prop :=
  (∃ fn c, P.funcs[ν f]? = some fn ∧ fn.body = some c ∧ (fn.name == "runtime.NumGoroutine") = false ∧ cFn P ν fn c ir = true) ∨ ∃ p, ir.prim = some p ∧ PrimOK P ν f p ∧ PrimMore p
def Tie (P : Program) (ν : Nat → Nat) (prog : Nat → Option IFn) : Prop := ∀ f ir, prog f = some ir → TieAt P ν f ir

theorem params_get : ∀ (l : List AV) (i t : Nat), get (params l i) t = if i ≤ t then l[t - i]? else none
  | [], i, t => by simp [params, fr_nil]
  | x :: r, i, t => by
    simp only [params, fr_cons]
    by_cases h : i = t
    · subst h; simp
    · rw [if_neg h, params_get r (i + 1) t]
      by_cases h' : i + 1 ≤ t
      · rw [if_pos h', if_pos (by omega)]
        have : t - i = (t - (i + 1)) + 1 := by omega
        rw [this]; simp
      · rw [if_neg h', if_neg (by omega)]

theorem sound (hmix : P.follows .mixedOrders = true) {c1 : Call1} (hs : Arb.CallSound ν P c1) {prog : Nat → Option IFn} (tie : Tie P ν prog) : ∀ n, CallSound ν P (evalF c1 prog n) := by
  have hmore := evalF_more (c1 := c1) (prog := prog) fun f ir p hf hp => by
    rcases tie f ir hf with ⟨fn, c, -, -, -, hcf⟩ | ⟨p', h1, -, h2⟩
    · simp [cFn, hp] at hcf
    · rw [hp] at h1; cases h1; exact h2
  intro n
  induction n with
  | zero => intro f args hp nx r hp' nx' e; simp [evalF] at e
  | succ n ih =>
    intro f args hp nx r hp' nx' e
    simp only [evalF] at e
    cases hf : prog f with
    | none => rw [hf] at e; cases e
    | some ir =>
      rw [hf] at e
      simp only [] at e
      rcases tie f ir hf with ⟨fn, c, hfn, hb, hnm, hcf⟩ | ⟨p, hp1, hp2, -⟩
      case inr => rw [hp1] at e; exact hp2 c1 _ hs ih args hp nx r hp' nx' e
      refine ⟨⟨fn, hfn, by simp [hb], hnm⟩, ?_⟩
      simp only [cFn, Bool.and_eq_true, Nat.ble_eq, Option.isNone_iff_eq_none] at hcf
      obtain ⟨⟨⟨hc1, hc2⟩, hc3⟩, hc4⟩ := hcf
      rw [hc4] at e
      simp only [] at e
      split at e
      · rename_i hlen
        intro k0 g0 cargs hh r0 hRL
        refine calls_of_wp hfn hb ?_
        have m0 : Sim ν k0 fn.ntmps g0 { tmps := cargs ++ Array.replicate (fn.ntmps - cargs.size) undef, defers := [] } ⟨params args 0, hp, nx⟩ := by
          refine ⟨hh, r0, fun t x ht => ?_, by simp; omega, rfl⟩
          simp only [params_get, Nat.zero_le, if_true, Nat.sub_zero] at ht
          have hlt : t < cargs.size := by have := hRL.1; have := lt_of_some ht; simp only [Array.length_toList] at *; omega
          refine ⟨cargs[t], by simp [Array.getElem?_append, hlt], hRL.2 t _ _ (by simp [hlt]) ht⟩
        cases he : evalC c1 (evalF c1 prog n) n ir.body ⟨params args 0, hp, nx⟩ with
        | none => rw [he] at e; cases e
        | some p =>
          obtain ⟨ex, s⟩ := p
          rw [he] at e
          have fin : ∀ (g' : Gh) (a' : Act), Sim ν k0 fn.ntmps g' a' s → Mono ν g0 g' → (match (resAll s.fr ir.res).run s.hp with | some (v, h) => some (v, h, s.nx) | none => none) = some (r, hp', nx') →
              a'.defers = [] ∧ ∃ v, (results fn a'.tmps).run P g'.w = .ok v g'.w ∧
              ∃ u g'', Ending.returned v = .returned u ∧ g''.w = g'.w ∧ g''.h = hp' ∧ Rel ν k0 g'' ∧ Mono ν g0 g'' ∧ RA ν g'' u r := by
            intro g' a' m' hm hr
            cases hra : (resAll s.fr ir.res).run s.hp with
            | none => rw [hra] at hr; cases hr
            | some q =>
              obtain ⟨y, h1⟩ := q
              rw [hra] at hr
              cases hr
              obtain ⟨rfl, v, q1, q6⟩ := resAll_ok m'.r m'.f hc2 hc3 (by rw [m'.h]; exact hra)
              exact ⟨m'.d, v, q1, v, g', rfl, rfl, rfl, m'.r, hm, q6⟩
          refine code_wp hs ih (hmore n) hmix ir.body c hc1 g0 _ _ ex s he m0 _ fun g' a' m' hm => ?_
          cases ex with
          | norm => exact fin g' a' m' hm e
          | ret => exact fin g' a' m' hm e
          | exit i => cases e
      · cases e
end
end Arx

/-
  WHAT COMES IN: a value that reads as data reads as a plain value; what is behind it is never written. Expressions hold expressions.
-/
namespace Arx
open Go Go.RowKit Go.WideShapes Arb

/-- the cells of a type; ex: a slice of expressions -/
inductive Sh where
  | bool
  | int (k : IntKind)
  | str
  | sl (es : List Sh)
  | ex
  deriving Inhabited
def shExpr : List Sh := [.int .i64, .int .i64, .bool, .sl [.int .i64, .int .i64], .bool, .sl [.str], .ex]

mutual
inductive Fit : Sh → IV → Prop
  | bool (b : Bool) : Fit .bool (.bool b)
  | int (k : IntKind) (n : Int) (h : (Lit.int k n).wf = true) : Fit (.int k) (.int k n)
  | str (s : ByteArray) (h : s.size ≤ maxLen) : Fit .str (.str s)
  | sl (es : List Sh) (rows : List (List IV)) (h : rows.length ≤ maxLen) (hr : ∀ r ∈ rows, FitL es r) : Fit (.sl es) (.sl es.length rows)
  | ex (rows : List (List IV)) (h : rows.length ≤ maxLen) (hr : ∀ r ∈ rows, FitL shExpr r) : Fit .ex (.sl 7 rows)
inductive FitL : List Sh → List IV → Prop
  | nil : FitL [] []
  | cons {s : Sh} {ss : List Sh} {x : IV} {xs : List IV} (h : Fit s x) (hs : FitL ss xs) : FitL (s :: ss) (x :: xs)
end

theorem FitL.append : ∀ {ss ts : List Sh} {xs ys : List IV}, FitL ss xs → FitL ts ys → FitL (ss ++ ts) (xs ++ ys)
  | [], _, [], _, _, h => h
  | _ :: _, _, _ :: _, _, .cons h hs, h' => .cons h (FitL.append hs h')

def fieldsB (P : Program) (r : TypeId → List Sh → Bool) : Nat → List Field → List Sh → Bool
  | _, [], ss => ss.isEmpty
  | off, f :: fs, ss => f.offset == off && Nat.ble (P.cellsOf f.type) ss.length && r f.type (ss.take (P.cellsOf f.type)) && fieldsB P r (off + P.cellsOf f.type) fs (ss.drop (P.cellsOf f.type))
def timesB (r : List Sh → Bool) (c : Nat) : Nat → List Sh → Bool
  | 0, ss => ss.isEmpty
  | n + 1, ss => Nat.ble c ss.length && r (ss.take c) && timesB r c n (ss.drop c)
def shB (P : Program) (eT : TypeId) : Nat → TypeId → List Sh → Bool
  | 0, _, _ => false
  | d + 1, t, ss => match P.underlying t with
    | some .bool => (match ss with | [.bool] => true | _ => false)
    | some (.int k) => (match ss with | [.int k'] => k == k' | _ => false)
    | some .string => (match ss with | [.str] => true | _ => false)
    | some (.slice e) => (match ss with | [.sl es] => P.cellsOf e == es.length && Nat.blt 0 es.length && shB P eT d e es | [.ex] => e == eT | _ => false)
    | some (.struct fs) => P.cellsOf t == ss.length && fieldsB P (shB P eT d) 0 fs.toList ss
    | some (.array n e) => P.cellsOf t == ss.length && timesB (shB P eT d e) (P.cellsOf e) n ss
    | _ => false

section
variable {H : Type} {enc : TypeId × Value → H} {P : Program} {w : World} {base : Nat} {spare : Nat → Bool} {held : Bool} {ν : Nat → Nat}

def Old (w : World) (b : Nat) : Prop := b < w.heap.size
/-- the cells read as plain values of these shapes -/
def Reads (ν : Nat → Nat) (w : World) (ss : List Sh) (cs : List Value) (xs : List IV) : Prop :=
  xs.length = cs.length ∧ FitL ss xs ∧ ∀ (j : Nat) (v : Value) (x : IV), cs[j]? = some v → xs[j]? = some x → RI ν (Old w) w v x

theorem Reads.one {s : Sh} {v : Value} {x : IV} (h : Fit s x) (hr : RI ν (Old w) w v x) : Reads ν w [s] [v] [x] :=
  ⟨rfl, .cons h .nil, fun j v' x' h1 h2 => by cases j with | zero => simp at h1 h2; subst h1 h2; exact hr | succ j => simp at h1⟩
theorem Reads.append {ss ts : List Sh} {cs ds : List Value} {xs ys : List IV} (h : Reads ν w ss cs xs) (h' : Reads ν w ts ds ys) : Reads ν w (ss ++ ts) (cs ++ ds) (xs ++ ys) := by
  refine ⟨by simp [h.1, h'.1], h.2.1.append h'.2.1, fun j v x h1 h2 => ?_⟩
  by_cases hj : j < cs.length
  · rw [List.getElem?_append_left hj] at h1
    rw [List.getElem?_append_left (by rw [h.1]; exact hj)] at h2
    exact h.2.2 j v x h1 h2
  · rw [List.getElem?_append_right (by omega)] at h1
    rw [List.getElem?_append_right (by rw [h.1]; omega), h.1] at h2
    exact h'.2.2 _ v x h1 h2

def ReadsAt (eT : TypeId) (ν : Nat → Nat) (enc : TypeId × Value → H) (P : Program) (w : World) (base : Nat) (spare : Nat → Bool) (held : Bool) (d n : Nat) : Prop :=
  ∀ (t : TypeId) (ss : List Sh) (cs : List Value) (x : DataW H × List MemPlace), shB P eT d t ss = true → DataW.trod enc P w base spare held n t cs = some x → ∃ xs, Reads ν w ss cs xs

theorem fields_read {eT : TypeId} {d n : Nat} (ih : ReadsAt eT ν enc P w base spare held d n) {all : List Value} : ∀ (fs : List Field) (off : Nat) (ss : List Sh) (cs : List Value), fieldsB P (shB P eT d) off fs ss = true → cs = all.drop off → cs.length = ss.length →
    (∀ f ∈ fs, ∃ y, DataW.trod enc P w base spare held n f.type ((all.drop f.offset).take (P.cellsOf f.type)) = some y) → ∃ xs, Reads ν w ss cs xs
  | [], off, ss, cs, h, hcs, hl, _ => by
    simp only [fieldsB, List.isEmpty_iff] at h
    subst h
    have : cs = [] := List.eq_nil_of_length_eq_zero (by simpa using hl)
    subst this
    exact ⟨[], rfl, .nil, fun j v x h => by simp at h⟩
  | f :: fs, off, ss, cs, h, hcs, hl, hf => by
    simp only [fieldsB, Bool.and_eq_true, beq_iff_eq, Nat.ble_eq] at h
    obtain ⟨⟨⟨h1, h2⟩, h3⟩, h4⟩ := h
    obtain ⟨y, hy⟩ := hf f (List.mem_cons_self ..)
    rw [h1, ← hcs] at hy
    obtain ⟨xs, hx⟩ := ih _ _ _ _ h3 hy
    obtain ⟨ys, hy⟩ := fields_read ih (all := all) fs _ _ (cs.drop (P.cellsOf f.type)) h4 (by rw [hcs, List.drop_drop]) (by simp [hl]) fun g hg => hf g (List.mem_cons_of_mem _ hg)
    refine ⟨xs ++ ys, ?_⟩
    have := hx.append hy
    rwa [List.take_append_drop, List.take_append_drop] at this

theorem times_read {eT : TypeId} {d n : Nat} (ih : ReadsAt eT ν enc P w base spare held d n) {e : TypeId} {all : List Value} : ∀ (m i : Nat) (ss : List Sh) (cs : List Value), timesB (shB P eT d e) (P.cellsOf e) m ss = true → cs = all.drop (i * P.cellsOf e) → cs.length = ss.length →
    (∀ j, i ≤ j → j < i + m → ∃ y, DataW.trod enc P w base spare held n e ((all.drop (j * P.cellsOf e)).take (P.cellsOf e)) = some y) → ∃ xs, Reads ν w ss cs xs
  | 0, i, ss, cs, h, hcs, hl, _ => by
    simp only [timesB, List.isEmpty_iff] at h
    subst h
    have : cs = [] := List.eq_nil_of_length_eq_zero (by simpa using hl)
    subst this
    exact ⟨[], rfl, .nil, fun j v x h => by simp at h⟩
  | m + 1, i, ss, cs, h, hcs, hl, hf => by
    simp only [timesB, Bool.and_eq_true, Nat.ble_eq] at h
    obtain ⟨⟨h2, h3⟩, h4⟩ := h
    obtain ⟨y, hy⟩ := hf i (Nat.le_refl _) (by omega)
    rw [← hcs] at hy
    obtain ⟨xs, hx⟩ := ih _ _ _ _ h3 hy
    obtain ⟨ys, hy⟩ := times_read ih (all := all) m (i + 1) _ (cs.drop (P.cellsOf e)) h4 (by rw [hcs, List.drop_drop, Nat.add_mul, Nat.one_mul]) (by simp [hl]) fun j hj hj' => hf j (by omega) (by omega)
    refine ⟨xs ++ ys, ?_⟩
    have := hx.append hy
    rwa [List.take_append_drop, List.take_append_drop] at this

theorem slice_read {n : Nat} {t e : TypeId} {es : List Sh} {cs : List Value} {x : DataW H × List MemPlace} (hu : P.underlying t = some (.slice e)) (hc : P.cellsOf e = es.length) (hpos : 0 < es.length)
    (hsub : ∀ m, m < n → ∀ (ci : List Value) (y : DataW H × List MemPlace), DataW.trod enc P w base spare held m e ci = some y → ∃ xs, Reads ν w es ci xs) (hx : DataW.trod enc P w base spare held n t cs = some x) :
    ∃ (v : Value) (rows : List (List IV)), cs = [v] ∧ rows.length ≤ maxLen ∧ (∀ r ∈ rows, FitL es r) ∧ RI ν (Old w) w v (.sl es.length rows) := by
  rcases DataW.trod_slice hu hx with ⟨rfl, _⟩ | ⟨a, len, cap, elems, rest, m, hfuel, rfl, _, hb, hl, hm, hel, hget, _, _⟩
  · exact ⟨_, [], rfl, by simp, fun r h => (by simp at h), .sl0 _ _ _⟩
  · by_cases h0 : len = 0
    · subst h0
      exact ⟨_, [], rfl, by simp, fun r h => (by simp at h), .sl0 _ _ _⟩
    · have each : ∀ i, i < len → ∃ (ci : List Value) (xi : List IV), w.cells? base (a.add (i * es.length)) es.length = some ci ∧ Reads ν w es ci xi := by
        intro i hi
        have := hget i hi
        rw [hc, List.getElem?_eq_getElem (by omega), Option.bind_eq_some_iff] at this
        obtain ⟨ci, h1, h2⟩ := this
        obtain ⟨xi, h3⟩ := hsub m (by omega) ci _ h2
        exact ⟨ci, xi, h1, h3⟩
      have hex : ∀ i, ∃ p : List Value × List IV, i < len → w.cells? base (a.add (i * es.length)) es.length = some p.1 ∧ Reads ν w es p.1 p.2 := fun i => by
        by_cases hi : i < len
        · obtain ⟨ci, xi, h1, h2⟩ := each i hi
          exact ⟨(ci, xi), fun _ => ⟨h1, h2⟩⟩
        · exact ⟨([], []), fun h => absurd h hi⟩
      obtain ⟨p, hp⟩ := Classical.axiomOfChoice hex
      have hcell : ∀ i j, i < len → j < es.length → w.cell? (a.add (i * es.length + j)) = (p i).1[j]? := fun i j hi hj => by
        have := (World.cells?_some (hp i hi).1).2.2 j hj
        rwa [show (a.add (i * es.length)).add j = a.add (i * es.length + j) by simp only [Addr.add]; by_cases h1 : i * es.length = 0 <;> by_cases h2 : j = 0 <;> simp [h1, h2, Nat.add_assoc]] at this
      have hlen : ∀ i, i < len → (p i).1.length = es.length := fun i hi => (World.cells?_some (hp i hi).1).2.1
      have h00 : ∃ v, w.cell? (a.add 0) = some v := by
        have := hcell 0 0 (by omega) hpos
        simp only [Nat.zero_mul, Nat.add_zero] at this
        exact ⟨(p 0).1[0]'(by rw [hlen 0 (by omega)]; exact hpos), by rw [this]; exact List.getElem?_eq_getElem _⟩
      obtain ⟨v0, hv0⟩ := h00
      obtain ⟨b, off, spot⟩ := a
      have hspot : spot = none := by simpa [Addr.add] using World.cell?_spot hv0
      subst hspot
      have hblk : b < w.heap.size := by
        rcases Nat.lt_or_ge b w.heap.size with h | h
        · exact h
        · simp [Addr.add, World.cell?, Array.getElem?_eq_none h] at hv0
      refine ⟨_, (List.range len).map fun i => (p i).2, rfl, by simp; omega, fun r hr => ?_,
        .sl b off len cap es.length _ (fun i j => ((p i).1[j]?).getD undef) hblk (by simp) hl (fun c hc => ?_) (fun i j c x h1 h2 => ?_) fun i j c x h1 h2 => ?_⟩
      · simp only [List.mem_map, List.mem_range] at hr
        obtain ⟨i, hi, rfl⟩ := hr
        exact (hp i hi).2.2.1
      · simp only [List.mem_map, List.mem_range] at hc
        obtain ⟨i, hi, rfl⟩ := hc
        rw [(hp i hi).2.1, hlen i hi]
      · simp only [List.getElem?_map, Option.map_eq_some_iff] at h1
        obtain ⟨i', hi', rfl⟩ := h1
        have hi := lt_of_some hi'
        simp only [List.length_range] at hi
        rw [List.getElem?_range hi, Option.some.injEq] at hi'
        subst hi'
        have hj : j < es.length := by have := lt_of_some h2; rwa [(hp i hi).2.1, hlen i hi] at this
        have := hcell i j hi hj
        rw [Addr.add_lit] at this
        rw [show off + i * es.length + j = off + (i * es.length + j) by omega, this, List.getElem?_eq_getElem (by rw [hlen i hi]; exact hj)]
        rfl
      · simp only [List.getElem?_map, Option.map_eq_some_iff] at h1
        obtain ⟨i', hi', rfl⟩ := h1
        have hi := lt_of_some hi'
        simp only [List.length_range] at hi
        rw [List.getElem?_range hi, Option.some.injEq] at hi'
        subst hi'
        have hj : j < (p i).1.length := by have := lt_of_some h2; rwa [(hp i hi).2.1] at this
        refine (hp i hi).2.2.2 j _ x ?_ h2
        rw [List.getElem?_eq_getElem hj]; rfl

theorem reads_at {eT : TypeId} (hE : shB P eT 9 eT shExpr = true) (hcE : P.cellsOf eT = shExpr.length) : ∀ (n d : Nat), ReadsAt eT ν enc P w base spare held d n := by
  intro n
  induction n using Nat.strongRecOn with
  | _ n ih =>
    intro d t ss cs x h hx
    obtain ⟨d, rfl⟩ : ∃ d', d = d' + 1 := by
      cases d with
      | zero => simp [shB] at h
      | succ d => exact ⟨d, rfl⟩
    unfold shB at h
    split at h
    · rename_i hu
      split at h
      · obtain ⟨b, rfl, _⟩ := DataW.trod_bool hu hx
        exact ⟨_, Reads.one (.bool b) (.bool b)⟩
      · cases h
    · rename_i k hu
      split at h
      · rename_i k'
        have := beq_iff_eq.1 h; subst this
        obtain ⟨m, rfl, _, hw⟩ := DataW.trod_int hu hx
        exact ⟨_, Reads.one (.int _ m hw) (.int _ _)⟩
      · cases h
    · rename_i hu
      split at h
      · obtain ⟨s, rfl, _, hw⟩ := DataW.trod_string hu hx
        exact ⟨_, Reads.one (.str s hw) (.str s)⟩
      · cases h
    · rename_i e hu
      split at h
      · rename_i es
        simp only [Bool.and_eq_true, beq_iff_eq, Nat.blt_eq] at h
        obtain ⟨⟨hc, hpos⟩, hsh⟩ := h
        obtain ⟨v, rows, rfl, h1, h2, h3⟩ := slice_read hu hc hpos (fun m hm ci y hy => ih m hm d e es ci y hsh hy) hx
        exact ⟨_, Reads.one (.sl es rows h1 h2) h3⟩
      · have := beq_iff_eq.1 h; subst this
        obtain ⟨v, rows, rfl, h1, h2, h3⟩ := slice_read (es := shExpr) hu hcE (by decide) (fun m hm ci y hy => ih m hm 9 _ shExpr ci y hE hy) hx
        exact ⟨_, Reads.one (.ex rows h1 h2) h3⟩
      · cases h
    · rename_i fs hu
      simp only [Bool.and_eq_true, beq_iff_eq] at h
      obtain ⟨xs, m, hfuel, _, hlen, hxl, hget⟩ := DataW.trod_struct hu hx
      refine fields_read (ih m (by omega) d) (all := cs) fs.toList 0 ss cs h.2 rfl (by rw [hlen, h.1]) fun f hf => ?_
      obtain ⟨i, hi⟩ := List.getElem?_of_mem hf
      have := hget i f (by simpa using hi)
      have hlt : i < xs.length := by have := lt_of_some hi; simp at this; omega
      rw [List.getElem?_eq_getElem hlt] at this
      exact ⟨_, this⟩
    · rename_i q e hu
      simp only [Bool.and_eq_true, beq_iff_eq] at h
      obtain ⟨xs, m, hfuel, _, hlen, hxl, hget⟩ := DataW.trod_array hu hx
      refine times_read (ih m (by omega) d) (all := cs) q 0 ss cs h.2 (by simp) (by rw [hlen, h.1]) fun j _ hj => ?_
      have := hget j (by omega)
      rw [List.getElem?_eq_getElem (by omega)] at this
      exact ⟨_, this⟩
    · cases h

/-! ### arguments -/
/-- an argument of these shapes, as what the machine is handed -/
def ArgIs (agg : Bool) (ss : List Sh) (x : AV) : Prop := ∃ xs, FitL ss xs ∧ (if agg then x = .agg (xs.map .iv) else ∃ y, xs = [y] ∧ x = .iv y)

def argB (P : Program) (eT t : TypeId) (agg : Bool) (ss : List Sh) : Bool := shB P eT 9 eT shExpr && P.cellsOf eT == shExpr.length && shB P eT 9 t ss && (match P.underlying t with | some d => isAggD d == agg | none => false)

theorem arg_read {r : Reach} {b0 : Nat} {eT t : TypeId} {agg : Bool} {ss : List Sh} (ht : argB P eT t agg ss = true) {v : Value} (hval : Value.okWide P w r b0 t v) {d : DataW H} {ps : List MemPlace} (h : DataW.Trod enc P w base spare held t v d ps)
    {g : Gh} (hI : g.I = Old w) (hw : g.w = w) : ∃ x, ArgIs agg ss x ∧ RA ν g v x := by
  obtain ⟨n, hn⟩ := h
  simp only [argB, Bool.and_eq_true, beq_iff_eq] at ht
  obtain ⟨⟨⟨hE, hcE⟩, hsh⟩, hagg⟩ := ht
  obtain ⟨xs, hx⟩ := reads_at (ν := ν) hE hcE n 9 t ss _ _ hsh hn
  unfold Value.okWide at hval
  split at hagg
  · rename_i dd hu
    rw [beq_iff_eq] at hagg
    subst hagg
    have hcells : isAggD dd = true → ∃ cs, v = .agg cs := by
      intro h
      rw [hu] at hval
      cases dd <;> simp [isAggD] at h <;> (obtain ⟨cs, rfl, _⟩ := hval; exact ⟨cs, rfl⟩)
    cases hd : isAggD dd with
    | true =>
      obtain ⟨cs, rfl⟩ := hcells hd
      refine ⟨.agg (xs.map .iv), ⟨xs, hx.2.1, by simp⟩, .agg (by have := hx.1; simp [Value.cells] at this; simp [this]) (fun j v hv => ?_) fun j v c hv hc => ?_⟩
      · have hj : j < xs.length := by have := (Array.getElem?_eq_some_iff.1 hv).1; have h2 := hx.1; simp [Value.cells] at h2; omega
        exact (hx.2.2 j v _ (by simpa [Value.cells] using hv) (List.getElem?_eq_getElem hj)).one
      · simp only [List.getElem?_map, Option.map_eq_some_iff] at hc
        obtain ⟨y, hy, rfl⟩ := hc
        refine .iv ?_
        rw [hI, hw]
        exact hx.2.2 j v y (by simpa [Value.cells] using hv) hy
    | false =>
      have h1 : v.cells.toList.length = 1 ∨ True := .inr trivial
      clear h1
      have hone : ∃ c, v.cells.toList = [c] ∧ c = v := by
        cases v <;> first | exact ⟨_, rfl, rfl⟩ | skip
        · rename_i cs
          exfalso
          rw [hu] at hval
          cases dd <;> simp [isAggD] at hd <;> simp [Cell.okWide, Cell.ok] at hval
      obtain ⟨c, hc, rfl⟩ := hone
      rw [hc] at hx
      have hxl := hx.1
      match xs, hxl with
      | [y], _ =>
        refine ⟨.iv y, ⟨[y], hx.2.1, by simp⟩, .iv ?_⟩
        rw [hI, hw]
        exact hx.2.2 0 c y rfl rfl
  · cases hagg
end
end Arx

/-
  MORE ROUNDS CHANGE NOTHING, of either machine.
-/
namespace Arx
open Go Arb

def Cle1 (c c' : Call1) : Prop := ∀ f as hp p, c f as hp = some p → c' f as hp = some p
def CleX (c c' : CallX) : Prop := ∀ f as hp nx p, c f as hp nx = some p → c' f as hp nx = some p
def Mle {α : Type} (m m' : M α) : Prop := ∀ h p, m.run h = some p → m'.run h = some p ∧ m'.foot h = m.foot h
theorem Mle.refl {α : Type} (m : M α) : Mle m m := fun _ _ e => ⟨e, rfl⟩
theorem M.foot_bind2 {α β : Type} (m : M α) (f : α → M β) (h : Hp) : (m.bind f).foot h = match m.run h with
    | some (a, h1) => ((m.foot h).1 ++ ((f a).foot h1).1, ((f a).foot h1).2 ++ (m.foot h).2)
    | none => m.foot h := by
  induction m generalizing h with
  | ret a => simp [M.bind, M.run, M.foot]
  | fail => simp [M.bind, M.run, M.foot]
  | get id k ih =>
    simp only [M.bind, M.run, M.foot, ih]
    cases (k (Arx.get h id)).run h <;> simp
  | put id o k ih =>
    simp only [M.bind, M.run, M.foot, ih]
    cases k.run (Arx.set h id o) <;> simp
theorem Mle.bind {α β : Type} {m m' : M α} {f f' : α → M β} (h : Mle m m') (hf : ∀ a, Mle (f a) (f' a)) : Mle (m.bind f) (m'.bind f') := by
  intro g p e
  obtain ⟨a, h1, e1, e2⟩ := M.bind_some e
  obtain ⟨q1, q2⟩ := h _ _ e1
  obtain ⟨q3, q4⟩ := hf a _ _ e2
  refine ⟨by rw [M.run_bind, q1]; exact q3, ?_⟩
  rw [M.foot_bind2, M.foot_bind2, q1, e1]
  simp only [q2, q4]
theorem Mle.lift {α : Type} {x y : Option α} (h : ∀ a, x = some a → y = some a) : Mle (M.lift x) (M.lift y) := by
  cases x with
  | none => intro g p e; exact (M.fail_some e).elim
  | some a => rw [h a rfl]; exact .refl _

theorem osem_le {c c' : Call1} (h : Cle1 c c') {slot : Nat} {ρ : Opd → AV} (op : IOp) : Mle (osem c slot ρ op) (osem c' slot ρ op) := by
  cases op <;> first | exact .refl _ | skip
  rename_i mode f args
  simp only [osem]
  match mode with
  | 0 =>
    refine .bind (.refl _) fun q => .bind (.refl _) fun as => .bind (.lift fun a ha => ?_) fun r => .refl _
    simp only [Option.bind_eq_some_iff] at ha ⊢
    obtain ⟨p, h1, h2⟩ := ha
    exact ⟨p, h _ _ _ _ h1, h2⟩
  | _ + 1 =>
    refine .bind (.refl _) fun q => .bind (.refl _) fun as => .bind (.lift fun a ha => ?_) fun r => .refl _
    simp only [Option.bind_eq_some_iff] at ha ⊢
    obtain ⟨p, h1, h2⟩ := ha
    exact ⟨p, h _ _ _ _ h1, h2⟩

section
variable {c c' : Call1} {x x' : CallX}

theorem step_le (h : Cle1 c c') (hx : CleX x x') {slot : Nat} {o : IOper} {s s1 : St} (e : step c x slot o s = some s1) : step c' x' slot o s = some s1 ∧ footOf c' slot o s s1.hp = footOf c slot o s s1.hp := by
  unfold step at e ⊢
  unfold footOf
  cases hw : wants s.fr o.gd with
  | none => rw [hw] at e; cases e
  | some b =>
    rw [hw] at e
    cases b with
    | false => exact ⟨e, rfl⟩
    | true =>
      simp only [] at e ⊢
      cases hs : isS o.op with
      | some fa =>
        rw [hs] at e
        simp only [] at e ⊢
        cases hcl : callee (ev s.fr fa.1) with
        | none => rw [hcl] at e; cases e
        | some q =>
          rw [hcl] at e
          simp only [] at e ⊢
          cases hr : x q.1 (q.2.1 ++ (fa.2.map (ev s.fr) ++ q.2.2)) s.hp s.nx with
          | none => rw [hr] at e; cases e
          | some p =>
            rw [hr] at e
            rw [hx _ _ _ _ _ hr]
            exact ⟨e, trivial⟩
      | none =>
        rw [hs] at e
        simp only [] at e ⊢
        cases hr : (osem c slot (ev s.fr) o.op).run s.hp with
        | none => rw [hr] at e; cases e
        | some p =>
          obtain ⟨q1, q2⟩ := osem_le h o.op _ _ hr
          rw [hr] at e
          rw [q1, q2]
          exact ⟨e, rfl⟩

theorem ops_le (h : Cle1 c c') (hx : CleX x x') : ∀ (ops : List IOper) (slot : Nat) (s s1 : St), evalOps c x ops slot s = some s1 → evalOps c' x' ops slot s = some s1
  | [], slot, s, s1, e => e
  | o :: r, slot, s, s1, e => by
    simp only [evalOps] at e ⊢
    cases h1 : step c x slot o s with
    | none => rw [h1] at e; cases e
    | some s2 =>
      rw [h1] at e
      rw [(step_le h hx h1).1]
      exact ops_le h hx r _ _ _ e
theorem feet_le (h : Cle1 c c') (hx : CleX x x') : ∀ (ops : List IOper) (slot : Nat) (s : St) (p : St × List Feet), evalFeet c x ops slot s = some p → evalFeet c' x' ops slot s = some p
  | [], slot, s, p, e => e
  | o :: r, slot, s, p, e => by
    simp only [evalFeet] at e ⊢
    cases h1 : step c x slot o s with
    | none => rw [h1] at e; cases e
    | some s2 =>
      obtain ⟨q1, q2⟩ := step_le h hx h1
      rw [h1] at e
      rw [q1]
      simp only [] at e ⊢
      cases h2 : evalFeet c x r (slot + 1) s2 with
      | none => rw [h2] at e; cases e
      | some p2 =>
        rw [h2] at e
        rw [feet_le h hx r _ _ _ h2, q2]
        exact e

theorem rgn_le (h : Cle1 c c') (hx : CleX x x') {draw : Bool} {ops : List IOper} {keep : List Nat} {s s1 : St} (e : evalRgn c x draw ops keep s = some s1) : evalRgn c' x' draw ops keep s = some s1 := by
  unfold evalRgn at e ⊢
  cases draw with
  | false =>
    simp only [Bool.false_eq_true, if_false] at e ⊢
    cases h1 : evalOps c x ops s.nx { s with nx := s.nx + ops.length } with
    | none => rw [h1] at e; cases e
    | some s2 =>
      rw [h1] at e
      rw [ops_le h hx ops _ _ _ h1]
      exact e
  | true =>
    simp only [if_true] at e ⊢
    cases h1 : evalFeet c x ops s.nx { s with nx := s.nx + ops.length } with
    | none => rw [h1] at e; cases e
    | some s2 =>
      rw [h1] at e
      rw [feet_le h hx ops _ _ _ h1]
      exact e

theorem iter_le {f f' : St → Option (Ex × St)} (h : ∀ s r, f s = some r → f' s = some r) {keep : List Nat} : ∀ (m m' : Nat) (s : St) (r : Ex × St), m ≤ m' → iter f keep m s = some r → iter f' keep m' s = some r
  | 0, _, s, r, _, e => by simp [iter] at e
  | m + 1, m', s, r, hm, e => by
    obtain ⟨m', rfl⟩ : ∃ k, m' = k + 1 := ⟨m' - 1, by omega⟩
    simp only [iter] at e ⊢
    cases h1 : f s with
    | none => rw [h1] at e; cases e
    | some p =>
      obtain ⟨ex, s1⟩ := p
      rw [h1] at e
      rw [h _ _ h1]
      cases ex with
      | norm => exact iter_le h m m' _ r (by omega) e
      | exit i => exact e
      | ret => exact e

theorem code_le (h : Cle1 c c') (hx : CleX x x') {n n' : Nat} (hn : n ≤ n') : ∀ (ic : IC) (s : St) (r : Ex × St), evalC c x n ic s = some r → evalC c' x' n' ic s = some r := by
  intro ic
  induction ic with
  | skip => exact fun s r e => e
  | exit id => exact fun s r e => e
  | ret => exact fun s r e => e
  | stop => exact fun s r e => e
  | scope b ih =>
    intro s r e
    simp only [evalC] at e ⊢
    exact ih s r e
  | rgn draw ops keep =>
    intro s r e
    simp only [evalC, Option.map_eq_some_iff] at e ⊢
    obtain ⟨s1, h1, h2⟩ := e
    exact ⟨s1, rgn_le h hx h1, h2⟩
  | seq a b iha ihb =>
    intro s r e
    simp only [evalC] at e ⊢
    cases h1 : evalC c x n a s with
    | none => rw [h1] at e; cases e
    | some p =>
      obtain ⟨ex, s1⟩ := p
      rw [h1] at e
      rw [iha _ _ h1]
      cases ex with
      | norm => exact ihb _ _ e
      | exit i => exact e
      | ret => exact e
  | cond d a b iha ihb =>
    intro s r e
    simp only [evalC] at e ⊢
    generalize ev s.fr d = v at e
    split at e
    · rename_i t
      cases t with
      | true => exact iha _ _ e
      | false => exact ihb _ _ e
    · cases e
  | block id b ih =>
    intro s r e
    simp only [evalC] at e ⊢
    cases h1 : evalC c x n b s with
    | none => rw [h1] at e; cases e
    | some p =>
      rw [h1] at e
      rw [ih _ _ h1]
      exact e
  | loop keep b ih =>
    intro s r e
    simp only [evalC] at e ⊢
    exact iter_le ih n n' _ r hn e
end

/-- a primitive's part of it -/
def PrimLe (p : Call1 → CallX → List AV → Hp → Nat → Option (AV × Hp × Nat)) : Prop := ∀ c c' x x', Cle1 c c' → CleX x x' → ∀ args h nx r, p c x args h nx = some r → p c' x' args h nx = some r
def PrimsLe (prog : Nat → Option IFn) : Prop := ∀ f ir p, prog f = some ir → ir.prim = some p → PrimLe p

theorem evalF_le2 {prog : Nat → Option IFn} (hp : PrimsLe prog) {c c' : Call1} (hc : Cle1 c c') : ∀ (n n' : Nat), n ≤ n' → CleX (evalF c prog n) (evalF c' prog n')
  | 0, _, _ => fun f as hp nx p e => by simp [evalF] at e
  | n + 1, n', hn => by
    obtain ⟨n', rfl⟩ : ∃ k, n' = k + 1 := ⟨n' - 1, by omega⟩
    have ih := evalF_le2 hp hc n n' (by omega)
    intro f as h nx p e
    simp only [evalF] at e ⊢
    cases hf : prog f with
    | none => rw [hf] at e; cases e
    | some fn =>
      rw [hf] at e
      simp only [] at e ⊢
      cases hcl : fn.prim with
      | some q => rw [hcl] at e; exact hp f fn q hf hcl _ _ _ _ hc ih _ _ _ _ e
      | none =>
        rw [hcl] at e
        simp only [] at e ⊢
        split at e
        · rename_i hl
          rw [if_pos hl]
          cases h1 : evalC c (evalF c prog n) n fn.body ⟨params as 0, h, nx⟩ with
          | none => rw [h1] at e; cases e
          | some q =>
            rw [h1] at e
            rw [code_le hc ih (by omega) _ _ _ h1]
            exact e
        · cases e
theorem one_le {p1 : Nat → Option Arb.IFn} {n n' : Nat} (hn : n ≤ n') : Cle1 (Arb.evalF p1 n) (Arb.evalF p1 n') := fun f as hp p e => Arb.evalF_le n n' hn _ _ _ _ e
end Arx

/-
  HOW THE ABSTRACT MACHINE IS WALKED: what a piece of code comes to, with rounds enough.
-/
namespace Arx
open Go Arb

section
variable {p1 : Nat → Option Arb.IFn} {p2 : Nat → Option IFn}

/-- both machines, with so many rounds -/
def one (p1 : Nat → Option Arb.IFn) (n : Nat) : Call1 := Arb.evalF p1 n
def run2 (p1 : Nat → Option Arb.IFn) (p2 : Nat → Option IFn) (n : Nat) : CallX := evalF (one p1 n) p2 n

/-- a call's answer, what it leaves, and the next number -/
def Ev (p1 : Nat → Option Arb.IFn) (p2 : Nat → Option IFn) (f : Nat) (args : List AV) (hp : Hp) (nx : Nat) (p : AV × Hp × Nat) : Prop := ∃ K, ∀ n, K ≤ n → run2 p1 p2 n f args hp nx = some p

/-- the code comes to an end for which Q holds -/
def Wp (p1 : Nat → Option Arb.IFn) (p2 : Nat → Option IFn) (c : IC) (s : St) (Q : Ex → St → Prop) : Prop := ∃ K ex s', (∀ n, K ≤ n → evalC (one p1 n) (run2 p1 p2 n) n c s = some (ex, s')) ∧ Q ex s'

def Ex.then (k : St → Prop) (Q : Ex → St → Prop) : Ex → St → Prop
  | .norm, s => k s
  | e, s => Q e s
def Ex.inBlock (id : Nat) (Q : Ex → St → Prop) : Ex → St → Prop
  | .exit i, s => if i = id then Q .norm s else Q (.exit i) s
  | e, s => Q e s

theorem Wp.mono {c : IC} {s : St} {Q Q' : Ex → St → Prop} (h : Wp p1 p2 c s Q) (hq : ∀ e s, Q e s → Q' e s) : Wp p1 p2 c s Q' := by
  obtain ⟨K, ex, s', h, q⟩ := h
  exact ⟨K, ex, s', h, hq _ _ q⟩

theorem Wp.skip {s : St} {Q : Ex → St → Prop} (h : Q .norm s) : Wp p1 p2 .skip s Q := ⟨0, _, _, fun _ _ => rfl, h⟩
theorem Wp.exit {id : Nat} {s : St} {Q : Ex → St → Prop} (h : Q (.exit id) s) : Wp p1 p2 (.exit id) s Q := ⟨0, _, _, fun _ _ => rfl, h⟩
theorem Wp.ret {s : St} {Q : Ex → St → Prop} (h : Q .ret s) : Wp p1 p2 .ret s Q := ⟨0, _, _, fun _ _ => rfl, h⟩

theorem Wp.seq {a b : IC} {s : St} {Q : Ex → St → Prop} (h : Wp p1 p2 a s (Ex.then (fun s' => Wp p1 p2 b s' Q) Q)) : Wp p1 p2 (.seq a b) s Q := by
  obtain ⟨K, ex, s', h, q⟩ := h
  cases ex with
  | norm =>
    obtain ⟨K2, ex2, s2, h2, q2⟩ := q
    exact ⟨max K K2, ex2, s2, fun n hn => by simp only [evalC, h n (by omega), h2 n (by omega)], q2⟩
  | exit i => exact ⟨K, _, _, fun n hn => by simp only [evalC, h n hn], q⟩
  | ret => exact ⟨K, _, _, fun n hn => by simp only [evalC, h n hn], q⟩

theorem Wp.cond {c : Opd} {a b : IC} {s : St} {Q : Ex → St → Prop} {t : Bool} (hc : ev s.fr c = .iv (.bool t)) (h : Wp p1 p2 (if t then a else b) s Q) : Wp p1 p2 (.cond c a b) s Q := by
  obtain ⟨K, ex, s', h, q⟩ := h
  refine ⟨K, ex, s', fun n hn => ?_, q⟩
  have := h n hn
  cases t <;> simpa [evalC, hc] using this

theorem Wp.block {id : Nat} {b : IC} {s : St} {Q : Ex → St → Prop} (h : Wp p1 p2 b s (Ex.inBlock id Q)) : Wp p1 p2 (.block id b) s Q := by
  obtain ⟨K, ex, s', h, q⟩ := h
  cases ex with
  | norm => exact ⟨K, _, _, fun n hn => by simp only [evalC, h n hn], q⟩
  | ret => exact ⟨K, _, _, fun n hn => by simp only [evalC, h n hn], q⟩
  | exit i =>
    simp only [Ex.inBlock] at q
    by_cases hi : i = id
    · rw [if_pos hi] at q
      exact ⟨K, .norm, s', fun n hn => by simp only [evalC, h n hn, if_pos hi], q⟩
    · rw [if_neg hi] at q
      exact ⟨K, .exit i, s', fun n hn => by simp only [evalC, h n hn, if_neg hi], q⟩

theorem Wp.rgn {draw : Bool} {ops : List IOper} {keep : List Nat} {s s' : St} {Q : Ex → St → Prop} {K : Nat} (h : ∀ n, K ≤ n → evalRgn (one p1 n) (run2 p1 p2 n) draw ops keep s = some s') (q : Q .norm s') : Wp p1 p2 (.rgn draw ops keep) s Q :=
  ⟨K, _, _, fun n hn => by simp only [evalC, h n hn, Option.map_some], q⟩

theorem Wp.loop {keep : List Nat} {b : IC} {s : St} {Q : Ex → St → Prop} (I : Nat → St → Prop) {m : Nat} (h0 : I m { s with fr := keepFr keep s.fr })
    (round : ∀ m s1, I m s1 → Wp p1 p2 b s1 (Ex.then (fun s2 => ∃ j, j < m ∧ I j ({ s2 with fr := keepFr keep s2.fr })) Q)) : Wp p1 p2 (.loop keep b) s Q := by
  have key : ∀ m s1, I m s1 → ∃ K ex s', (∀ n, K ≤ n → ∀ j, K ≤ j → iter (evalC (one p1 n) (run2 p1 p2 n) n b) keep j s1 = some (ex, s')) ∧ Q ex s' := by
    intro m
    induction m using Nat.strongRecOn with
    | _ m ih =>
      intro s1 hI
      obtain ⟨K, ex, s2, h, q⟩ := round m s1 hI
      cases ex with
      | norm =>
        obtain ⟨j, hj, hIj⟩ := q
        obtain ⟨K2, ex2, s3, h2, q2⟩ := ih j hj _ hIj
        refine ⟨max K K2 + 1, ex2, s3, fun n hn i hi => ?_, q2⟩
        obtain ⟨i, rfl⟩ : ∃ i', i = i' + 1 := ⟨i - 1, by omega⟩
        simp only [iter, h n (by omega)]
        exact h2 n (by omega) i (by omega)
      | exit e =>
        refine ⟨K + 1, .exit e, s2, fun n hn i hi => ?_, q⟩
        obtain ⟨i, rfl⟩ : ∃ i', i = i' + 1 := ⟨i - 1, by omega⟩
        simp only [iter, h n (by omega)]
      | ret =>
        refine ⟨K + 1, .ret, s2, fun n hn i hi => ?_, q⟩
        obtain ⟨i, rfl⟩ : ∃ i', i = i' + 1 := ⟨i - 1, by omega⟩
        simp only [iter, h n (by omega)]
  obtain ⟨K, ex, s', h, q⟩ := key m _ h0
  exact ⟨K, ex, s', fun n hn => by simp only [evalC]; exact h n hn n hn, q⟩

/-- the end of a function -/
def Fin (res : List IRes) (p : AV × Hp × Nat) : Ex → St → Prop
  | .norm, s | .ret, s => (resAll s.fr res).run s.hp = some (p.1, p.2.1) ∧ s.nx = p.2.2
  | _, _ => False
theorem Ev.at (hp2 : PrimsLe p2) {n f : Nat} {args : List AV} {hp : Hp} {nx : Nat} {p : AV × Hp × Nat} (e : run2 p1 p2 n f args hp nx = some p) : Ev p1 p2 f args hp nx p :=
  ⟨n, fun m hm => evalF_le2 hp2 (one_le hm) n m hm _ _ _ _ _ e⟩
theorem Ev.of (hp2 : PrimsLe p2) {f : Nat} {fn : IFn} (hf : p2 f = some fn) (hcl : fn.prim = none) {args : List AV} (hn : args.length = fn.np) {hp : Hp} {nx : Nat} {p : AV × Hp × Nat} (h : Wp p1 p2 fn.body ⟨params args 0, hp, nx⟩ (Fin fn.res p)) : Ev p1 p2 f args hp nx p := by
  obtain ⟨K, ex, s', h, q⟩ := h
  refine Ev.at hp2 (n := K + 1) ?_
  have h0 := code_le (one_le (p1 := p1) (Nat.le_succ K)) (evalF_le2 hp2 (one_le (p1 := p1) (Nat.le_succ K)) K K (Nat.le_refl K)) (Nat.le_refl K) _ _ _ (h K (Nat.le_refl K))
  unfold run2
  simp only [evalF, hf, hcl, if_pos hn]
  have h1 : evalC (one p1 (K + 1)) (evalF (one p1 (K + 1)) p2 K) K fn.body ⟨params args 0, hp, nx⟩ = some (ex, s') := h0
  rw [h1]
  cases ex with
  | norm => simp only [q.1, q.2]
  | ret => simp only [q.1, q.2]
  | exit i => exact q.elim
end
end Arx

/-
  WHAT SOME FUNCTIONS OF THE LIBRARY, AND OF THE PROGRAM, DO, as Lean functions: a copy of a row; what goes over a map in any order.
-/
namespace Arx
open Go Arb
namespace Prim
abbrev PrimF := Call1 → CallX → List AV → Hp → Nat → Option (AV × Hp × Nat)

/-- slices.Clone: a copy, whether the row is nil or not -/
def clone (e : Nat) : PrimF := fun _ _ args hp nx =>
  match args with
  | [x] => match (elems e x).run hp with
    | some (ys, _) => match ys with
      | [] => some (.iv (.nsl e), hp, nx)
      | ys => if roomy ys.length && (get hp (4 * (nx + 2))).isNone then some (.own (4 * (nx + 2)) 0 ys.length 0, set hp (4 * (nx + 2)) (.buf 0 e ys), nx + 4) else none
    | none => none
  | _ => none

/-- how many all the rows have -/
def rowLens (h : Hp) : List (AV × AV) → Option Nat
  | [] => some 0
  | p :: r => match (len false p.2).run h, rowLens h r with
    | some (.iv (.int _ n), _), some k => some (n.toNat + k)
    | _, _ => none
/-- (*link.Net).Total: how many stand in all queues -/
def total : PrimF := fun _ _ args hp nx =>
  match args with
  | [.iv .nilp] => some (.iv (.int .i64 0), hp, nx)
  | [.ref id 0 0 0] => match get hp id with
    | some (.cells (_ :: .ref m 0 0 0 :: _)) => match get hp m with
      | some (.map kvs) => match rowLens hp kvs with
        | some k => if Nat.ble k 4611686018427387904 then some (.iv (.int .i64 k), hp, nx) else none
        | none => none
      | _ => none
    | _ => none
  | _ => none
end Prim
end Arx

/-
  A COPY OF A ROW: Go's library asks whether the row is nil; the abstract machine does not know, and need not.
-/
namespace Arx
open Go Go.RowKit Arb

def ioMov (d : Nat) (x : Opd) : IOper := ⟨some d, .mov x, none, []⟩
def cpIr (e : Nat) : List IOper := [⟨some 5, .bs0 e, none, []⟩, ioMov 6 (.t 0), ⟨some 7, .app e false (.t 5) (.t 6), none, []⟩, ioMov 2 (.t 7)]
def cNilQ (P : Program) (nt e : Nat) (b : Oper) : Bool :=
  b.dst == some 4 && Nat.blt 4 nt && (match b.guard with | none => true | _ => false) && (match b.op with | .binOp .eql t (.tmp 3) (.const (.slice none 0 0)) _ => sliceB P t e | _ => false)
def cClone (P : Program) (ν : Nat → Nat) (nt : Nat) (c : Code) (e : Nat) : Bool :=
  match c with
  | .seq (.region _ o1 false) (.seq (.seq (.region _ o2 false) (.cond (.tmp 4) (.seq (.region _ o3 false) .ret) .skip)) (.seq (.region _ o4 false) .ret)) =>
    cRgn P ν nt false o1 [ioMov 2 (.c (.iv (.nsl e)))] && (match o2.toList with | [a, b] => cOper P ν nt o2 a (ioMov 3 (.t 0)) && cNilQ P nt e b | _ => false) &&
    cRgn P ν nt false o3 [ioMov 2 (.c (.iv (.nsl e)))] && cRgn P ν nt false o4 (cpIr e)
  | _ => false

section
variable {ν : Nat → Nat} {P : Program} {k : Cx}

def noCall : Call1 := fun _ _ _ => none
def noX : CallX := fun _ _ _ _ => none
theorem noCall_sound : Arb.CallSound ν P noCall := fun f args hp r hp' e => by simp [noCall] at e
theorem noX_sound : CallSound ν P noX := fun f args hp nx r hp' nx' e => by simp [noX] at e
theorem noX_more : MoreX noX := fun f args hp nx r hp' nx' e => by simp [noX] at e

theorem elems_same {e : Nat} {x : AV} {hp h' : Hp} {ys : List (List AV)} (he : (elems e x).run hp = some (ys, h')) : h' = hp := by
  unfold elems at he
  split at he
  · obtain ⟨o, h1, e1, e2⟩ := M.bind_some he
    obtain ⟨hg, rfl⟩ := M.look_some e1
    split at e2
    all_goals first
      | exact (M.fail_some e2).elim
      | (obtain ⟨_, h2, e3, e4⟩ := M.bind_some e2
         obtain ⟨_, rfl⟩ := M.ok_some e3
         exact (M.ret_some e4).2)
  · obtain ⟨_, h2, e3, e4⟩ := M.bind_some he
    obtain ⟨_, rfl⟩ := M.ok_some e3
    exact (M.ret_some e4).2
  · exact (M.ret_some he).2
  · exact (M.fail_some he).elim
theorem elemsS_same {e : Nat} {x : AV} {hp h' : Hp} {ys : List (List AV)} (he : (elems e x).run hp = some (ys, h')) : elemsS e x = elems e x := by
  unfold elemsS
  split
  · simp [elems, M.run] at he
  · rfl

theorem ev_cp1 (e : Nat) (x : AV) (hp : Hp) (nx : Nat) : evalRgn noCall noX false [ioMov 2 (.c (.iv (.nsl e)))] [0] ⟨[(0, x)], hp, nx⟩ = some ⟨[(0, x)], hp, nx + 1⟩ := rfl
theorem ev_cp3 (e : Nat) (fr : Fr) (hp : Hp) (nx : Nat) : evalRgn noCall noX false [ioMov 2 (.c (.iv (.nsl e)))] [2] ⟨fr, hp, nx⟩ = some ⟨[(2, .iv (.nsl e))], hp, nx + 1⟩ := by
  have : get (Arx.set fr 2 (AV.iv (.nsl e))) 2 = some (.iv (.nsl e)) := get_set_same _ _ _
  simp [evalRgn, ioMov, evalOps, step, wants, isS, osem, M.run, putD, ev, keepFr, this]

theorem ev_cp4 {e : Nat} {x : AV} {hp : Hp} {nx : Nat} {ys : List (List AV)} (he : (elems e x).run hp = some (ys, hp)) (hr : ys ≠ [] → roomy ys.length = true ∧ get hp (4 * (nx + 2)) = none) :
    evalRgn noCall noX false (cpIr e) [2] ⟨[(0, x)], hp, nx⟩ =
      some ⟨[(2, if ys.isEmpty then .iv (.nsl e) else .own (4 * (nx + 2)) 0 ys.length 0)], if ys.isEmpty then hp else Arx.set hp (4 * (nx + 2)) (.buf 0 e ys), nx + 4⟩ := by
  have hs := elemsS_same he
  cases ys with
  | nil => simp [evalRgn, cpIr, ioMov, evalOps, step, wants, isS, osem, M.run_bind, M.run, putD, ev, keepFr, get_set, fr_cons, app, hs, he]
  | cons y ys =>
    obtain ⟨h1, h2⟩ := hr (by simp)
    have h2' : Arx.get hp (4 * (nx + 1 + 1)) = none := h2
    have h1' : roomy (ys.length + 1) = true := by simpa using h1
    simp [evalRgn, cpIr, ioMov, evalOps, step, wants, isS, osem, M.run_bind, M.run, putD, ev, keepFr, get_set, fr_cons, app, hs, he, M.ok, M.fresh, M.write, h1', h2']

theorem Sim.nx {nt : Nat} {g : Gh} {a : Act} {s : St} (m : Sim ν k nt g a s) {fr : Fr} (hf : ∀ t x, get fr t = some x → get s.fr t = some x) {hp : Hp} (hh : hp = s.hp) (n : Nat) : Sim ν k nt g a ⟨fr, hp, n⟩ := by
  subst hh; exact ⟨m.h, m.r, fun t x ht => m.f t x (hf t x ht), m.n, m.d⟩

theorem clone_ok {f : Nat} {fn : Func} {c : Code} (hfn : P.funcs[ν f]? = some fn) (hb : fn.body = some c) (hmix : P.follows .mixedOrders = true) {e : Nat} (hc : cClone P ν fn.ntmps c e = true)
    (hres : cRess P fn.results.toList [.t 2] = true) {c1 : Call1} {cx : CallX} {args : List AV} {hp : Hp} {nx : Nat} {r : AV} {hp' : Hp} {nx' : Nat} (he : Prim.clone e c1 cx args hp nx = some (r, hp', nx')) : CallOK ν P f args hp r hp' := by
  intro k0 g0 cargs hh r0 hRL
  unfold Prim.clone at he
  split at he
  case h_2 => cases he
  rename_i x
  cases hel : (elems e x).run hp with
  | none => rw [hel] at he; cases he
  | some p =>
  obtain ⟨ys, h1⟩ := p
  obtain rfl := elems_same hel
  rw [hel] at he
  simp only [] at he
  -- what it comes to
  have hcond : (ys ≠ [] → roomy ys.length = true ∧ get h1 (4 * (nx + 2)) = none) ∧ r = (if ys.isEmpty then .iv (.nsl e) else .own (4 * (nx + 2)) 0 ys.length 0) ∧ hp' = (if ys.isEmpty then h1 else Arx.set h1 (4 * (nx + 2)) (.buf 0 e ys)) := by
    cases ys with
    | nil =>
      simp only [Option.some.injEq, Prod.mk.injEq] at he
      obtain ⟨rfl, rfl, -⟩ := he
      exact ⟨fun h => absurd rfl h, rfl, rfl⟩
    | cons y ys =>
      simp only [] at he
      split at he
      · rename_i hk
        simp only [Bool.and_eq_true, Option.isNone_iff_eq_none] at hk
        simp only [Option.some.injEq, Prod.mk.injEq] at he
        obtain ⟨rfl, rfl, -⟩ := he
        exact ⟨fun _ => hk, rfl, rfl⟩
      · cases he
  obtain ⟨hroom, rfl, rfl⟩ := hcond
  obtain ⟨cv, hcv⟩ : ∃ cv, cargs = #[cv] := by
    have := hRL.1
    simp only [List.length_cons, List.length_nil, Nat.zero_add, Array.length_toList] at this
    obtain ⟨l⟩ := cargs
    match l, this with
    | [v], _ => exact ⟨v, rfl⟩
  subst hcv
  have hR0 : RA ν g0 cv x := hRL.2 0 _ _ rfl rfl
  refine calls_of_wp hfn hb ?_
  have m0 : Sim ν k0 fn.ntmps g0 { tmps := #[cv] ++ Array.replicate (fn.ntmps - 1) undef, defers := [] } ⟨[(0, x)], h1, nx⟩ := by
    refine ⟨hh, r0, fun t x' ht => ?_, by simp; omega, rfl⟩
    simp only [fr_cons, fr_nil] at ht
    split at ht
    · rename_i h0
      subst h0
      simp only [Option.some.injEq] at ht
      subst ht
      exact ⟨cv, by simp [Array.getElem?_append], hR0⟩
    · cases ht
  unfold cClone at hc
  split at hc
  case h_2 => cases hc
  rename_i i1 o1 i2 o2 i3 o3 i4 o4
  simp only [Bool.and_eq_true] at hc
  obtain ⟨⟨⟨hc1, hc2⟩, hc3⟩, hc4⟩ := hc
  split at hc2
  case h_2 => cases hc2
  rename_i oa ob hl
  simp only [Bool.and_eq_true] at hc2
  obtain ⟨hoa, hob⟩ := hc2
  simp only [cNilQ, Bool.and_eq_true, beq_iff_eq] at hob
  obtain ⟨⟨⟨hbd, hbn⟩, hbg⟩, hbo⟩ := hob
  have hbg' : ob.guard = none := by
    split at hbg
    · assumption
    · cases hbg
  split at hbo
  case h_2 => cases hbo
  rename_i t yt hbop
  obtain ⟨el, ti, hut, -, -⟩ := sliceB_spec hbo
  refine wp_seq (rgn_wp noCall_sound noX_sound noX_more hmix hc1 (ev_cp1 e x h1 nx) m0 fun g1 a1 m1 hm1 => ?_)
  refine wp_seq (wp_seq (wp_region_list ?_))
  rw [hl]
  refine wpList_step fun K hK => step_wp (slot := 0) (s1 := ⟨[(0, x), (3, x)], h1, nx + 1⟩) noCall_sound noX_sound hoa m1 rfl fun g2 a2 m2 hm2 => hK _ _ ?_
  refine wpList_step fun K2 hK2 => ?_
  simp only [Region.wanted, hbg', if_true]
  obtain ⟨v3, hv3, hR3⟩ := m2.f 3 x rfl
  have hev : a2.eval (.tmp 3) = v3 := by simp [Act.eval, Array.getD, (Array.getElem?_eq_some_iff.1 hv3).1, (Array.getElem?_eq_some_iff.1 hv3).2]
  obtain ⟨aa, cap, hvs, hnil⟩ : ∃ aa cap, v3 = .slice aa ys.length cap ∧ (aa = none → ys = []) := by
    obtain ⟨-, news, ⟨aa, cap, h1, h2⟩, -⟩ := elems_ok m2.r (by rw [m2.h]; exact hel) hR3
    refine ⟨aa, cap, h1, fun ha => ?_⟩
    rcases h2 with h2 | ⟨b, off, h2, -⟩
    · exact List.eq_nil_of_length_eq_zero h2
    · rw [ha] at h2; cases h2
  subst hvs
  have hrun : (execOp a2.eval ob).run P g2.w = .ok (.value (.bool aa.isNone)) g2.w := by
    have hg : eqGuard .eql t (.tmp 3) (.const (.slice none 0 0)) (.slice aa ys.length cap) (.slice none 0 0) = pure () := rfl
    have := Lib.run_eql_slice_nil g2.w t el aa ys.length cap 0 0 hut
    simp only [execOp, hbop, hev, show a2.eval (.const (.slice none 0 0)) = .slice none 0 0 from rfl, hg]
    simp only [Sem.run_bind, Sem.run_pure, Result.andThen_ok, this]
  unfold Oper.wp
  rw [hrun, Oper.upon_value]
  refine hK2 _ _ (wpList_nil ?_)
  have m3 := m2.put (nx' := nx + 1) (d := some 4) (v := .bool aa.isNone) (y := .iv (.bool aa.isNone)) (fun t ht => by cases ht; simpa using hbn) m2.h m2.r (.refl ν g2) (.iv (.bool _))
  rw [← hbd] at m3
  simp only [Exit.then]
  have hcond : (a2.put ob.dst (.bool aa.isNone)).eval (.tmp 4) = .bool aa.isNone := by
    have := eval_ok (ν := ν) (x := .tmp 4) (y := .t 4) m3.f (by rfl)
    have hev4 : ev (putD [(0, x), (3, x)] ob.dst (.iv (.bool aa.isNone))) (.t 4) = .iv (.bool aa.isNone) := by rw [hbd]; rfl
    rw [hev4] at this
    generalize (a2.put ob.dst (.bool aa.isNone)).eval (.tmp 4) = u at this
    cases this with
    | iv h => cases h; rfl
  refine wp_cond hcond ?_
  have fin : ∀ (g' : Gh) (a' : Act) (nx : Nat) (y : AV) (h2 : Hp), Sim ν k0 fn.ntmps g' a' ⟨[(2, y)], h2, nx⟩ → Mono ν g0 g' →
      a'.defers = [] ∧ ∃ v, (results fn a'.tmps).run P g'.w = .ok v g'.w ∧ ∃ u g'', Ending.returned v = .returned u ∧ g''.w = g'.w ∧ g''.h = h2 ∧ Rel ν k0 g'' ∧ Mono ν g0 g'' ∧ RA ν g'' u y := by
    intro g' a' nx y h2 m' hm
    obtain ⟨q0, v, q1, q6⟩ := resAll_ok (y := y) (h' := g'.h) m'.r m'.f hres (by simp) rfl
    exact ⟨m'.d, v, q1, v, g', rfl, rfl, m'.h, m'.r, hm, q6⟩
  have keep0 : ∀ t x', get ([(0, x)] : Fr) t = some x' → get (putD [(0, x), (3, x)] ob.dst (.iv (.bool aa.isNone))) t = some x' := by
    intro t x' ht
    simp only [fr_cons, fr_nil] at ht
    split at ht
    · rename_i h0; subst h0; rw [hbd]; exact ht
    · cases ht
  cases aa with
  | none =>
    obtain rfl := hnil rfl
    simp only [Option.isNone_none, if_true] at m3 ⊢
    refine wp_seq (rgn_wp noCall_sound noX_sound noX_more hmix hc3 (ev_cp3 e [(0, x)] h1 nx) (m3.nx keep0 rfl nx) fun g4 a4 m4 hm4 => wp_ret ?_)
    exact fin g4 a4 _ _ _ m4 ((hm1.trans hm2).trans hm4)
  | some ad =>
    simp only [Option.isNone_some, Bool.false_eq_true, if_false] at m3 ⊢
    refine wp_skip ?_
    simp only [Exit.then]
    refine wp_seq (rgn_wp noCall_sound noX_sound noX_more hmix hc4 (ev_cp4 (nx := nx) hel hroom) (m3.nx keep0 rfl nx) fun g4 a4 m4 hm4 => wp_ret ?_)
    exact fin g4 a4 _ _ _ m4 ((hm1.trans hm2).trans hm4)

theorem clone_more (e : Nat) : PrimMore (Prim.clone e) := by
  intro c1 cx hx args h nx r h' nx' he
  unfold Prim.clone at he ⊢
  split at he
  case h_2 => cases he
  rename_i x
  cases hel : (elems e x).run h with
  | none => rw [hel] at he; cases he
  | some p =>
    obtain ⟨ys, h1⟩ := p
    obtain rfl := elems_same hel
    rw [hel] at he
    simp only [] at he ⊢
    cases ys with
    | nil =>
      simp only [Option.some.injEq, Prod.mk.injEq] at he
      obtain ⟨rfl, rfl, rfl⟩ := he
      refine ⟨fun _ h => h, fun qs hq => ?_⟩
      rw [(M.more (NR.elems_ _ _) hel hq).1]
    | cons y ys =>
      simp only [] at he
      split at he
      case isFalse => cases he
      rename_i hk
      simp only [Option.some.injEq, Prod.mk.injEq] at he
      obtain ⟨rfl, rfl, rfl⟩ := he
      simp only [Bool.and_eq_true, Option.isNone_iff_eq_none] at hk
      refine ⟨fun n hn => hn.set, fun qs hq => ?_⟩
      have hq1 : Off qs h1 := hq.back fun n hn => hn.set
      have hne : ∀ p ∈ qs, p.1 ≠ 4 * (nx + 2) := hq.not On.same
      rw [(M.more (NR.elems_ _ _) hel hq1).1]
      simp only []
      rw [if_pos (by simp only [Bool.and_eq_true, Option.isNone_iff_eq_none]; exact ⟨hk.1, by rw [app_get hne]; exact hk.2⟩), app_set _ hne]
end
end Arx

/-
  HOW MANY STAND IN ALL ROWS OF A MAP, in whichever order they come.
-/
namespace Arx
open Go Go.RowKit Arb
open Go.ChangeMaps (setBlock)

/-! ### values in an act's slots -/
def Has (a : Act) (n : Nat) (v : Value) : Prop := a.tmps[n]? = some v
theorem Has.eval {a : Act} {n : Nat} {v : Value} (h : Has a n v) : a.eval (.tmp n) = v := by
  have := Array.getElem?_eq_some_iff.1 h
  simp [Act.eval, Array.getD, this.1, this.2]
theorem Has.ne {a : Act} {n d : Nat} {u v : Value} (h : Has a n v) (hne : d ≠ n) : Has (a.put (some d) u) n v := by
  unfold Has at *
  simp only [Act.put]
  rw [Array.getElem?_setIfInBounds_ne hne]; exact h
theorem Has.new {a : Act} {d : Nat} {u : Value} (h : d < a.tmps.size) : Has (a.put (some d) u) d u := by
  unfold Has
  simp [Act.put, h]
theorem put_size (a : Act) (d : Option Nat) (u : Value) : (a.put d u).tmps.size = a.tmps.size := by cases d <;> simp [Act.put]
theorem put_defers (a : Act) (d : Option Nat) (u : Value) : (a.put d u).defers = a.defers := by cases d <;> rfl

section
variable {ν : Nat → Nat} {P : Program} {k : Cx} {g : Gh}

/-- an operation that answers at once -/
theorem wpl_val {ops : Array Oper} {o : Oper} {rest : List Oper} {a : Act} {w w' : World} {v : Value} {Q : Exit → Act → World → Prop} (hg : o.guard = none) (h : (execOp a.eval o).run P w = .ok (.value v) w')
    (hK : wpList P ops Q rest (a.put o.dst v) w') : wpList P ops Q (o :: rest) a w := by
  refine wpList_plain hg fun K hK' => ?_
  unfold Oper.wp
  rw [h, Oper.upon_value]
  exact hK' _ _ hK

theorem len_slice (r : Rel ν k g) {v : Value} {x : AV} {h' : Hp} {kk : IntKind} {n : Int} (hv : RA ν g v x) (e : (len false x).run g.h = some (.iv (.int kk n), h')) : ∃ a m c, v = .slice a m c ∧ n = (m : Int) := by
  cases hv with
  | undef => exact (M.fail_some e).elim
  | nul => exact (M.fail_some e).elim
  | agg => exact (M.fail_some e).elim
  | tup => exact (M.fail_some e).elim
  | ref => exact (M.fail_some e).elim
  | clo => exact (M.fail_some e).elim
  | iv hr =>
    cases hr with
    | nsl a e'' => obtain ⟨h1, rfl⟩ := M.ret_some e; cases h1; exact ⟨_, _, _, rfl, rfl⟩
    | sl0 a cap e'' => obtain ⟨h1, rfl⟩ := M.ret_some e; cases h1; exact ⟨_, _, _, rfl, rfl⟩
    | sl b off n' cap e'' es f hI hn hcap hll hc hr => obtain ⟨h1, rfl⟩ := M.ret_some e; cases h1; exact ⟨_, _, _, rfl, by rw [hn]⟩
    | _ => exact (M.fail_some e).elim
  | @own _ id o m ver ho1 ho =>
    obtain ⟨ob, h1, e1, e2⟩ := M.bind_some e
    obtain ⟨hg, rfl⟩ := M.look_some e1
    unfold OwnAt at ho
    rw [hg] at ho
    have fin : ∀ {e'' L : Nat}, SlAt g.w (g.φ id) e'' L o m v → ∃ a m' c, v = .slice a m' c ∧ (m : Int) = (m' : Int) := by
      intro e'' L hs
      cases hφ : g.φ id with
      | none => rw [hφ] at hs; obtain ⟨⟨a, rfl⟩, rfl, _⟩ := hs; exact ⟨_, _, _, rfl, rfl⟩
      | some b => rw [hφ] at hs; obtain ⟨x, cap, rfl, _⟩ := hs; exact ⟨_, _, _, rfl, rfl⟩
    cases ob with
    | cells cs =>
      obtain ⟨_, h2, e3, e4⟩ := M.bind_some e2
      obtain ⟨hva, rfl⟩ := M.ok_some e3
      obtain ⟨h5, rfl⟩ := M.ret_some e4
      cases h5
      exact fin ho.2
    | icl cs =>
      obtain ⟨_, h2, e3, e4⟩ := M.bind_some e2
      obtain ⟨hva, rfl⟩ := M.ok_some e3
      obtain ⟨h5, rfl⟩ := M.ret_some e4
      cases h5
      exact fin ho.2
    | buf v' e'' es =>
      obtain ⟨_, h2, e3, e4⟩ := M.bind_some e2
      obtain ⟨hva, rfl⟩ := M.ok_some e3
      obtain ⟨h5, rfl⟩ := M.ret_some e4
      cases h5
      exact fin (ho.2 (by simpa using hva))
    | imm v' e'' es =>
      obtain ⟨_, h2, e3, e4⟩ := M.bind_some e2
      obtain ⟨hva, rfl⟩ := M.ok_some e3
      obtain ⟨h5, rfl⟩ := M.ret_some e4
      cases h5
      exact fin (ho.2 (by simpa using hva))
    | map _ => exact (M.fail_some e2).elim

/-! ### the sum of what has come -/
def lenV : Value → Nat
  | .slice _ n _ => n
  | _ => 0
def seenN : List MapEntry → Array Nat → Nat
  | [], _ => 0
  | x :: l, seen => (if seen.contains x.born then lenV x.val else 0) + seenN l seen
theorem seenN_none : ∀ es : List MapEntry, seenN es #[] = 0
  | [] => rfl
  | x :: l => by simp [seenN, seenN_none l]
theorem seenN_other (seen : Array Nat) (b : Nat) : ∀ es : List MapEntry, b ∉ es.map (·.born) → seenN es (seen.push b) = seenN es seen
  | [], _ => rfl
  | x :: l, h => by
    simp only [List.map_cons, List.mem_cons, not_or] at h
    have hx : (x.born == b) = false := by simpa using fun e => h.1 e.symm
    simp only [seenN, contains_push, hx, Bool.or_false, seenN_other seen b l h.2]
theorem seenN_push (seen : Array Nat) (e : MapEntry) (hs : seen.contains e.born = false) : ∀ es : List MapEntry, (es.map (·.born)).Nodup → e ∈ es → seenN es (seen.push e.born) = seenN es seen + lenV e.val
  | x :: l, hn, he => by
    have hn' : x.born ∉ l.map (·.born) ∧ (l.map (·.born)).Nodup := List.nodup_cons.1 hn
    rcases List.mem_cons.1 he with rfl | h
    · simp only [seenN, contains_push, hs, beq_self_eq_true, Bool.or_true, if_true, Bool.false_eq_true, if_false, seenN_other seen e.born l hn'.1]
      omega
    · have hx : (x.born == e.born) = false := by
        cases hc : x.born == e.born with
        | false => rfl
        | true => exact absurd (by rw [beq_iff_eq.1 hc]; exact List.mem_map.2 ⟨e, h, rfl⟩) hn'.1
      simp only [seenN, contains_push, hx, Bool.or_false, seenN_push seen e hs l hn'.2 h]
      omega
theorem seenN_full (seen : Array Nat) : ∀ es : List MapEntry, (∀ x ∈ es, seen.contains x.born = true) → seenN es seen = (es.map fun e => lenV e.val).sum
  | [], _ => rfl
  | x :: l, h => by
    simp only [seenN, h x (List.mem_cons_self ..), if_true, List.map_cons, List.sum_cons, seenN_full seen l fun y hy => h y (List.mem_cons_of_mem _ hy)]
theorem seenN_le (seen : Array Nat) : ∀ es : List MapEntry, seenN es seen ≤ (es.map fun e => lenV e.val).sum
  | [] => Nat.le_refl _
  | x :: l => by
    have := seenN_le seen l
    simp only [seenN, List.map_cons, List.sum_cons]
    split <;> omega

theorem rowLens_ok (r : Rel ν k g) : ∀ (kvs : List (AV × AV)) (es : List MapEntry) (n : Nat), Prim.rowLens g.h kvs = some n → es.length = kvs.length → (∀ (j : Nat) (e : MapEntry) (p : AV × AV), es[j]? = some e → kvs[j]? = some p → RA ν g e.val p.2) →
    (es.map fun e => lenV e.val).sum = n ∧ ∀ e ∈ es, ∃ a m c, e.val = .slice a m c
  | [], [], n, h, _, _ => by
    simp only [Prim.rowLens, Option.some.injEq] at h
    subst h
    exact ⟨rfl, fun e he => by simp at he⟩
  | p :: kvs, e :: es, n, h, hl, hr => by
    unfold Prim.rowLens at h
    split at h
    · rename_i kk m h' k' h1 h2
      cases h
      obtain ⟨a, m', c, hv, hm⟩ := len_slice r (hr 0 e p rfl rfl) h1
      obtain ⟨q1, q2⟩ := rowLens_ok r kvs es k' h2 (by simpa using hl) fun j e p h3 h4 => hr (j + 1) e p (by simpa using h3) (by simpa using h4)
      refine ⟨?_, fun e' he' => ?_⟩
      · rw [List.map_cons, List.sum_cons, q1, hv, hm]
        simp [lenV]
      · rcases List.mem_cons.1 he' with rfl | he'
        · exact ⟨a, m', c, hv⟩
        · exact q2 e' he'
    · cases h
  | [], _ :: _, _, _, hl, _ => by simp at hl
  | _ :: _, [], _, _, hl, _ => by simp at hl

/-! ### the code -/
def isDst (o : Oper) (d : Nat) : Bool := o.dst == some d && (match o.guard with | none => true | _ => false)
theorem isDst_spec {o : Oper} {d : Nat} (h : isDst o d = true) : o.dst = some d ∧ o.guard = none := by
  simp only [isDst, Bool.and_eq_true, beq_iff_eq] at h
  refine ⟨h.1, ?_⟩
  have := h.2
  split at this
  · assumption
  · cases this
def isRange (P : Program) (o : Oper) : Bool := isDst o 11 && (match o.op with | .range t (.tmp 10) => (match P.underlying t with | some (.map _ _) => true | _ => false) | _ => false)
def isNext (o : Oper) : Bool := isDst o 12 && (match o.op with | .next (.tmp 11) false => true | _ => false)
def isExt (d s i : Nat) (o : Oper) : Bool := isDst o d && (match o.op with | .extract (.tmp t) j => t == s && j == i | _ => false)
def isEntry (o : Oper) : Bool := isDst o 14 && (match o.op with | .entry (.tmp 11) => true | _ => false)
def isMov (d s : Nat) (o : Oper) : Bool := isDst o d && (match o.op with | .move (.tmp t) | .assign (.tmp t) => t == s | _ => false)
def isLen (P : Program) (o : Oper) : Bool := isDst o 18 && (match o.op with | .call { callee := .builtin .len, args, argTypes } => (match args.toList, argTypes.toList with | [.tmp 17], [t] => (match P.underlying t with | some (.slice _) => true | _ => false) | _, _ => false) | _ => false)
def isAdd (P : Program) (o : Oper) : Bool := isDst o 19 && (match o.op with | .binOp .add t (.tmp 16) (.tmp 18) _ => (match P.underlying t with | some (.int .i64) => true | _ => false) | _ => false)

def iz : IOper := ioMov 2 (.c (.iv (.int .i64 0)))
def cTotal (P : Program) (ν : Nat → Nat) (nt : Nat) (c : Code) : Bool :=
  Nat.ble 21 nt && match c with
  | .seq (.region _ o0 false) (.seq (.seq (.region _ o1 false) (.cond (.tmp 6) (.seq (.region _ o2 false) .ret) .skip))
      (.seq (.seq (.region _ o3 false) (.block 0 (.loop (.seq (.region _ o4 false) (.seq (.cond (.tmp 13) .skip (.exit 0)) (.block 1 (.seq (.region _ o5 false) (.region _ o6 false))))))))
        (.seq (.region _ o7 false) .ret))) =>
    cRgn P ν nt false o0 [iz] && cRgn P ν nt false o1 [ioMov 5 (.t 0), ⟨some 6, .bin .eql 2 (.t 5) (.c (.iv .nilp)), none, []⟩] && cRgn P ν nt false o2 [iz] &&
    (match o3.toList with | [a, b, c, d, e] => cOper P ν nt o3 a (ioMov 7 (.t 0)) && cOper P ν nt o3 b ⟨some 8, .nchk (.t 7), none, []⟩ && cOper P ν nt o3 c ⟨some 9, .fadr 1 (.t 8), none, []⟩ && cOper P ν nt o3 d ⟨some 10, .load false 1 (.t 9), none, []⟩ && isRange P e | _ => false) &&
    (match o4.toList with | [a, b] => isNext a && isExt 13 12 0 b | _ => false) && (match o5.toList with | [a, b, c] => isEntry a && isExt 15 14 1 b && isMov 4 15 c | _ => false) &&
    (match o6.toList with | [a, b, c, d, e] => isMov 16 2 a && isMov 17 4 b && isLen P c && isAdd P d && isMov 2 19 e | _ => false) && cRgn P ν nt false o7 [ioMov 20 (.t 2), ioMov 2 (.t 20)]
  | _ => false

theorem mov_run {o : Oper} {d s : Nat} {a : Act} {v : Value} (h : isMov d s o = true) (hv : Has a s v) (w : World) : o.dst = some d ∧ o.guard = none ∧ (execOp a.eval o).run P w = .ok (.value v) w := by
  simp only [isMov, Bool.and_eq_true] at h
  obtain ⟨h1, h2⟩ := h
  obtain ⟨q1, q2⟩ := isDst_spec h1
  refine ⟨q1, q2, ?_⟩
  split at h2
  · rename_i t ho
    obtain rfl := beq_iff_eq.1 h2
    simp [execOp, ho, hv.eval]
  · rename_i t ho
    obtain rfl := beq_iff_eq.1 h2
    simp [execOp, ho, hv.eval]
  · cases h2
theorem ext_run {o : Oper} {d s i : Nat} {a : Act} {us : Array Value} {v : Value} (h : isExt d s i o = true) (hv : Has a s (.tuple us)) (hi : us[i]? = some v) (w : World) : o.dst = some d ∧ o.guard = none ∧ (execOp a.eval o).run P w = .ok (.value v) w := by
  simp only [isExt, Bool.and_eq_true] at h
  obtain ⟨h1, h2⟩ := h
  obtain ⟨q1, q2⟩ := isDst_spec h1
  refine ⟨q1, q2, ?_⟩
  split at h2
  · rename_i t j ho
    simp only [Bool.and_eq_true, beq_iff_eq] at h2
    obtain ⟨rfl, rfl⟩ := h2
    simp [execOp, ho, hv.eval, Instr.extract, hi]
  · cases h2
theorem next_run {o : Oper} {a : Act} {r : Nat} {w w' : World} {v : Value} (h : isNext o = true) (hv : Has a 11 (.pointer (some ⟨r, 0, none⟩))) (hr : (Instr.next (.pointer (some ⟨r, 0, none⟩)) false o.type).run P w = .ok v w') : o.dst = some 12 ∧ o.guard = none ∧ (execOp a.eval o).run P w = .ok (.value v) w' := by
  simp only [isNext, Bool.and_eq_true] at h
  obtain ⟨h1, h2⟩ := h
  obtain ⟨q1, q2⟩ := isDst_spec h1
  refine ⟨q1, q2, ?_⟩
  split at h2
  · rename_i ho
    simp [execOp, ho, hv.eval, hr]
  · cases h2
theorem entry_run {o : Oper} {a : Act} {r : Nat} {w : World} {v : Value} (h : isEntry o = true) (hv : Has a 11 (.pointer (some ⟨r, 0, none⟩))) (hr : (Instr.entry (.pointer (some ⟨r, 0, none⟩))).run P w = .ok v w) : o.dst = some 14 ∧ o.guard = none ∧ (execOp a.eval o).run P w = .ok (.value v) w := by
  simp only [isEntry, Bool.and_eq_true] at h
  obtain ⟨h1, h2⟩ := h
  obtain ⟨q1, q2⟩ := isDst_spec h1
  refine ⟨q1, q2, ?_⟩
  split at h2
  · rename_i ho
    simp [execOp, ho, hv.eval, hr]
  · cases h2
theorem len_run {o : Oper} {a : Act} {w : World} {b : Option Addr} {n c : Nat} (h : isLen P o = true) (hv : Has a 17 (.slice b n c)) : o.dst = some 18 ∧ o.guard = none ∧ (execOp a.eval o).run P w = .ok (.value (.int .i64 n)) w := by
  simp only [isLen, Bool.and_eq_true] at h
  obtain ⟨h1, h2⟩ := h
  obtain ⟨q1, q2⟩ := isDst_spec h1
  refine ⟨q1, q2, ?_⟩
  split at h2
  case h_2 => cases h2
  rename_i args tys ho
  split at h2
  case h_2 => cases h2
  rename_i t hx ht
  obtain rfl : args = #[.tmp 17] := Array.ext' hx
  obtain rfl : tys = #[t] := Array.ext' ht
  split at h2
  · rename_i el hu
    simp [execOp, ho, resolve, invoke, builtin, hv.eval, Builtin.len_, run_underlying hu, goInt]
  · cases h2
theorem add_run {o : Oper} {a : Act} {w : World} {x y : Int} (h : isAdd P o = true) (hx : Has a 16 (.int .i64 x)) (hy : Has a 18 (.int .i64 y)) : o.dst = some 19 ∧ o.guard = none ∧ (execOp a.eval o).run P w = .ok (.value (.int .i64 (IntKind.i64.wrap (x + y)))) w := by
  simp only [isAdd, Bool.and_eq_true] at h
  obtain ⟨h1, h2⟩ := h
  obtain ⟨q1, q2⟩ := isDst_spec h1
  refine ⟨q1, q2, ?_⟩
  split at h2
  case h_2 => cases h2
  rename_i t _ ho
  split at h2
  · rename_i hu
    have hg : eqGuard .add t (.tmp 16) (.tmp 18) (.int .i64 x) (.int .i64 y) = pure () := rfl
    simp [execOp, ho, hx.eval, hy.eval, hg, binOp, Op.intArith]
  · cases h2

theorem total_ok {f : Nat} {fn : Func} {c : Code} (hfn : P.funcs[ν f]? = some fn) (hb : fn.body = some c) (hmix : P.follows .mixedOrders = true) (hc : cTotal P ν fn.ntmps c = true)
    (hres : cRess P fn.results.toList [.t 2] = true) {c1 : Call1} {cx : CallX} {args : List AV} {hp : Hp} {nx : Nat} {r : AV} {hp' : Hp} {nx' : Nat} (he : Prim.total c1 cx args hp nx = some (r, hp', nx')) : CallOK ν P f args hp r hp' := by
  intro k0 g0 cargs hh r0 hRL
  have fin : ∀ (g' : Gh) (a' : Act) (nx : Nat) (y : AV) (h2 : Hp), Sim ν k0 fn.ntmps g' a' ⟨[(2, y)], h2, nx⟩ → Mono ν g0 g' →
      a'.defers = [] ∧ ∃ v, (results fn a'.tmps).run P g'.w = .ok v g'.w ∧ ∃ u g'', Ending.returned v = .returned u ∧ g''.w = g'.w ∧ g''.h = h2 ∧ Rel ν k0 g'' ∧ Mono ν g0 g'' ∧ RA ν g'' u y := by
    intro g' a' nx y h2 m' hm
    obtain ⟨q0, v, q1, q6⟩ := resAll_ok (y := y) (h' := g'.h) m'.r m'.f hres (by simp) rfl
    exact ⟨m'.d, v, q1, v, g', rfl, rfl, m'.h, m'.r, hm, q6⟩
  unfold cTotal at hc
  rw [Bool.and_eq_true] at hc
  obtain ⟨hnt, hc⟩ := hc
  rw [Nat.ble_eq] at hnt
  split at hc
  case h_2 => cases hc
  rename_i i0 o0 i1 o1 i2 o2 i3 o3 i4 o4 i5 o5 i6 o6 i7 o7
  simp only [Bool.and_eq_true] at hc
  obtain ⟨⟨⟨⟨⟨⟨⟨hc0, hc1⟩, hc2⟩, hc3⟩, hc4⟩, hc5⟩, hc6⟩, hc7⟩ := hc
  have one : ∀ {x : AV}, args = [x] → ∃ cv, cargs = #[cv] ∧ RA ν g0 cv x := by
    rintro x rfl
    have := hRL.1
    simp only [List.length_cons, List.length_nil, Nat.zero_add, Array.length_toList] at this
    obtain ⟨l⟩ := cargs
    match l, this with
    | [v], _ => exact ⟨v, rfl, hRL.2 0 _ _ rfl rfl⟩
  have start : ∀ {x : AV} {cv : Value}, RA ν g0 cv x → Sim ν k0 fn.ntmps g0 { tmps := #[cv] ++ Array.replicate (fn.ntmps - 1) undef, defers := [] } ⟨[(0, x)], hp, nx⟩ := by
    intro x cv hR0
    refine ⟨hh, r0, fun t x' ht => ?_, by simp; omega, rfl⟩
    simp only [fr_cons, fr_nil] at ht
    split at ht
    · rename_i h0
      subst h0
      simp only [Option.some.injEq] at ht
      subst ht
      exact ⟨cv, by simp [Array.getElem?_append], hR0⟩
    · cases ht
  have ev0 : ∀ (x : AV), evalRgn noCall noX false [iz] [0, 2] ⟨[(0, x)], hp, nx⟩ = some ⟨[(0, x), (2, .iv (.int .i64 0))], hp, nx + 1⟩ := fun _ => rfl
  unfold Prim.total at he
  split at he
  · -- there is none
    simp only [Option.some.injEq, Prod.mk.injEq] at he
    obtain ⟨rfl, rfl, rfl⟩ := he
    obtain ⟨cv, rfl, hR0⟩ := one rfl
    refine calls_of_wp hfn hb ?_
    refine wp_seq (rgn_wp noCall_sound noX_sound noX_more hmix hc0 (ev0 _) (start hR0) fun g1 a1 m1 hm1 => ?_)
    refine wp_seq (wp_seq (rgn_wp (keep := [6]) (s' := ⟨[(6, .iv (.bool true))], hp, nx + 3⟩) noCall_sound noX_sound noX_more hmix hc1 rfl m1 fun g2 a2 m2 hm2 => ?_))
    have hcond : a2.eval (.tmp 6) = .bool true := by
      have := eval_ok (ν := ν) (x := .tmp 6) (y := .t 6) m2.f (by rfl)
      generalize a2.eval (.tmp 6) = u at this
      have hev : ev [(6, AV.iv (.bool true))] (.t 6) = .iv (.bool true) := rfl
      rw [hev] at this
      cases this with
      | iv h => cases h; rfl
    refine wp_cond hcond ?_
    simp only [if_true]
    refine wp_seq (rgn_wp (keep := [2]) (s' := ⟨[(2, .iv (.int .i64 0))], hp, nx + 4⟩) noCall_sound noX_sound noX_more hmix hc2 rfl m2 fun g3 a3 m3 hm3 => wp_ret ?_)
    exact fin g3 a3 _ _ _ m3 ((hm1.trans hm2).trans hm3)
  · rename_i id
    obtain ⟨cv, rfl, hR0⟩ := one rfl
    split at he
    case h_2 => cases he
    rename_i q0 m qs hcell
    split at he
    case h_2 => cases he
    rename_i kvs hmap
    split at he
    case h_2 => cases he
    rename_i n hn
    split at he
    case isFalse => cases he
    rename_i hsmall
    rw [Nat.ble_eq] at hsmall
    simp only [Option.some.injEq, Prod.mk.injEq] at he
    obtain ⟨rfl, rfl, rfl⟩ := he
    refine calls_of_wp hfn hb ?_
    refine wp_seq (rgn_wp noCall_sound noX_sound noX_more hmix hc0 (ev0 _) (start hR0) fun g1 a1 m1 hm1 => ?_)
    have ev1 : evalRgn noCall noX false [ioMov 5 (.t 0), ⟨some 6, .bin .eql 2 (.t 5) (.c (.iv .nilp)), none, []⟩] [0, 2, 6] ⟨[(0, .ref id 0 0 0), (2, .iv (.int .i64 0))], hp, nx + 1⟩ =
        some ⟨[(0, .ref id 0 0 0), (2, .iv (.int .i64 0)), (6, .iv (.bool false))], hp, nx + 3⟩ := by
      simp [evalRgn, ioMov, evalOps, step, wants, isS, osem, binM, M.run_bind, M.look, M.run, M.ok, hcell, valid, putD, ev, get_set, fr_cons, keepFr]
    refine wp_seq (wp_seq (rgn_wp noCall_sound noX_sound noX_more hmix hc1 ev1 m1 fun g2 a2 m2 hm2 => ?_))
    have hcond : a2.eval (.tmp 6) = .bool false := by
      have := eval_ok (ν := ν) (x := .tmp 6) (y := .t 6) m2.f (by rfl)
      generalize a2.eval (.tmp 6) = u at this
      have hev : ev [(0, AV.ref id 0 0 0), (2, .iv (.int .i64 0)), (6, .iv (.bool false))] (.t 6) = .iv (.bool false) := rfl
      rw [hev] at this
      cases this with
      | iv h => cases h; rfl
    refine wp_cond hcond (wp_skip ?_)
    simp only [Exit.then]
    -- the map
    split at hc3
    case h_2 => cases hc3
    rename_i oa ob oc od oe hl3
    simp only [Bool.and_eq_true] at hc3
    obtain ⟨⟨⟨⟨h3a, h3b⟩, h3c⟩, h3d⟩, h3e⟩ := hc3
    refine wp_seq (wp_seq (wp_region_list ?_))
    rw [hl3]
    refine wpList_step fun K hK => step_wp (slot := 0) (s1 := ⟨[(0, .ref id 0 0 0), (2, .iv (.int .i64 0)), (6, .iv (.bool false)), (7, .ref id 0 0 0)], hp, nx + 3⟩) noCall_sound noX_sound h3a m2 rfl fun g3 a3 m3 hm3 => hK _ _ ?_
    refine wpList_step fun K hK => step_wp (slot := 0) (s1 := ⟨[(0, .ref id 0 0 0), (2, .iv (.int .i64 0)), (6, .iv (.bool false)), (7, .ref id 0 0 0), (8, .ref id 0 0 0)], hp, nx + 3⟩) noCall_sound noX_sound h3b m3
      (by simp [step, wants, isS, osem, M.run_bind, M.look, M.run, M.ok, hcell, valid, putD, ev, fr_cons]; rfl) fun g4 a4 m4 hm4 => hK _ _ ?_
    refine wpList_step fun K hK => step_wp (slot := 0) (s1 := ⟨[(0, .ref id 0 0 0), (2, .iv (.int .i64 0)), (6, .iv (.bool false)), (7, .ref id 0 0 0), (8, .ref id 0 0 0), (9, .ref id 0 0 1)], hp, nx + 3⟩) noCall_sound noX_sound h3c m4
      (by simp [step, wants, isS, osem, fadr, M.run_bind, M.look, M.run, M.ok, hcell, valid, putD, ev, fr_cons]; rfl) fun g5 a5 m5 hm5 => hK _ _ ?_
    refine wpList_step fun K hK => step_wp (slot := 0) (s1 := ⟨[(0, .ref id 0 0 0), (2, .iv (.int .i64 0)), (6, .iv (.bool false)), (7, .ref id 0 0 0), (8, .ref id 0 0 0), (9, .ref id 0 0 1), (10, .ref m 0 0 0)], hp, nx + 3⟩) noCall_sound noX_sound h3d m5
      (by simp [step, wants, isS, osem, load, obRead, mk, M.lift, M.run_bind, M.look, M.run, M.ok, hcell, putD, ev, fr_cons]; rfl) fun g6 a6 m6 hm6 => hK _ _ ?_
    obtain ⟨mv, hmv, hRm⟩ := m6.f 10 (.ref m 0 0 0) rfl
    obtain ⟨sv, hsv, hRs⟩ := m6.f 2 (.iv (.int .i64 0)) rfl
    obtain rfl := hRs.int
    have hmapg : get g6.h m = some (.map kvs) := by rw [m6.h]; exact hmap
    obtain ⟨b, hφ, rfl⟩ : ∃ b, g6.φ m = some b ∧ mv = .map (some b) := by
      cases hRm with
      | ref h1 h =>
        unfold RefAt at h
        simp only [hmapg] at h
        obtain ⟨-, -, -, b, hφ, rfl⟩ := h
        exact ⟨b, hφ, rfl⟩
    obtain ⟨b', es, clock, e1, hnI, hbl, hbm, hes, hst, hval⟩ := m6.r.ob m _ hmapg
    rw [hφ] at e1; cases e1
    obtain ⟨hsum, hslices⟩ := rowLens_ok m6.r kvs es.toList n (by rw [m6.h]; exact hn) (by simpa using hes) fun j e p h1 h2 => (hval j e p (by simpa using h1) h2).2
    -- the loop begins
    simp only [isRange, Bool.and_eq_true] at h3e
    obtain ⟨q1, q2⟩ := isDst_spec h3e.1
    have h3e2 := h3e.2
    split at h3e2
    case h_2 => cases h3e2
    rename_i t hop
    split at h3e2
    case h_2 => cases h3e2
    rename_i kt et hut
    have hrr : (execOp a6.eval oe).run P g6.w = .ok (.value (.pointer (some ⟨g6.w.heap.size, 0, none⟩))) (g6.w.alloc (.mapIter (some b) clock #[] clock)) := by
      have hev : a6.eval (.tmp 10) = .map (some b) := Has.eval hmv
      simp [execOp, hop, hev, run_range_map g6.w t kt et b es clock hut hbm]
    refine wpl_val q2 hrr (wpList_nil ?_)
    simp only [Exit.then]
    rw [q1]
    have hsz6 : fn.ntmps ≤ a6.tmps.size := m6.n
    -- what is true ahead of each round
    refine wp_block ?_
    refine wp_rounds (fun j a w => ∃ seen c0, Has a 2 (.int .i64 (seenN es.toList seen)) ∧ Has a 11 (.pointer (some ⟨g6.w.heap.size, 0, none⟩)) ∧ a.defers = [] ∧ fn.ntmps ≤ a.tmps.size ∧ g6.w.heap.size < w.heap.size ∧
      (∀ i, i < g6.w.heap.size → w.heap[i]? = g6.w.heap[i]?) ∧ w.os = g6.w.os ∧ w.tape = g6.w.tape ∧ w.output = g6.w.output ∧ w.heap[g6.w.heap.size]? = some (.mapIter (some b) clock seen c0) ∧ clock ≤ c0 ∧ (leftOf es seen).size < j) ?_ ?_
      (n := (leftOf es #[]).size + 1) ?_
    · rintro a w ⟨_, _, _, _, _, _, _, _, _, _, _, _, _, h⟩
      omega
    case refine_3 =>
      refine ⟨#[], clock, ?_, Has.new (by omega), by rw [put_defers]; exact m6.d, by rw [put_size]; exact hsz6, by simp, fun i hi => alloc_old _ _ _ hi, rfl, rfl, rfl, heap_alloc_new _ _, Nat.le_refl _, Nat.lt_succ_self _⟩
      rw [seenN_none]
      exact Has.ne hsv (by omega)
    · rintro j a w ⟨seen, c0, hs, hit, hd, hsz, hgt, hold, hos, htape, hout, hr, hsc, hleft⟩
      have hbm' : w.heap[b]? = some (.map es clock) := by rw [hold b hbl]; exact hbm
      split at hc4
      case h_2 => cases hc4
      rename_i na nb hl4
      simp only [Bool.and_eq_true] at hc4
      refine wp_seq (wp_region_list ?_)
      rw [hl4]
      rcases run_next_at (P := P) w na.type g6.w.heap.size b clock c0 seen es clock hr hbm' hst.2 hsc with ⟨h0, hrun⟩ | ⟨e, hel, w1, hw1, hrun⟩
      · -- nothing is left
        obtain ⟨p1, p2, p3⟩ := next_run hc4.1 hit hrun
        refine wpl_val p2 p3 ?_
        rw [p1]
        obtain ⟨u1, u2, u3⟩ := ext_run (P := P) (d := 13) (s := 12) (i := 0) (v := .bool false) (a := a.put (some 12) (.tuple #[.bool false])) hc4.2 (Has.new (by omega)) rfl w
        refine wpl_val u2 u3 (wpList_nil ?_)
        rw [u1]
        simp only [Exit.then]
        refine wp_seq (wp_cond (t := false) (Has.eval (Has.new (by rw [put_size]; omega))) ?_)
        simp only [Bool.false_eq_true, if_false]
        refine wp_exit ?_
        simp only [Exit.then, Exit.inBlock, if_true]
        -- behind the loop
        have hfull : seenN es.toList seen = n := by rw [seenN_full seen es.toList (all_seen es seen h0), hsum]
        have hmap' := m6.r.world (w' := w) (I' := g6.I) (fun _ h => h) (fun _ h => .inl h) (Nat.le_of_lt hgt) hos htape hout hold
        refine wp_seq (rgn_wp (g := { g6 with I := g6.I, w := w }) (s := ⟨[(2, .iv (.int .i64 n))], hp, nx⟩) (keep := [2]) (s' := ⟨[(2, .iv (.int .i64 n))], hp, nx + 2⟩) noCall_sound noX_sound noX_more hmix hc7 rfl
          ⟨m6.h, hmap'.1, fun t x ht => ?_, by simp only [put_size]; exact hsz, by simp only [put_defers]; exact hd⟩ fun g8 a8 m8 hm8 => wp_ret ?_)
        · simp only [fr_cons, fr_nil] at ht
          split at ht
          · rename_i h2
            subst h2
            simp only [Option.some.injEq] at ht
            subst ht
            refine ⟨_, (hs.ne (by omega)).ne (by omega), ?_⟩
            rw [hfull]; exact mkInt
          · cases ht
        · exact fin g8 a8 _ _ _ m8 ((((((((hm1.trans hm2).trans hm3).trans hm4).trans hm5).trans hm6).trans hmap'.2)).trans hm8)
      · -- an entry comes
        obtain ⟨p1, p2, p3⟩ := next_run hc4.1 hit hrun
        refine wpl_val p2 p3 ?_
        rw [p1]
        obtain ⟨u1, u2, u3⟩ := ext_run (P := P) (d := 13) (s := 12) (i := 0) (v := .bool true) (a := a.put (some 12) (.tuple #[.bool true, e.key, e.val])) hc4.2 (Has.new (by omega)) rfl (setBlock w1 g6.w.heap.size (.mapIter (some b) clock (seen.push e.born) clock))
        refine wpl_val u2 u3 (wpList_nil ?_)
        rw [u1]
        simp only [Exit.then]
        refine wp_seq (wp_cond (t := true) (Has.eval (Has.new (by rw [put_size]; omega))) ?_)
        simp only [if_true]
        refine wp_skip ?_
        simp only [Exit.then]
        obtain ⟨hem, hes'⟩ := mem_left hel
        obtain ⟨va, vn, vc, hv⟩ := hslices e hem
        have hw1h : w1.heap = w.heap ∧ w1.os = w.os ∧ w1.tape = w.tape ∧ w1.output = w.output := by rcases hw1 with rfl | rfl <;> exact ⟨rfl, rfl, rfl, rfl⟩
        have hr1 : w1.heap[g6.w.heap.size]? = some (.mapIter (some b) clock seen c0) := by rw [hw1h.1]; exact hr
        have hset := MapKept.heap_set (o' := .mapIter (some b) clock (seen.push e.born) clock) hr1
        generalize hw2 : setBlock w1 g6.w.heap.size (.mapIter (some b) clock (seen.push e.born) clock) = w2
        have hw2h : w2.heap = w1.heap.setIfInBounds g6.w.heap.size (.mapIter (some b) clock (seen.push e.born) clock) := by rw [← hw2]; rfl
        have hr2 : w2.heap[g6.w.heap.size]? = some (.mapIter (some b) clock (seen.push e.born) clock) := by rw [hw2h]; exact hset.1
        have hb2 : w2.heap[b]? = some (.map es clock) := by rw [hw2h, hset.2 b (by omega), hw1h.1]; exact hbm'
        refine wp_block ?_
        split at hc5
        case h_2 => cases hc5
        rename_i ea eb ec hl5
        simp only [Bool.and_eq_true] at hc5
        refine wp_seq (wp_region_list ?_)
        rw [hl5]
        generalize ha1 : ((a.put (some 12) (.tuple #[.bool true, e.key, e.val])).put (some 13) (.bool true)) = a1'
        have z1 : a1'.tmps.size = a.tmps.size := by rw [← ha1, put_size, put_size]
        have d1 : a1'.defers = [] := by rw [← ha1, put_defers, put_defers]; exact hd
        have s1 : Has a1' 2 (.int .i64 (seenN es.toList seen)) := by rw [← ha1]; exact (hs.ne (by omega)).ne (by omega)
        have t1 : Has a1' 11 (.pointer (some ⟨g6.w.heap.size, 0, none⟩)) := by rw [← ha1]; exact (hit.ne (by omega)).ne (by omega)
        obtain ⟨p1, p2, p3⟩ := entry_run (P := P) hc5.1.1 t1 (run_entry_at (P := P) w2 g6.w.heap.size b clock seen es clock e hr2 hb2 hem hst.1)
        refine wpl_val p2 p3 ?_
        rw [p1]
        obtain ⟨p1, p2, p3⟩ := ext_run (P := P) (d := 15) (s := 14) (i := 1) (v := e.val) (a := a1'.put (some 14) (.tuple #[e.key, e.val])) hc5.1.2 (Has.new (by omega)) rfl w2
        refine wpl_val p2 p3 ?_
        rw [p1]
        obtain ⟨p1, p2, p3⟩ := mov_run (P := P) hc5.2 (Has.new (a := a1'.put (some 14) (.tuple #[e.key, e.val])) (d := 15) (u := e.val) (by rw [put_size]; omega)) w2
        refine wpl_val p2 p3 (wpList_nil ?_)
        rw [p1]
        simp only [Exit.then]
        split at hc6
        case h_2 => cases hc6
        rename_i fa fb fc fd fe hl6
        simp only [Bool.and_eq_true] at hc6
        obtain ⟨⟨⟨⟨h6a, h6b⟩, h6c⟩, h6d⟩, h6e⟩ := hc6
        refine wp_region_list ?_
        rw [hl6]
        generalize ha2 : (((a1'.put (some 14) (.tuple #[e.key, e.val])).put (some 15) e.val).put (some 4) e.val) = a2'
        have z2 : a2'.tmps.size = a.tmps.size := by rw [← ha2, put_size, put_size, put_size, z1]
        have d2 : a2'.defers = [] := by rw [← ha2, put_defers, put_defers, put_defers]; exact d1
        have s2 : Has a2' 2 (.int .i64 (seenN es.toList seen)) := by rw [← ha2]; exact ((s1.ne (by omega)).ne (by omega)).ne (by omega)
        have t2 : Has a2' 11 (.pointer (some ⟨g6.w.heap.size, 0, none⟩)) := by rw [← ha2]; exact ((t1.ne (by omega)).ne (by omega)).ne (by omega)
        have v2 : Has a2' 4 e.val := by rw [← ha2]; exact Has.new (by rw [put_size, put_size]; omega)
        obtain ⟨p1, p2, p3⟩ := mov_run (P := P) h6a s2 w2
        refine wpl_val p2 p3 ?_
        rw [p1]
        have v3 := v2.ne (d := 16) (u := .int .i64 (seenN es.toList seen)) (by omega)
        obtain ⟨p1, p2, p3⟩ := mov_run (P := P) h6b v3 w2
        refine wpl_val p2 p3 ?_
        rw [p1]
        have v4 := Has.new (a := a2'.put (some 16) (.int .i64 (seenN es.toList seen))) (d := 17) (u := e.val) (by rw [put_size]; omega)
        rw [hv] at v4
        obtain ⟨p1, p2, p3⟩ := len_run (P := P) (w := w2) h6c v4
        rw [hv]
        refine wpl_val p2 p3 ?_
        rw [p1]
        have x5 : Has (((a2'.put (some 16) (.int .i64 (seenN es.toList seen))).put (some 17) (.slice va vn vc)).put (some 18) (.int .i64 vn)) 16 (.int .i64 (seenN es.toList seen)) :=
          ((Has.new (by omega)).ne (by omega)).ne (by omega)
        have y5 : Has (((a2'.put (some 16) (.int .i64 (seenN es.toList seen))).put (some 17) (.slice va vn vc)).put (some 18) (.int .i64 vn)) 18 (.int .i64 vn) := Has.new (by rw [put_size, put_size]; omega)
        obtain ⟨p1, p2, p3⟩ := add_run (P := P) (w := w2) h6d x5 y5
        refine wpl_val p2 p3 ?_
        rw [p1]
        have hnext : seenN es.toList (seen.push e.born) = seenN es.toList seen + vn := by rw [seenN_push seen e hes' es.toList hst.1 hem, hv]; rfl
        have hle := seenN_le (seen.push e.born) es.toList
        rw [hsum, hnext] at hle
        have hwrap : IntKind.i64.wrap ((seenN es.toList seen : Int) + (vn : Int)) = ((seenN es.toList (seen.push e.born) : Nat) : Int) := by
          rw [IntWalk.i64_in _ (by omega), hnext]; simp
        obtain ⟨p1, p2, p3⟩ := mov_run (P := P) h6e (Has.new (a := ((a2'.put (some 16) (.int .i64 (seenN es.toList seen))).put (some 17) (.slice va vn vc)).put (some 18) (.int .i64 vn)) (d := 19)
          (u := .int .i64 (IntKind.i64.wrap ((seenN es.toList seen : Int) + (vn : Int)))) (by rw [put_size, put_size, put_size]; omega)) w2
        refine wpl_val p2 p3 (wpList_nil ?_)
        rw [p1]
        simp only [Exit.then, Exit.inBlock]
        have hshr := left_shrinks es seen e hel
        refine ⟨seen.push e.born, clock, ?_, ?_, ?_, ?_, ?_, ?_, ?_, ?_, ?_, hr2, Nat.le_refl _, by omega⟩
        · rw [hwrap]; exact Has.new (by rw [put_size, put_size, put_size, put_size]; omega)
        · exact (((((t2.ne (by omega)).ne (by omega)).ne (by omega)).ne (by omega)).ne (by omega))
        · simp only [put_defers]; exact d2
        · simp only [put_size]; omega
        · rw [hw2h, Array.size_setIfInBounds, hw1h.1]; exact hgt
        · intro i hi
          rw [hw2h, hset.2 i (by omega), hw1h.1]; exact hold i hi
        · rw [← hw2]; show w1.os = _; rw [hw1h.2.1]; exact hos
        · rw [← hw2]; show w1.tape = _; rw [hw1h.2.2.1]; exact htape
        · rw [← hw2]; show w1.output = _; rw [hw1h.2.2.2]; exact hout
  · cases he

theorem rowLens_more {h : Hp} {qs : List (Nat × Ob)} (hq : Off qs h) : ∀ (kvs : List (AV × AV)) (n : Nat), Prim.rowLens h kvs = some n → Prim.rowLens (app_ qs h) kvs = some n
  | [], n, e => e
  | p :: kvs, n, e => by
    unfold Prim.rowLens at e ⊢
    cases h1 : (len false p.2).run h with
    | none => rw [h1] at e; simp at e
    | some y =>
      obtain ⟨y, h2⟩ := y
      have hh : h2 = h := by
        unfold len at h1
        split at h1
        · obtain ⟨o, h3, e1, e2⟩ := M.bind_some h1
          obtain ⟨hg, rfl⟩ := M.look_some e1
          split at e2
          all_goals first
            | exact (M.fail_some e2).elim
            | (obtain ⟨_, h4, e3, e4⟩ := M.bind_some e2
               obtain ⟨_, rfl⟩ := M.ok_some e3
               exact (M.ret_some e4).2)
        · exact (M.ret_some h1).2
        · exact (M.ret_some h1).2
        · exact (M.ret_some h1).2
        · exact (M.fail_some h1).elim
      subst hh
      rw [h1] at e
      rw [(M.more (NR.len_ _ _) h1 hq).1]
      cases h3 : Prim.rowLens h2 kvs with
      | none => rw [h3] at e; split at e <;> simp_all
      | some k =>
        rw [h3] at e
        rw [rowLens_more hq kvs k h3]
        split at e
        · rename_i e1 e2
          cases e1; cases e2
          exact e
        · cases e

theorem total_more : PrimMore Prim.total := by
  intro c1 cx hx args h nx r h' nx' he
  unfold Prim.total at he ⊢
  split at he
  · simp only [Option.some.injEq, Prod.mk.injEq] at he
    obtain ⟨rfl, rfl, rfl⟩ := he
    exact ⟨fun _ h => h, fun qs _ => rfl⟩
  · rename_i id
    split at he
    case h_2 => cases he
    rename_i q0 m qs' hcell
    split at he
    case h_2 => cases he
    rename_i kvs hmap
    split at he
    case h_2 => cases he
    rename_i n hn
    split at he
    case isFalse => cases he
    rename_i hsmall
    simp only [Option.some.injEq, Prod.mk.injEq] at he
    obtain ⟨rfl, rfl, rfl⟩ := he
    refine ⟨fun _ h => h, fun qs hq => ?_⟩
    rw [app_get (hq.not (by unfold On; rw [hcell]; rfl)), hcell]
    simp only []
    rw [app_get (hq.not (by unfold On; rw [hmap]; rfl)), hmap]
    simp only []
    rw [rowLens_more hq kvs n hn]
    simp only [hsmall, if_true]
  · cases he

/-! ### the ties of these two -/
def cloneB (P : Program) (ν : Nat → Nat) (fn : Func) (e : Nat) : Bool := (match fn.body with | some c => cClone P ν fn.ntmps c e && cRess P fn.results.toList [.t 2] | none => false) && !(fn.name == "runtime.NumGoroutine")
def totalB (P : Program) (ν : Nat → Nat) (fn : Func) : Bool := (match fn.body with | some c => cTotal P ν fn.ntmps c && cRess P fn.results.toList [.t 2] | none => false) && !(fn.name == "runtime.NumGoroutine")
theorem tie_clone (hmix : P.follows .mixedOrders = true) {f k' e : Nat} {ir : IFn} {fn : Func} (hk : P.funcs[k']? = some fn) (hν : ν f = k') (hp : ir.prim = some (Prim.clone e)) (h : cloneB P ν fn e = true) : TieAt P ν f ir := by
  simp only [cloneB, Bool.and_eq_true, Bool.not_eq_true'] at h
  obtain ⟨h1, h2⟩ := h
  split at h1
  · rename_i c hc
    simp only [Bool.and_eq_true] at h1
    rw [← hν] at hk
    exact .inr ⟨_, hp, fun c1 cx _ _ args hp nx r hp' nx' he => ⟨⟨fn, hk, by simp [hc], h2⟩, clone_ok hk hc hmix h1.1 h1.2 he⟩, clone_more e⟩
  · cases h1
theorem tie_total (hmix : P.follows .mixedOrders = true) {f k' : Nat} {ir : IFn} {fn : Func} (hk : P.funcs[k']? = some fn) (hν : ν f = k') (hp : ir.prim = some Prim.total) (h : totalB P ν fn = true) : TieAt P ν f ir := by
  simp only [totalB, Bool.and_eq_true, Bool.not_eq_true'] at h
  obtain ⟨h1, h2⟩ := h
  split at h1
  · rename_i c hc
    simp only [Bool.and_eq_true] at h1
    rw [← hν] at hk
    exact .inr ⟨_, hp, fun c1 cx _ _ args hp nx r hp' nx' he => ⟨⟨fn, hk, by simp [hc], h2⟩, total_ok hk hc hmix h1.1 h1.2 he⟩, total_more⟩
  · cases h1
end
end Arx

/-
  WHAT COMES IN: a value that reads as data reads as a plain value; what is behind it is never written.
-/
namespace Arb
open Go Go.RowKit Go.WideShapes

/-- the cells of a type -/
inductive Sh where
  | bool
  | int (k : IntKind)
  | str
  | sl (es : List Sh)
  deriving Inhabited

mutual
def Fits : Sh → IV → Prop
  | .bool, x => ∃ b, x = .bool b
  | .int k, x => ∃ n, x = .int k n ∧ (Lit.int k n).wf = true
  | .str, x => ∃ s, x = .str s ∧ s.size ≤ maxLen
  | .sl es, x => ∃ rows, x = .sl es.length rows ∧ rows.length ≤ maxLen ∧ ∀ r ∈ rows, FitsL es r
def FitsL : List Sh → List IV → Prop
  | [], [] => True
  | s :: ss, x :: xs => Fits s x ∧ FitsL ss xs
  | _, _ => False
end

theorem FitsL.append : ∀ {ss ts : List Sh} {xs ys : List IV}, FitsL ss xs → FitsL ts ys → FitsL (ss ++ ts) (xs ++ ys)
  | [], _, [], _, _, h => h
  | _ :: _, _, _ :: _, _, h, h' => ⟨h.1, FitsL.append h.2 h'⟩
  | [], _, _ :: _, _, h, _ => h.elim
  | _ :: _, _, [], _, h, _ => h.elim

def fieldsB (P : Program) (r : TypeId → List Sh → Bool) : Nat → List Field → List Sh → Bool
  | _, [], ss => ss.isEmpty
  | off, f :: fs, ss => f.offset == off && Nat.ble (P.cellsOf f.type) ss.length && r f.type (ss.take (P.cellsOf f.type)) && fieldsB P r (off + P.cellsOf f.type) fs (ss.drop (P.cellsOf f.type))
def timesB (r : List Sh → Bool) (c : Nat) : Nat → List Sh → Bool
  | 0, ss => ss.isEmpty
  | n + 1, ss => Nat.ble c ss.length && r (ss.take c) && timesB r c n (ss.drop c)
def shB (P : Program) : Nat → TypeId → List Sh → Bool
  | 0, _, _ => false
  | d + 1, t, ss => match P.underlying t with
    | some .bool => (match ss with | [.bool] => true | _ => false)
    | some (.int k) => (match ss with | [.int k'] => k == k' | _ => false)
    | some .string => (match ss with | [.str] => true | _ => false)
    | some (.slice e) => (match ss with | [.sl es] => P.cellsOf e == es.length && Nat.blt 0 es.length && shB P d e es | _ => false)
    | some (.struct fs) => P.cellsOf t == ss.length && fieldsB P (shB P d) 0 fs.toList ss
    | some (.array n e) => P.cellsOf t == ss.length && timesB (shB P d e) (P.cellsOf e) n ss
    | _ => false

section
variable {H : Type} {enc : TypeId × Value → H} {P : Program} {w : World} {base : Nat} {spare : Nat → Bool} {held : Bool} {ν : Nat → Nat}

def Old (w : World) (b : Nat) : Prop := b < w.heap.size
/-- the cells read as plain values of these shapes -/
def Reads (ν : Nat → Nat) (w : World) (ss : List Sh) (cs : List Value) (xs : List IV) : Prop :=
  xs.length = cs.length ∧ FitsL ss xs ∧ ∀ (j : Nat) (v : Value) (x : IV), cs[j]? = some v → xs[j]? = some x → RI ν (Old w) w v x

theorem Reads.one {s : Sh} {v : Value} {x : IV} (h : Fits s x) (hr : RI ν (Old w) w v x) : Reads ν w [s] [v] [x] :=
  ⟨rfl, ⟨h, trivial⟩, fun j v' x' h1 h2 => by cases j with | zero => simp at h1 h2; subst h1 h2; exact hr | succ j => simp at h1⟩
theorem Reads.append {ss ts : List Sh} {cs ds : List Value} {xs ys : List IV} (h : Reads ν w ss cs xs) (h' : Reads ν w ts ds ys) : Reads ν w (ss ++ ts) (cs ++ ds) (xs ++ ys) := by
  refine ⟨by simp [h.1, h'.1], h.2.1.append h'.2.1, fun j v x h1 h2 => ?_⟩
  by_cases hj : j < cs.length
  · rw [List.getElem?_append_left hj] at h1
    rw [List.getElem?_append_left (by rw [h.1]; exact hj)] at h2
    exact h.2.2 j v x h1 h2
  · rw [List.getElem?_append_right (by omega)] at h1
    rw [List.getElem?_append_right (by rw [h.1]; omega), h.1] at h2
    exact h'.2.2 _ v x h1 h2

def ReadsAt (ν : Nat → Nat) (enc : TypeId × Value → H) (P : Program) (w : World) (base : Nat) (spare : Nat → Bool) (held : Bool) (d n : Nat) : Prop :=
  ∀ (t : TypeId) (ss : List Sh) (cs : List Value) (x : DataW H × List MemPlace), shB P d t ss = true → DataW.trod enc P w base spare held n t cs = some x → ∃ xs, Reads ν w ss cs xs

theorem fields_read {d n : Nat} (ih : ReadsAt ν enc P w base spare held d n) {all : List Value} : ∀ (fs : List Field) (off : Nat) (ss : List Sh) (cs : List Value), fieldsB P (shB P d) off fs ss = true → cs = all.drop off → cs.length = ss.length →
    (∀ f ∈ fs, ∃ y, DataW.trod enc P w base spare held n f.type ((all.drop f.offset).take (P.cellsOf f.type)) = some y) → ∃ xs, Reads ν w ss cs xs
  | [], off, ss, cs, h, hcs, hl, _ => by
    simp only [fieldsB, List.isEmpty_iff] at h
    subst h
    have : cs = [] := List.eq_nil_of_length_eq_zero (by simpa using hl)
    subst this
    exact ⟨[], rfl, trivial, fun j v x h => by simp at h⟩
  | f :: fs, off, ss, cs, h, hcs, hl, hf => by
    simp only [fieldsB, Bool.and_eq_true, beq_iff_eq, Nat.ble_eq] at h
    obtain ⟨⟨⟨h1, h2⟩, h3⟩, h4⟩ := h
    obtain ⟨y, hy⟩ := hf f (List.mem_cons_self ..)
    rw [h1, ← hcs] at hy
    obtain ⟨xs, hx⟩ := ih _ _ _ _ h3 hy
    obtain ⟨ys, hy⟩ := fields_read ih (all := all) fs _ _ (cs.drop (P.cellsOf f.type)) h4 (by rw [hcs, List.drop_drop]) (by simp [hl]) fun g hg => hf g (List.mem_cons_of_mem _ hg)
    refine ⟨xs ++ ys, ?_⟩
    have := hx.append hy
    rwa [List.take_append_drop, List.take_append_drop] at this

theorem times_read {d n : Nat} (ih : ReadsAt ν enc P w base spare held d n) {e : TypeId} {all : List Value} : ∀ (m i : Nat) (ss : List Sh) (cs : List Value), timesB (shB P d e) (P.cellsOf e) m ss = true → cs = all.drop (i * P.cellsOf e) → cs.length = ss.length →
    (∀ j, i ≤ j → j < i + m → ∃ y, DataW.trod enc P w base spare held n e ((all.drop (j * P.cellsOf e)).take (P.cellsOf e)) = some y) → ∃ xs, Reads ν w ss cs xs
  | 0, i, ss, cs, h, hcs, hl, _ => by
    simp only [timesB, List.isEmpty_iff] at h
    subst h
    have : cs = [] := List.eq_nil_of_length_eq_zero (by simpa using hl)
    subst this
    exact ⟨[], rfl, trivial, fun j v x h => by simp at h⟩
  | m + 1, i, ss, cs, h, hcs, hl, hf => by
    simp only [timesB, Bool.and_eq_true, Nat.ble_eq] at h
    obtain ⟨⟨h2, h3⟩, h4⟩ := h
    obtain ⟨y, hy⟩ := hf i (Nat.le_refl _) (by omega)
    rw [← hcs] at hy
    obtain ⟨xs, hx⟩ := ih _ _ _ _ h3 hy
    obtain ⟨ys, hy⟩ := times_read ih (all := all) m (i + 1) _ (cs.drop (P.cellsOf e)) h4 (by rw [hcs, List.drop_drop, Nat.add_mul, Nat.one_mul]) (by simp [hl]) fun j hj hj' => hf j (by omega) (by omega)
    refine ⟨xs ++ ys, ?_⟩
    have := hx.append hy
    rwa [List.take_append_drop, List.take_append_drop] at this

theorem reads_at : ∀ (d n : Nat), ReadsAt ν enc P w base spare held d n
  | 0, n => fun t ss cs x h => by simp [shB] at h
  | d + 1, n => by
    intro t ss cs x h hx
    unfold shB at h
    split at h
    · rename_i hu
      split at h
      · obtain ⟨b, rfl, _⟩ := DataW.trod_bool hu hx
        exact ⟨_, Reads.one ⟨b, rfl⟩ (.bool b)⟩
      · cases h
    · rename_i k hu
      split at h
      · rename_i k'
        have := beq_iff_eq.1 h; subst this
        obtain ⟨m, rfl, _, hw⟩ := DataW.trod_int hu hx
        exact ⟨_, Reads.one ⟨m, rfl, hw⟩ (.int _ _)⟩
      · cases h
    · rename_i hu
      split at h
      · obtain ⟨s, rfl, _, hw⟩ := DataW.trod_string hu hx
        exact ⟨_, Reads.one ⟨s, rfl, hw⟩ (.str s)⟩
      · cases h
    · rename_i e hu
      split at h
      · rename_i es
        simp only [Bool.and_eq_true, beq_iff_eq, Nat.blt_eq] at h
        obtain ⟨⟨hc, hpos⟩, hsh⟩ := h
        rcases DataW.trod_slice hu hx with ⟨rfl, _⟩ | ⟨a, len, cap, elems, rest, m, _, rfl, _, hb, hl, hm, hel, hget, _, _⟩
        · exact ⟨_, Reads.one (x := .sl es.length []) ⟨[], rfl, by simp, fun r h => by cases h⟩ (.sl0 _ _ _)⟩
        · by_cases h0 : len = 0
          · subst h0
            exact ⟨_, Reads.one (x := .sl es.length []) ⟨[], rfl, by simp, fun r h => by cases h⟩ (.sl0 _ _ _)⟩
          · have each : ∀ i, i < len → ∃ (ci : List Value) (xi : List IV), w.cells? base (a.add (i * es.length)) es.length = some ci ∧ Reads ν w es ci xi := by
              intro i hi
              have := hget i hi
              rw [hc, List.getElem?_eq_getElem (by omega), Option.bind_eq_some_iff] at this
              obtain ⟨ci, h1, h2⟩ := this
              obtain ⟨xi, h3⟩ := reads_at d m e es ci _ hsh h2
              exact ⟨ci, xi, h1, h3⟩
            have hex : ∀ i, ∃ p : List Value × List IV, i < len → w.cells? base (a.add (i * es.length)) es.length = some p.1 ∧ Reads ν w es p.1 p.2 := fun i => by
              by_cases hi : i < len
              · obtain ⟨ci, xi, h1, h2⟩ := each i hi
                exact ⟨(ci, xi), fun _ => ⟨h1, h2⟩⟩
              · exact ⟨([], []), fun h => absurd h hi⟩
            obtain ⟨p, hp⟩ := Classical.axiomOfChoice hex
            have hcell : ∀ i j, i < len → j < es.length → w.cell? (a.add (i * es.length + j)) = (p i).1[j]? := fun i j hi hj => by
              have := (World.cells?_some (hp i hi).1).2.2 j hj
              rwa [show (a.add (i * es.length)).add j = a.add (i * es.length + j) by simp only [Addr.add]; by_cases h1 : i * es.length = 0 <;> by_cases h2 : j = 0 <;> simp [h1, h2, Nat.add_assoc]] at this
            have hlen : ∀ i, i < len → (p i).1.length = es.length := fun i hi => (World.cells?_some (hp i hi).1).2.1
            have h00 : ∃ v, w.cell? (a.add 0) = some v := by
              have := hcell 0 0 (by omega) hpos
              simp only [Nat.zero_mul, Nat.add_zero] at this
              exact ⟨(p 0).1[0]'(by rw [hlen 0 (by omega)]; exact hpos), by rw [this]; exact List.getElem?_eq_getElem _⟩
            obtain ⟨v0, hv0⟩ := h00
            obtain ⟨b, off, spot⟩ := a
            have hspot : spot = none := by simpa [Addr.add] using World.cell?_spot hv0
            subst hspot
            have hblk : b < w.heap.size := by
              rcases Nat.lt_or_ge b w.heap.size with h | h
              · exact h
              · simp [Addr.add, World.cell?, Array.getElem?_eq_none h] at hv0
            refine ⟨_, Reads.one (x := .sl es.length ((List.range len).map fun i => (p i).2)) ⟨_, rfl, by simp; omega, fun r hr => ?_⟩
              (.sl b off len cap es.length _ (fun i j => ((p i).1[j]?).getD undef) hblk (by simp) hl (fun c hc => ?_) (fun i j c x h1 h2 => ?_) fun i j c x h1 h2 => ?_)⟩
            · simp only [List.mem_map, List.mem_range] at hr
              obtain ⟨i, hi, rfl⟩ := hr
              exact (hp i hi).2.2.1
            · simp only [List.mem_map, List.mem_range] at hc
              obtain ⟨i, hi, rfl⟩ := hc
              rw [(hp i hi).2.1, hlen i hi]
            · simp only [List.getElem?_map, Option.map_eq_some_iff] at h1
              obtain ⟨i', hi', rfl⟩ := h1
              have hi := lt_of_some hi'
              simp only [List.length_range] at hi
              rw [List.getElem?_range hi, Option.some.injEq] at hi'
              subst hi'
              have hj : j < es.length := by have := lt_of_some h2; rwa [(hp i hi).2.1, hlen i hi] at this
              have := hcell i j hi hj
              rw [Addr.add_lit] at this
              rw [show off + i * es.length + j = off + (i * es.length + j) by omega, this, List.getElem?_eq_getElem (by rw [hlen i hi]; exact hj)]
              rfl
            · simp only [List.getElem?_map, Option.map_eq_some_iff] at h1
              obtain ⟨i', hi', rfl⟩ := h1
              have hi := lt_of_some hi'
              simp only [List.length_range] at hi
              rw [List.getElem?_range hi, Option.some.injEq] at hi'
              subst hi'
              have hj : j < (p i).1.length := by have := lt_of_some h2; rwa [(hp i hi).2.1] at this
              refine (hp i hi).2.2.2 j _ x ?_ h2
              rw [List.getElem?_eq_getElem hj]; rfl
      · cases h
    · rename_i fs hu
      simp only [Bool.and_eq_true, beq_iff_eq] at h
      obtain ⟨xs, m, _, _, hlen, hxl, hget⟩ := DataW.trod_struct hu hx
      refine fields_read (reads_at d m) (all := cs) fs.toList 0 ss cs h.2 rfl (by rw [hlen, h.1]) fun f hf => ?_
      obtain ⟨i, hi⟩ := List.getElem?_of_mem hf
      have := hget i f (by simpa using hi)
      have hlt : i < xs.length := by have := lt_of_some hi; simp at this; omega
      rw [List.getElem?_eq_getElem hlt] at this
      exact ⟨_, this⟩
    · rename_i q e hu
      simp only [Bool.and_eq_true, beq_iff_eq] at h
      obtain ⟨xs, m, _, _, hlen, hxl, hget⟩ := DataW.trod_array hu hx
      refine times_read (reads_at d m) (all := cs) q 0 ss cs h.2 (by simp) (by rw [hlen, h.1]) fun j _ hj => ?_
      have := hget j (by omega)
      rw [List.getElem?_eq_getElem (by omega)] at this
      exact ⟨_, this⟩
    · cases h

/-! ### arguments -/
/-- an argument of these shapes, as what the machine is handed -/
def ArgIs (agg : Bool) (ss : List Sh) (x : AV) : Prop := ∃ xs, FitsL ss xs ∧ (if agg then x = .agg (xs.map .iv) else ∃ y, xs = [y] ∧ x = .iv y)

def argB (P : Program) (t : TypeId) (agg : Bool) (ss : List Sh) : Bool := shB P 9 t ss && (match P.underlying t with | some d => isAggD d == agg | none => false)

theorem arg_read {r : Reach} {b0 : Nat} {t : TypeId} {agg : Bool} {ss : List Sh} (ht : argB P t agg ss = true) {v : Value} (hval : Value.okWide P w r b0 t v) {d : DataW H} {ps : List MemPlace} (h : DataW.Trod enc P w base spare held t v d ps)
    {g : Gh} (hI : g.I = Old w) (hw : g.w = w) : ∃ x, ArgIs agg ss x ∧ RA ν g v x := by
  obtain ⟨n, hn⟩ := h
  simp only [argB, Bool.and_eq_true] at ht
  obtain ⟨xs, hx⟩ := reads_at (ν := ν) 9 n t ss _ _ ht.1 hn
  have hagg := ht.2
  unfold Value.okWide at hval
  split at hagg
  · rename_i dd hu
    rw [beq_iff_eq] at hagg
    subst hagg
    have hcells : isAggD dd = true → ∃ cs, v = .agg cs := by
      intro h
      rw [hu] at hval
      cases dd <;> simp [isAggD] at h <;> (obtain ⟨cs, rfl, _⟩ := hval; exact ⟨cs, rfl⟩)
    cases hd : isAggD dd with
    | true =>
      obtain ⟨cs, rfl⟩ := hcells hd
      refine ⟨.agg (xs.map .iv), ⟨xs, hx.2.1, by simp⟩, .agg (by have := hx.1; simp [Value.cells] at this; simp [this]) (fun j v hv => ?_) fun j v c hv hc => ?_⟩
      · have hj : j < xs.length := by have := (Array.getElem?_eq_some_iff.1 hv).1; have h2 := hx.1; simp [Value.cells] at h2; omega
        exact (hx.2.2 j v _ (by simpa [Value.cells] using hv) (List.getElem?_eq_getElem hj)).one
      · simp only [List.getElem?_map, Option.map_eq_some_iff] at hc
        obtain ⟨y, hy, rfl⟩ := hc
        refine .iv ?_
        rw [hI, hw]
        exact hx.2.2 j v y (by simpa [Value.cells] using hv) hy
    | false =>
      have h1 : v.cells.toList.length = 1 ∨ True := .inr trivial
      clear h1
      have hone : ∃ c, v.cells.toList = [c] ∧ c = v := by
        cases v <;> first | exact ⟨_, rfl, rfl⟩ | skip
        · rename_i cs
          exfalso
          rw [hu] at hval
          cases dd <;> simp [isAggD] at hd <;> simp [Cell.okWide, Cell.ok] at hval
      obtain ⟨c, hc, rfl⟩ := hone
      rw [hc] at hx
      have hxl := hx.1
      match xs, hxl with
      | [y], _ =>
        refine ⟨.iv y, ⟨[y], hx.2.1, by simp⟩, .iv ?_⟩
        rw [hI, hw]
        exact hx.2.2 0 c y rfl rfl
  · cases hagg
end
end Arb

/-
  A LAW: what the abstract machine answers, the program does; and it writes nothing that was there.
-/
namespace Arb
open Go Go.RowKit

section
variable {ν : Nat → Nat} {P : Program}

def start (W : World) : Gh := ⟨Old W, fun _ => none, W, []⟩

theorem law_calls (hmix : P.follows .mixedOrders = true) {prog : Nat → Option IFn} (tie : Tie P ν prog) {f : Nat} {W : World} {cargs : Array Value} {xs : List AV} (hR : RL ν (start W) cargs.toList xs) {n : Nat} {r : IV} {hp' : Hp}
    (he : evalF prog n f xs [] = some (.iv r, hp')) (hf : flatI r = true) : Calls P (ν f) cargs W fun e w' => ∃ v, e = .returned v ∧ RI ν (fun _ => False) W v r ∧ Below W.heap.size W w' := by
  obtain ⟨_, hok⟩ := sound hmix tie n f xs [] _ hp' he
  refine (hok ⟨W, Old W, fun _ => False⟩ (start W) cargs rfl rfl rfl (rel_none (g := start W) (J := Old W) fun b h => h) hR).mono ?_
  rintro e w' ⟨v, g', rfl, rfl, -, r', -, hv⟩
  refine ⟨v, rfl, ?_, ⟨r'.os, r'.tape, r'.output, r'.size, fun b hb => r'.old b hb (.inl fun h => h)⟩⟩
  cases hv with
  | iv h => exact flatI_any hf h

theorem law_true (hmix : P.follows .mixedOrders = true) {prog : Nat → Option IFn} (tie : Tie P ν prog) {f : Nat} {W : World} {cargs : Array Value} {xs : List AV} (hR : RL ν (start W) cargs.toList xs)
    (he : ∃ n hp', evalF prog n f xs [] = some (.iv (.bool true), hp')) : Calls P (ν f) cargs W fun e w' => e = .returned (.bool true) ∧ Below W.heap.size W w' := by
  obtain ⟨n, hp', he⟩ := he
  refine (law_calls hmix tie hR he rfl).mono ?_
  rintro e w' ⟨v, rfl, hv, hb⟩
  cases hv with
  | bool => exact ⟨rfl, hb⟩

def TieAt (P : Program) (ν : Nat → Nat) (f : Nat) (ir : IFn) : Prop := ∃ fn c, P.funcs[ν f]? = some fn ∧ fn.body = some c ∧ (fn.name == "runtime.NumGoroutine") = false ∧ cFn P ν fn c ir = true
theorem tie_nil : Tie P ν (get []) := fun f ir h => by simp [get] at h
theorem tie_cons {f : Nat} {ir : IFn} {L : List (Nat × IFn)} (h : TieAt P ν f ir) (hL : Tie P ν (get L)) : Tie P ν (get ((f, ir) :: L)) := by
  intro f' ir' hg
  simp only [get] at hg
  split at hg
  · rename_i h0
    subst h0
    simp only [Option.some.injEq] at hg
    subst hg
    exact h
  · exact hL f' ir' hg
def oneB (P : Program) (ν : Nat → Nat) (fn : Func) (ir : IFn) : Bool := (match fn.body with | some c => cFn P ν fn c ir | none => false) && !(fn.name == "runtime.NumGoroutine")
theorem tie_at {f k : Nat} {ir : IFn} {fn : Func} (hk : P.funcs[k]? = some fn) (hν : ν f = k) (h : oneB P ν fn ir = true) : TieAt P ν f ir := by
  simp only [oneB, Bool.and_eq_true, Bool.not_eq_true'] at h
  obtain ⟨h1, h2⟩ := h
  split at h1
  · rename_i c hc
    exact ⟨fn, c, by rw [hν]; exact hk, hc, h2, h1⟩
  · cases h1
end
end Arb

/-
  A LAW: what the two abstract machines answer, the program does; and it writes nothing that was there.
-/
namespace Arx
open Go Go.RowKit Arb

section
variable {ν : Nat → Nat} {P : Program}

def start (W : World) : Gh := ⟨Old W, fun _ => none, W, .nil⟩
theorem start_rel (W : World) : Rel ν ⟨W, Old W⟩ (start W) where
  ob id o h := by rw [show (start W).h = Tr.nil from rfl, tr_nil] at h; cases h
  inj id id' o o' b h := by rw [show (start W).h = Tr.nil from rfl, tr_nil] at h; cases h
  small b h := h
  i0 b h := h
  i1 b h := .inl h
  own id o b h := by rw [show (start W).h = Tr.nil from rfl, tr_nil] at h; cases h
  size := Nat.le_refl _
  os := rfl
  tape := rfl
  output := rfl
  old b _ := rfl
  ty id o b h := by rw [show (start W).h = Tr.nil from rfl, tr_nil] at h; cases h

theorem law_true (hmix : P.follows .mixedOrders = true) {p1 : Nat → Option Arb.IFn} (tie1 : Arb.Tie P ν p1) {p2 : Nat → Option IFn} (tie2 : Tie P ν p2) {f : Nat} {W : World} {cargs : Array Value} {xs : List AV}
    (hR : RL ν (start W) cargs.toList xs) (he : ∃ n p, run2 p1 p2 n f xs .nil 1 = some (.iv (.bool true), p)) : Calls P (ν f) cargs W fun e w' => e = .returned (.bool true) ∧ Below W.heap.size W w' := by
  obtain ⟨n, ⟨hp', nx'⟩, he⟩ := he
  have hs : Arb.CallSound ν P (one p1 n) := Arb.sound hmix tie1 n
  obtain ⟨_, hok⟩ := sound hmix hs tie2 n f xs .nil 1 _ hp' nx' he
  refine (hok ⟨W, Old W⟩ (start W) cargs rfl (start_rel W) hR).mono ?_
  rintro e w' ⟨v, g', rfl, rfl, -, r', -, hv⟩
  refine ⟨?_, ⟨r'.os, r'.tape, r'.output, r'.size, fun b hb => r'.old b hb⟩⟩
  cases hv with
  | iv h => cases h; rfl

theorem tie_nil : Tie P ν (get ([] : List (Nat × IFn))) := fun f ir h => by simp [fr_nil] at h
theorem tie_cons {f : Nat} {ir : IFn} {L : List (Nat × IFn)} (h : TieAt P ν f ir) (hL : Tie P ν (get L)) : Tie P ν (get ((f, ir) :: L)) := by
  intro f' ir' hg
  simp only [fr_cons] at hg
  split at hg
  · rename_i h0
    subst h0
    simp only [Option.some.injEq] at hg
    subst hg
    exact h
  · exact hL f' ir' hg
def oneB (P : Program) (ν : Nat → Nat) (fn : Func) (ir : IFn) : Bool := (match fn.body with | some c => cFn P ν fn c ir | none => false) && !(fn.name == "runtime.NumGoroutine")
theorem tie_at {f k : Nat} {ir : IFn} {fn : Func} (hk : P.funcs[k]? = some fn) (hν : ν f = k) (h : oneB P ν fn ir = true) : TieAt P ν f ir := by
  simp only [oneB, Bool.and_eq_true, Bool.not_eq_true'] at h
  obtain ⟨h1, h2⟩ := h
  split at h1
  · rename_i c hc
    exact .inl ⟨fn, c, by rw [hν]; exact hk, hc, h2, h1⟩
  · cases h1

/-- primitives do not mind more rounds -/
theorem clone_le (e : Nat) : PrimLe (Prim.clone e) := fun _ _ _ _ _ _ _ _ _ _ h => h
theorem total_le : PrimLe Prim.total := fun _ _ _ _ _ _ _ _ _ _ h => h
theorem prims_nil : PrimsLe (get ([] : List (Nat × IFn))) := fun f ir p h => by simp [fr_nil] at h
theorem prims_cons {f : Nat} {ir : IFn} {L : List (Nat × IFn)} (h : ∀ p, ir.prim = some p → PrimLe p) (hL : PrimsLe (get L)) : PrimsLe (get ((f, ir) :: L)) := by
  intro f' ir' p hg hp
  simp only [fr_cons] at hg
  split at hg
  · simp only [Option.some.injEq] at hg
    subst hg
    exact h p hp
  · exact hL f' ir' p hg hp
theorem prims_more {prog : Nat → Option IFn} (tie : Tie P ν prog) : ∀ f ir p, prog f = some ir → ir.prim = some p → PrimMore p := fun f ir p hf hp => by
  rcases tie f ir hf with ⟨fn, c, -, -, -, hcf⟩ | ⟨p', h1, -, h2⟩
  · simp [cFn, hp] at hcf
  · rw [hp] at h1; cases h1; exact h2
end
end Arx
