/-
  THE FUNCTIONS THAT THE PLAIN PROOFS NAME ARE THE PROGRAM'S; awake() is true.
-/
import Derived.Test.YtiggikalagohaaaArbA
import Derived.Test.YtiggikalagohaaaArbB
import Derived.Test.YtiggikalagohaaaArbC
import Derived.Test.YtiggikalagohaaaArbD
import Derived.Test.YtiggikalagohaaaArbE
import Derived.Test.YtiggikalagohaaaArbF
set_option linter.unusedSimpArgs false
namespace Arb
open Go

theorem lib1 : Lib1 (get Tied.fns) := ⟨rfl, rfl, rfl, rfl, rfl, rfl, rfl, rfl, rfl, rfl, rfl, rfl⟩
theorem lib2 : Lib2 (get Tied.fns) := ⟨rfl, rfl, rfl, rfl, rfl, rfl, rfl, rfl, rfl, rfl, rfl, rfl, rfl⟩
theorem lib3 : Lib3 (get Tied.fns) := ⟨lib2, rfl, rfl, rfl, rfl, rfl, rfl, rfl, rfl, rfl⟩
theorem lib4 : Lib4 (get Tied.fns) := ⟨lib1, lib3, rfl, rfl, rfl⟩
theorem lib5 : Lib5 (get Tied.fns) := ⟨lib4, rfl, rfl⟩
theorem lib6 : Lib6 (get Tied.fns) := ⟨lib5, rfl, rfl, rfl, rfl⟩
theorem lib7 : Lib7 (get Tied.fns) := ⟨lib6, rfl, rfl, rfl, rfl, rfl, rfl⟩

def isT : Option AV → Bool
  | some (.iv (.bool true)) => true
  | _ => false
theorem isT_eq {x : Option AV} (h : isT x = true) : x = some (.iv (.bool true)) := by
  unfold isT at h
  split at h
  · rfl
  · cases h
theorem awake_run : isT ((evalF (get Tied.fns) 60 4 [] []).bind shut) = true := by kernel_rfl
theorem awake_true : Ans (get Tied.fns) 4 [] (.iv (.bool true)) := by
  have h := isT_eq awake_run
  cases he : evalF (get Tied.fns) 60 4 [] [] with
  | none => rw [he] at h; cases h
  | some p =>
    rw [he] at h
    exact (Ev.at he).ans h
end Arb

/-
  SORTING BY INSERTION GIVES THE SAME ELEMENTS, RISING.
-/
set_option linter.unusedSimpArgs false
namespace Arb
open Go

section
variable {α : Type} {lt : α → α → Bool}

/-- into a falling list -/
def insV (lt : α → α → Bool) (x : α) : List α → List α
  | [] => [x]
  | y :: r => if lt x y then y :: insV lt x r else x :: y :: r

theorem sink_ins (x : α) : ∀ (v rest : List α), sink lt v.length (v.reverse ++ x :: rest) = (insV lt x v).reverse ++ rest
  | [], rest => rfl
  | y :: v, rest => by
    have h1 : (v.reverse ++ y :: x :: rest)[v.length + 1]? = some x := by
      rw [List.getElem?_append_right (by simp)]; simp
    have h2 : (v.reverse ++ y :: x :: rest)[v.length]? = some y := by
      rw [List.getElem?_append_right (by simp)]; simp
    rw [show (y :: v).reverse ++ x :: rest = v.reverse ++ y :: x :: rest by simp, List.length_cons, sink, h1, h2]
    simp only [insV]
    split
    · have h3 : ((v.reverse ++ y :: x :: rest).set (v.length + 1) y).set v.length x = v.reverse ++ x :: y :: rest := by
        rw [List.set_append_right _ _ (by simp), List.set_append_right _ _ (by simp)]
        simp
      rw [h3, sink_ins x v (y :: rest)]
      simp
    · simp

theorem sinks_fold (l : List α) : ∀ k, k < l.length → sinks lt l k = ((l.take (k + 1)).foldl (fun v x => insV lt x v) []).reverse ++ l.drop (k + 1)
  | 0, h => by
    match l, h with
    | x :: r, _ => simp [sinks, insV]
  | k + 1, h => by
    rw [sinks, sinks_fold l k (by omega)]
    obtain ⟨x, hx⟩ : ∃ x, l[k + 1]? = some x := ⟨_, List.getElem?_eq_getElem h⟩
    rw [drop_cons hx, List.take_add_one (i := k + 1), hx]
    generalize hv : (l.take (k + 1)).foldl (fun v x => insV lt x v) [] = v
    have hl : v.length = k + 1 := by
      have hlen : ∀ (m v : List α), (m.foldl (fun v x => insV lt x v) v).length = v.length + m.length := by
        intro m
        induction m with
        | nil => intro v; rfl
        | cons a m ih =>
          intro v
          rw [List.foldl_cons, ih]
          have : ∀ v : List α, (insV lt a v).length = v.length + 1 := by
            intro v
            induction v with
            | nil => rfl
            | cons b v ih2 => unfold insV; split <;> simp [ih2]
          rw [this, List.length_cons]; omega
      rw [← hv, hlen, List.length_take, List.length_nil]; omega
    have := sink_ins (lt := lt) x v (l.drop (k + 1 + 1))
    rw [hl] at this
    rw [this]
    simp only [Option.toList_some, List.foldl_append, List.foldl_cons, List.foldl_nil, hv]

theorem isort_fold (l : List α) : isort lt l = (l.foldl (fun v x => insV lt x v) []).reverse := by
  by_cases h : l.length = 0
  · obtain rfl := List.eq_nil_of_length_eq_zero h
    rfl
  · rw [isort, sinks_fold l (l.length - 1) (by omega), show l.length - 1 + 1 = l.length by omega, List.take_length, List.drop_length, List.append_nil]

theorem insV_mem {x a : α} : ∀ {v : List α}, a ∈ insV lt x v ↔ a = x ∨ a ∈ v
  | [] => by simp [insV]
  | y :: v => by
    unfold insV
    split
    · simp only [List.mem_cons, insV_mem]
      constructor
      · rintro (h | h | h) <;> simp [h]
      · rintro (h | h | h) <;> simp [h]
    · simp only [List.mem_cons]
theorem foldV_mem {a : α} : ∀ (l v : List α), a ∈ l.foldl (fun v x => insV lt x v) v ↔ a ∈ l ∨ a ∈ v
  | [], v => by simp
  | x :: l, v => by
    rw [List.foldl_cons, foldV_mem l, insV_mem, List.mem_cons]
    constructor
    · rintro (h | h | h) <;> simp [h]
    · rintro ((h | h) | h) <;> simp [h]
theorem isort_mem {a : α} {l : List α} : a ∈ isort lt l ↔ a ∈ l := by rw [isort_fold, List.mem_reverse, foldV_mem]; simp

structure Weak (lt : α → α → Bool) : Prop where
  asymm : ∀ a b, lt a b = true → lt b a = false
  ntrans : ∀ a b c, lt a b = false → lt b c = false → lt a c = false

theorem insV_desc (W : Weak lt) (x : α) : ∀ {v : List α}, v.Pairwise (fun a b => lt a b = false) → (insV lt x v).Pairwise fun a b => lt a b = false
  | [], _ => by simp [insV]
  | y :: v, h => by
    rw [List.pairwise_cons] at h
    unfold insV
    split
    · rename_i hxy
      rw [List.pairwise_cons]
      refine ⟨fun b hb => ?_, insV_desc W x h.2⟩
      rcases insV_mem.1 hb with rfl | hb
      · exact W.asymm _ _ hxy
      · exact h.1 b hb
    · rename_i hxy
      have hxy : lt x y = false := by simpa using hxy
      rw [List.pairwise_cons]
      refine ⟨fun b hb => ?_, List.pairwise_cons.2 h⟩
      rcases List.mem_cons.1 hb with rfl | hb
      · exact hxy
      · exact W.ntrans _ _ _ hxy (h.1 b hb)
theorem isort_asc (W : Weak lt) (l : List α) : (isort lt l).Pairwise fun a b => lt b a = false := by
  rw [isort_fold, List.pairwise_reverse]
  have : ∀ (l v : List α), v.Pairwise (fun a b => lt a b = false) → (l.foldl (fun v x => insV lt x v) v).Pairwise fun a b => lt a b = false := by
    intro l
    induction l with
    | nil => exact fun v h => h
    | cons x l ih => exact fun v h => ih _ (insV_desc W x h)
  exact this l [] List.Pairwise.nil
end
end Arb

/-
  RANGES IN THEIR NORMAL FORM: the same numbers, and one form alone.
-/
set_option linter.unusedSimpArgs false
namespace Arb
open Go

def inR (l : List (Int × Int)) (n : Int) : Prop := ∃ p ∈ l, p.1 ≤ n ∧ n ≤ p.2
def normal (l : List (Int × Int)) : Prop := (∀ p ∈ l, p.1 ≤ p.2) ∧ l.Pairwise fun p q => p.2 + 1 < q.1

theorem inR_cons {p : Int × Int} {l : List (Int × Int)} {n : Int} : inR (p :: l) n ↔ (p.1 ≤ n ∧ n ≤ p.2) ∨ inR l n := by
  simp [inR]
theorem inR_append {a b : List (Int × Int)} {n : Int} : inR (a ++ b) n ↔ inR a n ∨ inR b n := by
  simp only [inR, List.mem_append]
  constructor
  · rintro ⟨p, h | h, hp⟩
    · exact .inl ⟨p, h, hp⟩
    · exact .inr ⟨p, h, hp⟩
  · rintro (⟨p, h, hp⟩ | ⟨p, h, hp⟩)
    · exact ⟨p, .inl h, hp⟩
    · exact ⟨p, .inr h, hp⟩
theorem inR_nil {n : Int} : ¬ inR [] n := by simp [inR]
theorem normal_tail {p : Int × Int} {l : List (Int × Int)} (h : normal (p :: l)) : normal l := ⟨fun q hq => h.1 q (List.mem_cons_of_mem _ hq), (List.pairwise_cons.1 h.2).2⟩
theorem normal_above {p : Int × Int} {l : List (Int × Int)} (h : normal (p :: l)) {n : Int} (hn : inR l n) : p.2 + 1 < n := by
  obtain ⟨q, hq, h1, h2⟩ := hn
  have := (List.pairwise_cons.1 h.2).1 q hq
  omega

theorem normal_one : ∀ {l t : List (Int × Int)}, normal l → normal t → (∀ n, inR l n ↔ inR t n) → l = t
  | [], [], _, _, _ => rfl
  | [], q :: t, _, ht, h => by
    have := ht.1 q (List.mem_cons_self ..)
    exact (inR_nil ((h q.1).2 (inR_cons.2 (.inl ⟨Int.le_refl _, this⟩)))).elim
  | p :: l, [], hl, _, h => by
    have := hl.1 p (List.mem_cons_self ..)
    exact (inR_nil ((h p.1).1 (inR_cons.2 (.inl ⟨Int.le_refl _, this⟩)))).elim
  | p :: l, q :: t, hl, ht, h => by
    have hp := hl.1 p (List.mem_cons_self ..)
    have hq := ht.1 q (List.mem_cons_self ..)
    have lo1 : q.1 ≤ p.1 := by
      rcases inR_cons.1 ((h p.1).1 (inR_cons.2 (.inl ⟨Int.le_refl _, hp⟩))) with h1 | h1
      · exact h1.1
      · have := normal_above ht h1; omega
    have lo2 : p.1 ≤ q.1 := by
      rcases inR_cons.1 ((h q.1).2 (inR_cons.2 (.inl ⟨Int.le_refl _, hq⟩))) with h1 | h1
      · exact h1.1
      · have := normal_above hl h1; omega
    have hi1 : q.2 ≤ p.2 := by
      by_cases hlt : p.2 < q.2
      · rcases inR_cons.1 ((h (p.2 + 1)).2 (inR_cons.2 (.inl ⟨by omega, by omega⟩))) with h1 | h1
        · omega
        · have := normal_above hl h1; omega
      · omega
    have hi2 : p.2 ≤ q.2 := by
      by_cases hlt : q.2 < p.2
      · rcases inR_cons.1 ((h (q.2 + 1)).1 (inR_cons.2 (.inl ⟨by omega, by omega⟩))) with h1 | h1
        · omega
        · have := normal_above ht h1; omega
      · omega
    have e : p = q := Prod.ext (by omega) (by omega)
    subst e
    rw [normal_one (normal_tail hl) (normal_tail ht) fun n => ?_]
    constructor
    · intro hn
      have := normal_above hl hn
      rcases inR_cons.1 ((h n).1 (inR_cons.2 (.inr hn))) with h1 | h1
      · omega
      · exact h1
    · intro hn
      have := normal_above ht hn
      rcases inR_cons.1 ((h n).2 (inR_cons.2 (.inr hn))) with h1 | h1
      · omega
      · exact h1

/-! ### how it is made -/
def in64s (l : List (Int × Int)) : Prop := ∀ p ∈ l, in64 p.1 ∧ in64 p.2

theorem joinB_snoc (o : List (Int × Int)) (p r : Int × Int) : joinB (o ++ [p]) r = (p.2 == 9223372036854775807 || decide (r.1 ≤ IntKind.wrap .i64 (p.2 + 1))) := by
  unfold joinB
  rw [List.length_append, List.length_singleton, Nat.add_sub_cancel, List.getElem?_append_right (Nat.le_refl _)]
  simp
theorem hiR_snoc (o : List (Int × Int)) (p r : Int × Int) : hiR (o ++ [p]) r = o ++ [(p.1, if r.2 > p.2 then r.2 else p.2)] := by
  unfold hiR
  rw [List.length_append, List.length_singleton, Nat.add_sub_cancel, List.getElem?_append_right (Nat.le_refl _), Nat.sub_self]
  simp only [List.getElem?_cons_zero]
  rw [List.set_append_right _ _ (Nat.le_refl _)]
  simp

theorem addR_step {o : List (Int × Int)} {r : Int × Int} (ho : normal o) (h64 : in64s o) (hr : in64 r.1 ∧ in64 r.2) (hlo : ∀ p ∈ o, p.1 ≤ r.1) :
    normal (addR o r) ∧ in64s (addR o r) ∧ (∀ p ∈ addR o r, p.1 ≤ r.1) ∧ ∀ n, inR (addR o r) n ↔ inR o n ∨ (r.1 ≤ n ∧ n ≤ r.2) := by
  unfold addR
  split
  · rename_i hd
    have hd := of_decide_eq_true hd
    exact ⟨ho, h64, hlo, fun n => ⟨.inl, fun h => h.elim id fun h => by omega⟩⟩
  · rename_i hd
    have hd : ¬ r.2 < r.1 := fun h => hd (decide_eq_true h)
    rcases List.eq_nil_or_concat o with rfl | ⟨o', p, rfl⟩
    · rw [if_neg (by simp [joinB])]
      refine ⟨⟨fun q hq => ?_, by simp⟩, fun q hq => ?_, fun q hq => ?_, fun n => ?_⟩
      · simp at hq; subst hq; omega
      · simp at hq; subst hq; exact hr
      · simp at hq; subst hq; omega
      · simp [inR]
    · rw [List.concat_eq_append] at *
      rw [joinB_snoc, hiR_snoc]
      have hp := ho.1 p (by simp)
      have hp64 := h64 p (by simp)
      have hplo := hlo p (by simp)
      have hpw := List.pairwise_append.1 ho.2
      unfold in64 at hp64 hr
      split
      · rename_i hj
        have hj : p.2 = 9223372036854775807 ∨ r.1 ≤ p.2 + 1 := by
          simp only [Bool.or_eq_true, beq_iff_eq, decide_eq_true_eq] at hj
          rcases hj with hj | hj
          · exact .inl hj
          · by_cases hm : p.2 = 9223372036854775807
            · exact .inl hm
            · rw [IntWalk.i64_in _ (by omega)] at hj; exact .inr hj
        refine ⟨⟨fun q hq => ?_, ?_⟩, fun q hq => ?_, fun q hq => ?_, fun n => ?_⟩
        · rcases List.mem_append.1 hq with hq | hq
          · exact ho.1 q (by simp [hq])
          · simp at hq; subst hq; simp only; split <;> omega
        · refine List.pairwise_append.2 ⟨hpw.1, by simp, fun a ha b hb => ?_⟩
          simp at hb; subst hb
          exact hpw.2.2 a ha p (by simp)
        · rcases List.mem_append.1 hq with hq | hq
          · exact h64 q (by simp [hq])
          · simp at hq; subst hq; unfold in64; simp only; split <;> omega
        · rcases List.mem_append.1 hq with hq | hq
          · exact hlo q (by simp [hq])
          · simp at hq; subst hq; exact hplo
        · rw [inR_append, inR_append, inR_cons, inR_cons]
          simp only [inR_nil, or_false]
          constructor
          · rintro (h | h)
            · exact .inl (.inl h)
            · split at h
              · by_cases hn : n ≤ p.2
                · exact .inl (.inr ⟨h.1, hn⟩)
                · exact .inr ⟨by omega, h.2⟩
              · exact .inl (.inr h)
          · rintro ((h | h) | h)
            · exact .inl h
            · refine .inr ?_; split <;> omega
            · refine .inr ?_; split <;> omega
      · rename_i hj
        have hj : p.2 + 1 < r.1 := by
          simp only [Bool.or_eq_true, beq_iff_eq, decide_eq_true_eq, not_or] at hj
          have h1 := hj.1
          have h2 := hj.2
          rw [IntWalk.i64_in _ (by omega)] at h2
          omega
        have hall : ∀ a ∈ o' ++ [p], a.2 + 1 < r.1 := by
          intro a ha
          rcases List.mem_append.1 ha with ha | ha
          · have h1 := hpw.2.2 a ha p (by simp)
            omega
          · simp at ha; subst ha; exact hj
        refine ⟨⟨fun q hq => ?_, ?_⟩, fun q hq => ?_, fun q hq => ?_, fun n => ?_⟩
        · rcases List.mem_append.1 hq with hq | hq
          · exact ho.1 q hq
          · simp at hq; subst hq; omega
        · refine List.pairwise_append.2 ⟨ho.2, by simp, fun a ha b hb => ?_⟩
          simp at hb; subst hb
          exact hall a ha
        · rcases List.mem_append.1 hq with hq | hq
          · exact h64 q hq
          · simp at hq; subst hq; exact hr
        · rcases List.mem_append.1 hq with hq | hq
          · exact hlo q hq
          · simp at hq; subst hq; omega
        · rw [inR_append, inR_cons]
          simp only [inR_nil, or_false]

theorem foldR_all : ∀ (l o : List (Int × Int)), normal o → in64s o → in64s l → l.Pairwise (fun a b => a.1 ≤ b.1) → (∀ p ∈ o, ∀ r ∈ l, p.1 ≤ r.1) →
    normal (l.foldl addR o) ∧ in64s (l.foldl addR o) ∧ ∀ n, inR (l.foldl addR o) n ↔ inR o n ∨ inR l n
  | [], o, ho, h64, _, _, _ => ⟨ho, h64, fun n => by simp [inR_nil]⟩
  | r :: l, o, ho, h64, hl, hs, hlo => by
    obtain ⟨h1, h2, h3, h4⟩ := addR_step ho h64 (hl r (List.mem_cons_self ..)) fun p hp => hlo p hp r (List.mem_cons_self ..)
    rw [List.pairwise_cons] at hs
    obtain ⟨k1, k2, k3⟩ := foldR_all l (addR o r) h1 h2 (fun p hp => hl p (List.mem_cons_of_mem _ hp)) hs.2 fun p hp q hq => Int.le_trans (h3 p hp) (hs.1 q hq)
    refine ⟨k1, k2, fun n => ?_⟩
    rw [List.foldl_cons, k3, h4, inR_cons, or_assoc]

theorem weakR : Weak ltR := by
  constructor
  · intro a b
    unfold ltR cmpI
    simp only [decide_eq_true_eq, decide_eq_false_iff_not]
    split <;> split <;> (try split) <;> omega
  · intro a b c
    unfold ltR cmpI
    simp only [decide_eq_false_iff_not]
    split <;> split <;> split <;> (try split) <;> (try split) <;> (try split) <;> omega
theorem ltR_false {a b : Int × Int} (h : ltR b a = false) : a.1 ≤ b.1 := by
  unfold ltR cmpI at h
  simp only [decide_eq_false_iff_not] at h
  split at h
  · omega
  · omega

theorem normR_all {l : List (Int × Int)} (hl : in64s l) : normal (normR l) ∧ in64s (normR l) ∧ ∀ n, inR (normR l) n ↔ inR l n := by
  have hm : in64s (isort ltR l) := fun p hp => hl p (isort_mem.1 hp)
  obtain ⟨h1, h2, h3⟩ := foldR_all (isort ltR l) [] ⟨fun p hp => (by cases hp), List.Pairwise.nil⟩ (fun p hp => (by cases hp)) hm ((isort_asc weakR l).imp fun h => ltR_false h) (fun p hp => (by cases hp))
  refine ⟨h1, h2, fun n => ?_⟩
  unfold normR
  rw [h3]
  simp [inR, isort_mem]
theorem normR_swap {a b : List (Int × Int)} (ha : in64s a) (hb : in64s b) : normR (a ++ b) = normR (b ++ a) := by
  have h1 : in64s (a ++ b) := fun p hp => (List.mem_append.1 hp).elim (ha p) (hb p)
  have h2 : in64s (b ++ a) := fun p hp => (List.mem_append.1 hp).elim (hb p) (ha p)
  obtain ⟨n1, -, m1⟩ := normR_all h1
  obtain ⟨n2, -, m2⟩ := normR_all h2
  refine normal_one n1 n2 fun n => ?_
  rw [m1, m2, inR_append, inR_append, or_comm]
end Arb

/-
  RISING LISTS OF STRINGS; THE UNION OF TWO SETS HAS THE VALUES OF BOTH.
-/
set_option linter.unusedSimpArgs false
namespace Arb
open Go

theorem u8_lt {a b : UInt8} : a < b ↔ a.toNat < b.toNat := UInt8.lt_iff_toNat_lt
theorem u8_eq {a b : UInt8} : a = b ↔ a.toNat = b.toNat := UInt8.toNat_inj.symm
theorem bl_cons {a b : UInt8} {x y : List UInt8} : Op.bytesLess (a :: x) (b :: y) = true ↔ a.toNat < b.toNat ∨ (a.toNat = b.toNat ∧ Op.bytesLess x y = true) := by
  simp only [Op.bytesLess, Bool.or_eq_true, decide_eq_true_eq, Bool.and_eq_true, beq_iff_eq, u8_lt, u8_eq]
theorem bl_irr : ∀ x : List UInt8, ¬ Op.bytesLess x x = true
  | [] => by simp [Op.bytesLess]
  | a :: x => by rw [bl_cons]; exact fun h => h.elim (Nat.lt_irrefl _) fun h => bl_irr x h.2
theorem bl_trans : ∀ x y z : List UInt8, Op.bytesLess x y = true → Op.bytesLess y z = true → Op.bytesLess x z = true
  | _, [], _, h, _ => by simp [Op.bytesLess] at h
  | _, _ :: _, [], _, h => by simp [Op.bytesLess] at h
  | [], _ :: _, _ :: _, _, _ => by simp [Op.bytesLess]
  | a :: x, b :: y, c :: z, h, k => by
    rw [bl_cons] at h k ⊢
    rcases h with h | ⟨h, h'⟩ <;> rcases k with k | ⟨k, k'⟩
    · exact .inl (by omega)
    · exact .inl (by omega)
    · exact .inl (by omega)
    · exact .inr ⟨by omega, bl_trans x y z h' k'⟩
theorem bl_tri : ∀ x y : List UInt8, ¬ Op.bytesLess x y = true → ¬ Op.bytesLess y x = true → x = y
  | [], [], _, _ => rfl
  | [], _ :: _, h, _ => by simp [Op.bytesLess] at h
  | _ :: _, [], _, h => by simp [Op.bytesLess] at h
  | a :: x, b :: y, h, k => by
    rw [bl_cons] at h k
    have e : a.toNat = b.toNat := by omega
    rw [u8_eq.2 e, bl_tri x y (fun h' => h (.inr ⟨e, h'⟩)) (fun h' => k (.inr ⟨e.symm, h'⟩))]

theorem sless_irr (x : ByteArray) : ¬ sless x x = true := bl_irr _
theorem sless_trans {x y z : ByteArray} (h : sless x y = true) (k : sless y z = true) : sless x z = true := bl_trans _ _ _ h k
theorem sless_tri {x y : ByteArray} (h : ¬ sless x y = true) (k : ¬ sless y x = true) : x = y := by
  have := bl_tri _ _ h k
  rw [ByteArray.toList_eq, ByteArray.toList_eq] at this
  cases x; cases y
  simp only [Array.toList_inj] at this
  rw [this]
theorem sless_asymm {x y : ByteArray} (h : sless x y = true) : ¬ sless y x = true := fun k => sless_irr x (sless_trans h k)
theorem weakT : Weak ltT := by
  constructor
  · intro a b h
    exact Bool.eq_false_iff.2 (sless_asymm h)
  · intro a b c h k
    have h := Bool.eq_false_iff.1 h
    have k := Bool.eq_false_iff.1 k
    refine Bool.eq_false_iff.2 fun hac => ?_
    by_cases hba : sless b a = true
    · exact k (sless_trans hba hac)
    · have := sless_tri h hba
      subst this
      exact k hac

def rise (l : List ByteArray) : Prop := l.Pairwise fun a b => sless a b = true
theorem rise_one : ∀ {l t : List ByteArray}, rise l → rise t → (∀ s, s ∈ l ↔ s ∈ t) → l = t
  | [], [], _, _, _ => rfl
  | [], q :: t, _, _, h => by have := (h q).2 (List.mem_cons_self ..); cases this
  | p :: l, [], _, _, h => by have := (h p).1 (List.mem_cons_self ..); cases this
  | p :: l, q :: t, hl, ht, h => by
    have hl' := List.pairwise_cons.1 hl
    have ht' := List.pairwise_cons.1 ht
    have e : p = q := by
      rcases List.mem_cons.1 ((h p).1 (List.mem_cons_self ..)) with h1 | h1
      · exact h1
      · rcases List.mem_cons.1 ((h q).2 (List.mem_cons_self ..)) with h2 | h2
        · exact h2.symm
        · exact (sless_asymm (ht'.1 p h1) (hl'.1 q h2)).elim
    subst e
    rw [rise_one hl'.2 ht'.2 fun s => ?_]
    constructor
    · intro hs
      rcases List.mem_cons.1 ((h s).1 (List.mem_cons_of_mem _ hs)) with h1 | h1
      · subst h1; exact (sless_irr _ (hl'.1 _ hs)).elim
      · exact h1
    · intro hs
      rcases List.mem_cons.1 ((h s).2 (List.mem_cons_of_mem _ hs)) with h1 | h1
      · subst h1; exact (sless_irr _ (ht'.1 _ hs)).elim
      · exact h1

theorem compTo_all {l : List ByteArray} (hs : l.Pairwise fun a b => ltT b a = false) : ∀ j, j ≤ l.length → rise (compTo l j) ∧ ∀ s, s ∈ compTo l j ↔ s ∈ l.take j
  | 0, _ => ⟨List.Pairwise.nil, fun s => by simp [compTo]⟩
  | j + 1, hj => by
    obtain ⟨h1, h2⟩ := compTo_all hs j (by omega)
    obtain ⟨x, hx⟩ : ∃ x, l[j]? = some x := ⟨_, List.getElem?_eq_getElem hj⟩
    have hxj := (List.getElem?_eq_some_iff.1 hx).2
    rw [compTo, hx, List.take_add_one, hx]
    simp only [Option.toList_some]
    have hget := List.pairwise_iff_getElem.1 hs
    split
    · rename_i hc
      refine ⟨h1, fun s => ?_⟩
      rw [h2, List.mem_append, List.mem_singleton]
      refine ⟨.inl, fun h => h.elim id fun h => ?_⟩
      subst h
      have := List.getElem?_eq_some_iff.1 hc.2
      obtain ⟨hlt, he⟩ := this
      rw [← he]
      exact List.mem_take_iff_getElem.2 ⟨j - 1, by omega, rfl⟩
    · rename_i hc
      refine ⟨List.pairwise_append.2 ⟨h1, by simp, fun a ha b hb => ?_⟩, fun s => ?_⟩
      · rw [List.mem_singleton] at hb
        subst hb
        obtain ⟨k, hk, hka⟩ := List.mem_take_iff_getElem.1 ((h2 a).1 ha)
        have hkj : k < j := by omega
        have g1 := hget k j (by omega) hj hkj
        rw [hka, hxj] at g1
        have g1 := Bool.eq_false_iff.1 g1
        refine Classical.byContradiction fun hno => ?_
        have e : a = b := sless_tri hno g1
        subst e
        refine hc ⟨by omega, ?_⟩
        rw [List.getElem?_eq_getElem (by omega), Option.some.injEq]
        by_cases hk1 : k = j - 1
        · subst hk1; exact hka
        · have g2 := Bool.eq_false_iff.1 (hget k (j - 1) (by omega) (by omega) (by omega))
          have g3 := Bool.eq_false_iff.1 (hget (j - 1) j (by omega) hj (by omega))
          rw [hka] at g2
          rw [hxj] at g3
          exact sless_tri g2 g3
      · rw [List.mem_append, List.mem_append, h2]
theorem comp_all {l : List ByteArray} (hs : l.Pairwise fun a b => ltT b a = false) : rise (comp l) ∧ ∀ s, s ∈ comp l ↔ s ∈ l := by
  have := compTo_all hs l.length (Nat.le_refl _)
  rw [List.take_length] at this
  exact this
theorem joinT_all (a b : List ByteArray) : rise (joinT a b) ∧ ∀ s, s ∈ joinT a b ↔ s ∈ a ∨ s ∈ b := by
  obtain ⟨h1, h2⟩ := comp_all (isort_asc weakT (a ++ b))
  refine ⟨h1, fun s => ?_⟩
  unfold joinT
  rw [h2, isort_mem, List.mem_append]

theorem hasT_iff {l : List ByteArray} {t : ByteArray} : hasT l t = true ↔ t ∈ l := by rw [hasT, decide_eq_true_eq, idxFrom_mem]
theorem pickS_mem {a b : List ByteArray} {i : Bool} {s : ByteArray} : s ∈ pickS a b i ↔ s ∈ a ∧ (hasT b s == i) = true := by
  unfold pickS; rw [List.mem_filter]
theorem pickS_rise {a b : List ByteArray} {i : Bool} (h : rise a) : rise (pickS a b i) := List.Pairwise.filter _ h

/-- is a string in a set? -/
def hasStr (x : S) (t : ByteArray) : Bool := hasT x.s t != x.c
theorem orT_rise {x y : S} (hx : rise x.s) (hy : rise y.s) : rise (orT x y) := by
  unfold orT
  split
  · exact pickS_rise hx
  · split
    · exact pickS_rise hx
    · split
      · exact pickS_rise hy
      · exact (joinT_all _ _).1
theorem or_str (x y : S) (t : ByteArray) : hasStr (orS x y) t = (hasStr x t || hasStr y t) := by
  have e : hasT (orT x y) t = if x.c && y.c then hasT x.s t && hasT y.s t else if x.c then hasT x.s t && !hasT y.s t else if y.c then hasT y.s t && !hasT x.s t else hasT x.s t || hasT y.s t := by
    rw [Bool.eq_iff_iff, hasT_iff]
    unfold orT
    split
    · rw [pickS_mem, Bool.and_eq_true, hasT_iff]; simp
    · split
      · rw [pickS_mem, Bool.and_eq_true, hasT_iff]; simp
      · split
        · rw [pickS_mem, Bool.and_eq_true, hasT_iff]; simp
        · rw [(joinT_all _ _).2, Bool.or_eq_true, hasT_iff, hasT_iff]
  unfold hasStr
  rw [show (orS x y).s = orT x y from rfl, show (orS x y).c = (x.c || y.c) from rfl, e]
  cases x.c <;> cases y.c <;> cases hasT x.s t <;> cases hasT y.s t <;> rfl
theorem orT_swap {x y : S} (hx : rise x.s) (hy : rise y.s) : orT x y = orT y x := by
  refine rise_one (orT_rise hx hy) (orT_rise hy hx) fun t => ?_
  rw [← hasT_iff, ← hasT_iff, ← Bool.eq_iff_iff]
  have h1 := or_str x y t
  have h2 := or_str y x t
  rw [Bool.or_comm, ← h1] at h2
  unfold hasStr at h2
  rw [show (orS x y).s = orT x y from rfl, show (orS x y).c = (x.c || y.c) from rfl, show (orS y x).s = orT y x from rfl, show (orS y x).c = (y.c || x.c) from rfl, Bool.or_comm y.c] at h2
  revert h2
  cases hasT (orT x y) t <;> cases hasT (orT y x) t <;> cases x.c <;> cases y.c <;> decide
theorem orS_swap {x y : S} (hx : rise x.s) (hy : rise y.s) (kx : in64s x.i) (ky : in64s y.i) : orS x y = orS y x := by
  unfold orS
  rw [orT_swap hx hy, normR_swap kx ky, Bool.or_comm x.a, Bool.or_comm x.c]
end Arb

/-
  RIGHT SETS; MERGERS OF TWO, WHICHEVER IS THE FIRST.
-/
set_option linter.unusedSimpArgs false
namespace Arb
open Go

theorem normal_adj : ∀ {l : List (Int × Int)}, (∀ (i : Nat) p, l[i]? = some p → p.1 ≤ p.2) → (∀ (i : Nat) p r, l[i]? = some p → l[i + 1]? = some r → p.2 + 1 < r.1) → normal l
  | [], _, _ => ⟨fun p hp => (by cases hp), List.Pairwise.nil⟩
  | p :: l, h1, h2 => by
    have ih : normal l := normal_adj (fun i q h => h1 (i + 1) q (by simpa using h)) fun i q r h h' => h2 (i + 1) q r (by simpa using h) (by simpa using h')
    refine ⟨fun q hq => ?_, List.pairwise_cons.2 ⟨fun q hq => ?_, ih.2⟩⟩
    · rcases List.mem_cons.1 hq with rfl | hq
      · exact h1 0 q rfl
      · exact ih.1 q hq
    · match l, hq, ih with
      | r :: l', hq, ih =>
        have h3 := h2 0 p r rfl rfl
        rcases List.mem_cons.1 hq with rfl | hq
        · exact h3
        · have := (List.pairwise_cons.1 ih.2).1 q hq
          have := ih.1 r (List.mem_cons_self ..)
          omega
theorem rise_adj : ∀ {l : List ByteArray}, (∀ (i : Nat) p r, l[i]? = some p → l[i + 1]? = some r → sless p r = true) → rise l
  | [], _ => List.Pairwise.nil
  | p :: l, h2 => by
    have ih : rise l := rise_adj fun i q r h h' => h2 (i + 1) q r (by simpa using h) (by simpa using h')
    refine List.pairwise_cons.2 ⟨fun q hq => ?_, ih⟩
    match l, hq, ih with
    | r :: l', hq, ih =>
      have h3 := h2 0 p r rfl rfl
      rcases List.mem_cons.1 hq with rfl | hq
      · exact h3
      · exact sless_trans h3 ((List.pairwise_cons.1 ih).1 q hq)

structure S.fine (x : S) : Prop where
  i : normal x.i
  s : rise x.s
  len : ∀ t ∈ x.s, t.size ≤ 8
theorem pair_get {α : Type} {R : α → α → Prop} {l : List α} (h : l.Pairwise R) {i : Nat} {p r : α} (hp : l[i]? = some p) (hr : l[i + 1]? = some r) : R p r := by
  obtain ⟨h1, rfl⟩ := List.getElem?_eq_some_iff.1 hp
  obtain ⟨h2, rfl⟩ := List.getElem?_eq_some_iff.1 hr
  exact List.pairwise_iff_getElem.1 h _ _ _ _ (Nat.lt_succ_self i)
theorem rightS_iff {x : S} (h64 : in64s x.i) : rightS x = true ↔ x.fine := by
  unfold rightS
  simp only [Bool.and_eq_true, List.all_eq_true, List.mem_range, Bool.not_eq_true']
  constructor
  · rintro ⟨h1, h2⟩
    have hlt : ∀ {α : Type} {l : List α} {i : Nat} {p : α}, l[i]? = some p → i < l.length := fun h => (List.getElem?_eq_some_iff.1 h).1
    refine ⟨normal_adj (fun i p hp => ?_) (fun i p r hp hr => ?_), rise_adj (fun i p r hp hr => ?_), fun t ht => ?_⟩
    · have := h1 i (hlt hp)
      cases i with
      | zero => simp only [badR, hp, decide_eq_false_iff_not] at this; omega
      | succ j =>
        obtain ⟨q, hq⟩ : ∃ q, x.i[j]? = some q := ⟨_, List.getElem?_eq_getElem (by have := hlt hp; omega)⟩
        simp only [badR, hp, hq, Bool.or_eq_false_iff, decide_eq_false_iff_not] at this
        omega
    · have := h1 (i + 1) (hlt hr)
      simp only [badR, hp, hr, Bool.or_eq_false_iff, decide_eq_false_iff_not] at this
      have h3 := h64 p (List.mem_of_getElem? hp)
      have h4 := h64 r (List.mem_of_getElem? hr)
      unfold in64 at h3 h4
      have h5 := this.2.2
      rw [IntWalk.i64_in _ (by omega)] at h5
      have h5 : r.1 - 1 ≠ p.2 := by simpa using h5
      omega
    · have := h2 (i + 1) (hlt hr)
      simp only [badT, hp, hr, Bool.or_eq_false_iff, Bool.not_eq_false'] at this
      exact this.2
    · obtain ⟨i, hi, he⟩ := List.getElem_of_mem ht
      have ht' : x.s[i]? = some t := by rw [List.getElem?_eq_getElem hi, he]
      have := h2 i hi
      cases i with
      | zero => simp only [badT, ht', decide_eq_false_iff_not] at this; omega
      | succ j =>
        obtain ⟨q, hq⟩ : ∃ q, x.s[j]? = some q := ⟨_, List.getElem?_eq_getElem (by omega)⟩
        simp only [badT, ht', hq, Bool.or_eq_false_iff, decide_eq_false_iff_not] at this
        omega
  · rintro ⟨hn, hr, hl⟩
    refine ⟨fun i hi => ?_, fun i hi => ?_⟩
    · obtain ⟨r, hr⟩ : ∃ q, x.i[i]? = some q := ⟨_, List.getElem?_eq_getElem hi⟩
      have h1 := hn.1 r (List.mem_of_getElem? hr)
      cases i with
      | zero => simp only [badR, hr, decide_eq_false_iff_not]; omega
      | succ j =>
        obtain ⟨q, hq⟩ : ∃ q, x.i[j]? = some q := ⟨_, List.getElem?_eq_getElem (by omega)⟩
        have h2 := pair_get hn.2 hq hr
        have h3 := h64 q (List.mem_of_getElem? hq)
        have h4 := h64 r (List.mem_of_getElem? hr)
        unfold in64 at h3 h4
        simp only [badR, hr, hq, Bool.or_eq_false_iff, decide_eq_false_iff_not]
        rw [IntWalk.i64_in _ (by omega)]
        refine ⟨by omega, by omega, ?_⟩
        simp; omega
    · obtain ⟨r, hr'⟩ : ∃ q, x.s[i]? = some q := ⟨_, List.getElem?_eq_getElem hi⟩
      have h1 := hl r (List.mem_of_getElem? hr')
      cases i with
      | zero => simp only [badT, hr', decide_eq_false_iff_not]; omega
      | succ j =>
        obtain ⟨q, hq⟩ : ∃ q, x.s[j]? = some q := ⟨_, List.getElem?_eq_getElem (by omega)⟩
        have h2 := pair_get hr hq hr'
        simp only [badT, hr', hq, Bool.or_eq_false_iff, decide_eq_false_iff_not, Bool.not_eq_false']
        exact ⟨by omega, h2⟩
theorem right1_fine {b : B} (hb : b.ok) (h : right1 b = true) {i : Nat} (hi : i < 4) : (b.get i).fine := by
  have hk := (hb.at hi).ri
  refine (rightS_iff hk).1 ?_
  simp only [right1, allB, Bool.and_eq_true] at h
  match i, hi with
  | 0, _ => exact h.1.1
  | 1, _ => exact h.1.2.1
  | 2, _ => exact h.1.2.2.1
  | 3, _ => exact h.1.2.2.2
theorem or_fine {x y : S} (hx : x.fine) (hy : y.fine) (kx : in64s x.i) (ky : in64s y.i) : (orS x y).fine ∧ in64s (orS x y).i ∧ ∀ n, inR (orS x y).i n ↔ inR x.i n ∨ inR y.i n := by
  have hk : in64s (x.i ++ y.i) := fun p hp => (List.mem_append.1 hp).elim (kx p) (ky p)
  obtain ⟨h1, h2, h3⟩ := normR_all hk
  refine ⟨⟨h1, orT_rise hx.s hy.s, fun t ht => ?_⟩, h2, fun n => by rw [← inR_append]; exact h3 n⟩
  have : t ∈ x.s ∨ t ∈ y.s := by
    replace ht : t ∈ orT x y := ht
    unfold orT at ht
    split at ht
    · exact .inl (pickS_mem.1 ht).1
    · split at ht
      · exact .inl (pickS_mem.1 ht).1
      · split at ht
        · exact .inr (pickS_mem.1 ht).1
        · exact ((joinT_all _ _).2 t).1 ht
  exact this.elim (hx.len t) (hy.len t)

/-! ### whichever is the first -/
theorem sameS_comm (x y : S) : sameS x y = sameS y x := by
  rw [Bool.eq_iff_iff, sameS_iff, sameS_iff]; exact ⟨Eq.symm, Eq.symm⟩
theorem diffTo_comm (x y : B) : ∀ n, diffTo x y n = diffTo y x n
  | 0 => rfl
  | n + 1 => by simp only [diffTo, sameS_comm (x.get n), diffTo_comm x y n]
theorem sole_swap {a b : List B} {x y : B} {i : Nat} (h : sole a b = some (x, y, i)) : sole b a = some (y, x, i) := by
  unfold sole at h ⊢
  split at h
  · rename_i x' y'
    split at h
    · rename_i hc
      simp only [Option.some.injEq, Prod.mk.injEq] at h
      obtain ⟨rfl, rfl, rfl⟩ := h
      rw [diffTo_comm, Bool.and_comm (right1 _)] at hc
      rw [if_pos hc, diffTo_comm]
    · cases h
  · cases h
theorem sole_swap_none {a b : List B} (h : sole a b = none) : sole b a = none := by
  cases h' : sole b a with
  | none => rfl
  | some q =>
    obtain ⟨y, x, i⟩ := q
    rw [sole_swap h'] at h; cases h
theorem put_same {x y : B} {i : Nat} (hi : i < 4) (h : ∀ j, j < 4 → j ≠ i → sameS (x.get j) (y.get j) = true) (s : S) : x.put i s = y.put i s := by
  have e0 : (0 : Nat) ≠ i → x.s0 = y.s0 := fun hn => sameS_iff.1 (h 0 (by omega) hn)
  have e1 : (1 : Nat) ≠ i → x.s1 = y.s1 := fun hn => sameS_iff.1 (h 1 (by omega) hn)
  have e2 : (2 : Nat) ≠ i → x.s2 = y.s2 := fun hn => sameS_iff.1 (h 2 (by omega) hn)
  have e3 : (3 : Nat) ≠ i → x.s3 = y.s3 := fun hn => sameS_iff.1 (h 3 (by omega) hn)
  match i, hi with
  | 0, _ => simp [B.put, e1, e2, e3]
  | 1, _ => simp [B.put, e0, e2, e3]
  | 2, _ => simp [B.put, e0, e1, e3]
  | 3, _ => simp [B.put, e0, e1, e2]
theorem grew_swap (x y s : S) : grew x y s = grew y x s := by
  unfold grew
  refine decide_eq_decide.2 ?_
  split <;> split <;> omega
theorem perfF_swap {a b : List B} (ha : ∀ x ∈ a, x.ok) (hb : ∀ x ∈ b, x.ok) : perfF a b = perfF b a := by
  unfold perfF
  cases h : sole a b with
  | none => rw [sole_swap_none h]
  | some q =>
    obtain ⟨x, y, i⟩ := q
    rw [sole_swap h]
    obtain ⟨rfl, rfl, h1, h2, hi, -, -, hs⟩ := sole_some h
    have kx := ha x (by simp)
    have ky := hb y (by simp)
    have fx := right1_fine kx h1 hi
    have fy := right1_fine ky h2 hi
    simp only
    rw [orS_swap fx.s fy.s (kx.at hi).ri (ky.at hi).ri, grew_swap, put_same hi hs]
theorem between_bad {p q : Int × Int} (hp : p.1 ≤ p.2) (h : q.1 ≤ p.1) : (between p q).2 = false := by
  unfold between
  rw [if_pos]
  simp only [Bool.or_eq_true, decide_eq_true_eq]
  right; right; omega
theorem hull2_bad {x : B} {s : S} {i : Nat} {p q : Int × Int} (hp : p.1 ≤ p.2) (h : q.1 ≤ p.1) : hull2 x s i p q = ([], 0, false) := by
  unfold hull2; rw [between_bad hp h]; rfl
theorem hull1_swap {x y : B} {i : Nat} (hi : i < 4) (h : ∀ j, j < 4 → j ≠ i → sameS (x.get j) (y.get j) = true) (hx : (x.get i).fine) (hy : (y.get i).fine) : hull1 x (x.get i) (y.get i) i = hull1 y (y.get i) (x.get i) i := by
  generalize hs : x.get i = s at hx
  generalize ht : y.get i = t at hy
  by_cases hn : s.i.length ≠ 1 ∨ t.i.length ≠ 1
  · rw [hull1_ne hn, hull1_ne hn.symm]
  · obtain ⟨p, hp⟩ : ∃ p, s.i = [p] := List.length_eq_one_iff.1 (by omega)
    obtain ⟨q, hq⟩ : ∃ q, t.i = [q] := List.length_eq_one_iff.1 (by omega)
    have hpp := hx.i.1 p (by rw [hp]; simp)
    have hqq := hy.i.1 q (by rw [hq]; simp)
    unfold hull1
    rw [hp, hq]
    simp only
    obtain ⟨sa, si, sc, ss⟩ := s
    obtain ⟨ta, ti, tc, ts⟩ := t
    simp only at hp hq
    subst hp hq
    by_cases hsm : sameS ⟨sa, [p], sc, ss⟩ ⟨ta, [p], tc, ts⟩ = true
    · have e := sameS_iff.1 hsm
      simp only [S.mk.injEq, true_and] at e
      obtain ⟨rfl, rfl, rfl⟩ := e
      rw [sameS_iff.2 rfl, sameS_iff.2 rfl]
      simp only [Bool.not_true, Bool.false_eq_true, if_false]
      have e2 : ∀ p' q', hull2 x ⟨sa, [p], sc, ss⟩ i p' q' = hull2 y ⟨sa, [q], sc, ss⟩ i p' q' := by
        intro p' q'
        unfold hull2
        rw [put_same hi h]
      by_cases h1 : q.1 < p.1
      · rw [decide_eq_true h1, if_pos rfl, decide_eq_false (by omega), if_neg Bool.false_ne_true, e2]
      · rw [decide_eq_false h1, if_neg Bool.false_ne_true]
        by_cases h2 : p.1 < q.1
        · rw [decide_eq_true h2, if_pos rfl, e2]
        · rw [decide_eq_false h2, if_neg Bool.false_ne_true, hull2_bad hpp (by omega), hull2_bad hqq (by omega)]
    · have hsm' : ¬ sameS ⟨ta, [q], tc, ts⟩ ⟨sa, [q], sc, ss⟩ = true := by
        intro h'
        have e := sameS_iff.1 h'
        simp only [S.mk.injEq, true_and] at e
        obtain ⟨rfl, rfl, rfl⟩ := e
        exact hsm (sameS_iff.2 rfl)
      rw [Bool.eq_false_iff.2 hsm, Bool.eq_false_iff.2 hsm']
      rfl
theorem hullF_swap {a b : List B} (ha : ∀ x ∈ a, x.ok) (hb : ∀ x ∈ b, x.ok) : hullF a b = hullF b a := by
  unfold hullF
  cases h : sole a b with
  | none => rw [sole_swap_none h]
  | some q =>
    obtain ⟨x, y, i⟩ := q
    rw [sole_swap h]
    obtain ⟨rfl, rfl, h1, h2, hi, -, -, hs⟩ := sole_some h
    exact hull1_swap hi hs (right1_fine (ha x (by simp)) h1 hi) (right1_fine (hb y (by simp)) h2 hi)
end Arb

/-
  WHAT MERGERS THERE ARE; never both.
-/
set_option linter.unusedSimpArgs false
namespace Arb
open Go

theorem perfF_some {a b : List B} (h : (perfF a b).2 = true) : ∃ x y i, sole a b = some (x, y, i) ∧ smallS (orS (x.get i) (y.get i)) = true ∧ grew (x.get i) (y.get i) (orS (x.get i) (y.get i)) = false ∧ perfF a b = ([x.put i (orS (x.get i) (y.get i))], true) := by
  cases hs : sole a b with
  | none => simp [perfF, hs] at h
  | some q =>
    obtain ⟨x, y, i⟩ := q
    refine ⟨x, y, i, rfl, ?_⟩
    unfold perfF at h ⊢
    rw [hs] at h ⊢
    simp only at h ⊢
    split at h
    · cases h
    · rename_i hc
      rw [if_neg hc]
      simp only [Bool.or_eq_true, Bool.not_eq_true', not_or, Bool.not_eq_false, Bool.not_eq_true] at hc
      exact ⟨hc.1, hc.2, rfl⟩
theorem perfF_no {a b : List B} (h : (perfF a b).2 = false) : perfF a b = ([], false) := by
  cases hs : sole a b with
  | none => simp [perfF, hs]
  | some q =>
    obtain ⟨x, y, i⟩ := q
    unfold perfF at h ⊢
    rw [hs] at h ⊢
    simp only at h ⊢
    split at h
    · rename_i hc; rw [if_pos hc]
    · cases h
theorem hull2_no {x : B} {s : S} {i : Nat} {p q : Int × Int} (h : (hull2 x s i p q).2.2 = false) : hull2 x s i p q = ([], 0, false) := by
  unfold hull2 at h ⊢
  split at h
  · rename_i hc; rw [if_pos hc]
  · cases h
theorem hullF_no {a b : List B} (h : (hullF a b).2.2 = false) : hullF a b = ([], 0, false) := by
  cases hs : sole a b with
  | none => simp [hullF, hs]
  | some q =>
    obtain ⟨x, y, i⟩ := q
    unfold hullF at h ⊢
    rw [hs] at h ⊢
    simp only at h ⊢
    unfold hull1 at h ⊢
    split
    · split at h
      · rename_i hp hq _ _ _ _ hp' hq'
        rw [hp] at hp'
        rw [hq] at hq'
        cases hp'
        cases hq'
        split at h
        · rename_i hc; rw [if_pos hc]
        · rename_i hc
          rw [if_neg hc]
          split at h
          · rename_i hd; rw [if_pos hd]; exact hull2_no h
          · rename_i hd; rw [if_neg hd]; exact hull2_no h
      · rename_i hno
        rename_i hp hq _ _
        exact (hno _ _ hp hq).elim
    · rfl
theorem hull2_some {x : B} {s : S} {i : Nat} {p q : Int × Int} (h : (hull2 x s i p q).2.2 = true) : (between p q).2 = true ∧ IntKind.wrap .i64 (p.2 + 1) ≠ q.1 ∧ hull2 x s i p q = ([x.put i ⟨s.a, [(p.1, q.2)], s.c, s.s⟩], (between p q).1, true) := by
  unfold hull2 at h ⊢
  split at h
  · cases h
  · rename_i hc
    rw [if_neg hc]
    simp only [Bool.or_eq_true, Bool.not_eq_true', beq_iff_eq, not_or, Bool.not_eq_false] at hc
    exact ⟨hc.1, hc.2, rfl⟩
/-- the hull of two boxes: p is the lower range -/
structure Hulls (a b : List B) (x y : B) (i : Nat) (p q : Int × Int) : Prop where
  sole : Arb.sole a b = some (x, y, i)
  at' : (x.get i).i = [p] ∧ (y.get i).i = [q] ∨ (x.get i).i = [q] ∧ (y.get i).i = [p]
  ea : (x.get i).a = (y.get i).a
  ec : (x.get i).c = (y.get i).c
  es : (x.get i).s = (y.get i).s
  ok : (between p q).2 = true
  far : IntKind.wrap .i64 (p.2 + 1) ≠ q.1
  eq : hullF a b = ([x.put i ⟨(x.get i).a, [(p.1, q.2)], (x.get i).c, (x.get i).s⟩], (between p q).1, true)
theorem hullF_some {a b : List B} (h : (hullF a b).2.2 = true) : ∃ x y i p q, Hulls a b x y i p q := by
  cases hs : sole a b with
  | none => simp [hullF, hs] at h
  | some q =>
    obtain ⟨x, y, i⟩ := q
    have he : hullF a b = hull1 x (x.get i) (y.get i) i := by unfold hullF; rw [hs]
    rw [he] at h
    by_cases hn : (x.get i).i.length ≠ 1 ∨ (y.get i).i.length ≠ 1
    · rw [hull1_ne hn] at h; cases h
    · obtain ⟨p, hp⟩ : ∃ p, (x.get i).i = [p] := List.length_eq_one_iff.1 (by omega)
      obtain ⟨q, hq⟩ : ∃ q, (y.get i).i = [q] := List.length_eq_one_iff.1 (by omega)
      have he2 : hull1 x (x.get i) (y.get i) i = if !sameS (x.get i) ⟨(y.get i).a, [p], (y.get i).c, (y.get i).s⟩ then ([], 0, false) else if decide (q.1 < p.1) then hull2 x (x.get i) i q p else hull2 x (x.get i) i p q := by unfold hull1; rw [hp, hq]
      rw [he2] at h he
      split at h
      · cases h
      · rename_i hc
        rw [if_neg hc] at he
        have e : x.get i = ⟨(y.get i).a, [p], (y.get i).c, (y.get i).s⟩ := sameS_iff.1 (by simpa using hc)
        split at h
        · rename_i hd
          rw [if_pos hd] at he
          obtain ⟨h1, h2, h3⟩ := hull2_some h
          exact ⟨x, y, i, q, p, hs, .inr ⟨hp, hq⟩, by rw [e], by rw [e], by rw [e], h1, h2, by rw [he, h3]⟩
        · rename_i hd
          rw [if_neg hd] at he
          obtain ⟨h1, h2, h3⟩ := hull2_some h
          exact ⟨x, y, i, p, q, hs, .inl ⟨hp, hq⟩, by rw [e], by rw [e], by rw [e], h1, h2, by rw [he, h3]⟩
theorem between_true {p q : Int × Int} (h : (between p q).2 = true) : p.1 ≤ p.2 ∧ q.1 ≤ q.2 ∧ p.2 < q.1 := by
  unfold between at h
  split at h
  · cases h
  · rename_i hc
    simp only [Bool.or_eq_true, decide_eq_true_eq, not_or] at hc
    omega
theorem not_both {a b : List B} (ha : ∀ x ∈ a, x.ok) (hb : ∀ x ∈ b, x.ok) : ((perfF a b).2 && (hullF a b).2.2) = false := by
  cases hh : (hullF a b).2.2 with
  | false => rw [Bool.and_false]
  | true =>
    rw [Bool.and_true]
    refine Bool.eq_false_iff.2 fun hp => ?_
    obtain ⟨x, y, i, p, q, H⟩ := hullF_some hh
    obtain ⟨x', y', i', hs, -, hg, -⟩ := perfF_some hp
    rw [H.sole] at hs
    cases hs
    obtain ⟨rfl, rfl, h1, h2, hi, -, -, -⟩ := sole_some H.sole
    have kx := ((ha x (by simp)).at hi).ri
    have ky := ((hb y (by simp)).at hi).ri
    obtain ⟨b1, b2, b3⟩ := between_true H.ok
    have hpq : in64s [p, q] := by
      intro r hr
      rcases H.at' with ⟨e1, e2⟩ | ⟨e1, e2⟩
      · rw [e1] at kx; rw [e2] at ky
        simp at hr
        rcases hr with rfl | rfl
        · exact kx _ (by simp)
        · exact ky _ (by simp)
      · rw [e1] at kx; rw [e2] at ky
        simp at hr
        rcases hr with rfl | rfl
        · exact ky _ (by simp)
        · exact kx _ (by simp)
    have hp64 := hpq p (by simp)
    have hq64 := hpq q (by simp)
    unfold in64 at hp64 hq64
    have hfar := H.far
    rw [IntWalk.i64_in _ (by omega)] at hfar
    have hnorm : normal [p, q] := ⟨fun r hr => by simp at hr; rcases hr with rfl | rfl <;> omega, by simp; omega⟩
    have hk : in64s ((x.get i).i ++ (y.get i).i) := fun r hr => (List.mem_append.1 hr).elim (kx r) (ky r)
    obtain ⟨n1, -, n3⟩ := normR_all hk
    have e : normR ((x.get i).i ++ (y.get i).i) = [p, q] := by
      refine normal_one n1 hnorm fun n => ?_
      rw [n3]
      rcases H.at' with ⟨e1, e2⟩ | ⟨e1, e2⟩
      · rw [e1, e2]; rfl
      · rw [e1, e2, inR_append, Or.comm, ← inR_append]; rfl
    have hl1 : (x.get i).i.length = 1 := by rcases H.at' with ⟨e1, e2⟩ | ⟨e1, e2⟩ <;> rw [e1] <;> rfl
    have hl2 : (y.get i).i.length = 1 := by rcases H.at' with ⟨e1, e2⟩ | ⟨e1, e2⟩ <;> rw [e2] <;> rfl
    have hl3 : (orS (x.get i) (y.get i)).i.length = 2 := by show (normR _).length = 2; rw [e]; rfl
    unfold grew at hg
    rw [hl1, hl2, hl3] at hg
    revert hg
    decide
theorem hullF_fits {a b : List B} (ha : ∀ x ∈ a, x.fits) : (hullF a b).1.length ≤ maxLen ∧ ∀ z ∈ (hullF a b).1, z.fits := by
  cases h : (hullF a b).2.2 with
  | false => rw [hullF_no h]; exact ⟨Nat.zero_le _, fun z h => by cases h⟩
  | true =>
    obtain ⟨x, y, i, p, q, H⟩ := hullF_some h
    rw [H.eq]
    obtain ⟨rfl, rfl, -, -, hi, -, -, -⟩ := sole_some H.sole
    refine ⟨by simp [maxLen], fun z hz => ?_⟩
    rw [List.mem_singleton] at hz
    subst hz
    intro j hj
    have hx := ha x (by simp) j hj
    have hs : ((⟨(x.get i).a, [(p.1, q.2)], (x.get i).c, (x.get i).s⟩ : S)).i.length ≤ maxLen ∧ ((⟨(x.get i).a, [(p.1, q.2)], (x.get i).c, (x.get i).s⟩ : S)).s.length ≤ maxLen := ⟨by simp [maxLen], (ha x (by simp) i hi).2⟩
    match i, hi, j, hj with
    | 0, _, 0, _ => exact hs
    | 0, _, 1, _ => exact hx
    | 0, _, 2, _ => exact hx
    | 0, _, 3, _ => exact hx
    | 1, _, 0, _ => exact hx
    | 1, _, 1, _ => exact hs
    | 1, _, 2, _ => exact hx
    | 1, _, 3, _ => exact hx
    | 2, _, 0, _ => exact hx
    | 2, _, 1, _ => exact hx
    | 2, _, 2, _ => exact hs
    | 2, _, 3, _ => exact hx
    | 3, _, 0, _ => exact hx
    | 3, _, 1, _ => exact hx
    | 3, _, 2, _ => exact hx
    | 3, _, 3, _ => exact hs

section
variable {prog : Nat → Option IFn}

set_option maxHeartbeats 4000000 in
theorem p_turns (H : Lib7 prog) (hA : Ans prog 4 [] (.iv (.bool true))) (h2 : prog 2 = some F2) (a b : List B) (la : a.length ≤ maxLen) (lb : b.length ≤ maxLen) (ha : ∀ x ∈ a, x.ok) (hb : ∀ x ∈ b, x.ok) :
    ∃ p : AV × Hp, p.1 = .iv (.bool true) ∧ Ev prog 2 [filt a, filt b] [] p := by
  obtain ⟨KA, hKA⟩ := hA
  obtain ⟨K1, hK1⟩ := p_few6 H.h27 H.h14 H.h5 a la
  obtain ⟨K2, hK2⟩ := p_few6 H.h27 H.h14 H.h5 b lb
  obtain ⟨K3, hK3⟩ := p_perfect H.toLib4 a b (fun x h => (ha x h).fits) (fun x h => (hb x h).fits)
  obtain ⟨K4, hK4⟩ := p_perfect H.toLib4 b a (fun x h => (hb x h).fits) (fun x h => (ha x h).fits)
  obtain ⟨K5, hK5⟩ := p_hull H.toLib5 a b (fun x h => (ha x h).fits) (fun x h => (hb x h).fits)
  obtain ⟨K6, hK6⟩ := p_hull H.toLib5 b a (fun x h => (hb x h).fits) (fun x h => (ha x h).fits)
  rw [← perfF_swap ha hb] at hK4
  rw [← hullF_swap ha hb] at hK6
  obtain ⟨lf, hf⟩ := perfF_fits (a := a) (b := b) (fun x h => (ha x h).fits)
  obtain ⟨lg, hg⟩ := hullF_fits (a := a) (b := b) (fun x h => (ha x h).fits)
  have hnb := not_both ha hb
  generalize perfF a b = f at hK3 hK4 lf hf hnb
  generalize hullF a b = g at hK5 hK6 lg hg hnb
  obtain ⟨K7, hK7⟩ := p_same6 H.h41 H.h25 H.h11 f.1 f.1 lf hf
  obtain ⟨K8, hK8⟩ := p_same6 H.h41 H.h25 H.h11 g.1 g.1 lg hg
  rw [sameF_iff.2 rfl] at hK7 hK8
  refine Ev.ofx h2 rfl rfl _ (Wp.seq ?_)
  refine Wp.rgn (K := 0) (fun n _ => by simp [evalRgn, Option.map_some, evalOps, step, wants, osem, M.run_bind, M.mapL, M.run, M.ok, M.fresh, M.write, M.look, M.lift, putD, Arb.set, ev, Arb.get, keepFr, bin, intBin, strBin, mk, params, cellsM, load, obRead, fadr, fld, isl, iarr, xarr, idx, len, valid, slc, bound, store, splice, nilc, un, eqs, eq0, evalFeet, footOf, M.foot, orderOk, apartAll, apart1, clash, meets, callM, fcallM, callee, fz1, fzC, fz, flat, flat1, flat0, flatI, Option.bind_some, putAll, M.bind]; rfl) ?_
  refine Wp.seq (Wp.seq ?_)
  refine Wp.rgn (K := max KA (max K1 K2)) (s' := ⟨[(0, filt a), (1, filt b), (26, .iv (.bool (!few a || !few b)))], [], 1832⟩) (fun n hn => by
    have e0 := hKA n (by omega)
    have e1 := hK1 n (by omega)
    have e2 := hK2 n (by omega)
    simp only [filt] at e1 e2
    generalize evalF prog n = g at e0 e1 e2
    cases h1 : few a <;> rw [h1] at e1 <;> simp [evalRgn, Option.map_some, evalOps, step, wants, osem, M.run_bind, M.mapL, M.run, M.ok, M.fresh, M.write, M.look, M.lift, putD, Arb.set, ev, Arb.get, keepFr, bin, intBin, strBin, mk, params, cellsM, load, obRead, fadr, fld, isl, iarr, xarr, idx, len, valid, slc, bound, store, splice, nilc, un, eqs, eq0, evalFeet, footOf, M.foot, orderOk, apartAll, apart1, clash, meets, callM, fcallM, callee, fz1, fzC, fz, flat, flat1, flat0, flatI, Option.bind_some, putAll, M.bind, filt, e0, e1, e2]) ?_
  refine Wp.cond rfl ?_
  cases hc : !few a || !few b with
  | true =>
    refine Wp.seq ?_
    refine Wp.rgn (K := KA) (fun n hn => by
      have e0 := hKA n hn
      generalize evalF prog n = g at e0
      simp [evalRgn, Option.map_some, evalOps, step, wants, osem, M.run_bind, M.mapL, M.run, M.ok, M.fresh, M.write, M.look, M.lift, putD, Arb.set, ev, Arb.get, keepFr, bin, intBin, strBin, mk, params, cellsM, load, obRead, fadr, fld, isl, iarr, xarr, idx, len, valid, slc, bound, store, splice, nilc, un, eqs, eq0, evalFeet, footOf, M.foot, orderOk, apartAll, apart1, clash, meets, callM, fcallM, callee, fz1, fzC, fz, flat, flat1, flat0, flatI, Option.bind_some, putAll, M.bind, e0]; rfl) ?_
    exact Wp.ret ⟨(.iv (.bool true), []), rfl, rfl⟩
  | false =>
    refine Wp.skip (Wp.seq ?_)
    refine Wp.rgn (K := K3) (s' := ⟨[(0, filt a), (1, filt b), (5, filt f.1), (6, .iv (.bool f.2))], [], 2344⟩) (fun n hn => by
      have e0 := hK3 n hn
      simp only [filt] at e0
      generalize evalF prog n = g at e0
      simp [evalRgn, Option.map_some, evalOps, step, wants, osem, M.run_bind, M.mapL, M.run, M.ok, M.fresh, M.write, M.look, M.lift, putD, Arb.set, ev, Arb.get, keepFr, bin, intBin, strBin, mk, params, cellsM, load, obRead, fadr, fld, isl, iarr, xarr, idx, len, valid, slc, bound, store, splice, nilc, un, eqs, eq0, evalFeet, footOf, M.foot, orderOk, apartAll, apart1, clash, meets, callM, fcallM, callee, fz1, fzC, fz, flat, flat1, flat0, flatI, Option.bind_some, putAll, M.bind, filt, e0]) ?_
    refine Wp.seq ?_
    refine Wp.rgn (K := K4) (s' := ⟨[(0, filt a), (1, filt b), (5, filt f.1), (6, .iv (.bool f.2)), (7, filt f.1), (8, .iv (.bool f.2))], [], 2856⟩) (fun n hn => by
      have e0 := hK4 n hn
      simp only [filt] at e0
      generalize evalF prog n = g at e0
      simp [evalRgn, Option.map_some, evalOps, step, wants, osem, M.run_bind, M.mapL, M.run, M.ok, M.fresh, M.write, M.look, M.lift, putD, Arb.set, ev, Arb.get, keepFr, bin, intBin, strBin, mk, params, cellsM, load, obRead, fadr, fld, isl, iarr, xarr, idx, len, valid, slc, bound, store, splice, nilc, un, eqs, eq0, evalFeet, footOf, M.foot, orderOk, apartAll, apart1, clash, meets, callM, fcallM, callee, fz1, fzC, fz, flat, flat1, flat0, flatI, Option.bind_some, putAll, M.bind, filt, e0]) ?_
    refine Wp.seq ?_
    refine Wp.rgn (K := K5) (s' := ⟨[(0, filt a), (1, filt b), (5, filt f.1), (6, .iv (.bool f.2)), (7, filt f.1), (8, .iv (.bool f.2)), (9, filt g.1), (10, .iv (.int .u64 g.2.1)), (11, .iv (.bool g.2.2))], [], 3496⟩) (fun n hn => by
      have e0 := hK5 n hn
      simp only [filt] at e0
      generalize evalF prog n = g at e0
      simp [evalRgn, Option.map_some, evalOps, step, wants, osem, M.run_bind, M.mapL, M.run, M.ok, M.fresh, M.write, M.look, M.lift, putD, Arb.set, ev, Arb.get, keepFr, bin, intBin, strBin, mk, params, cellsM, load, obRead, fadr, fld, isl, iarr, xarr, idx, len, valid, slc, bound, store, splice, nilc, un, eqs, eq0, evalFeet, footOf, M.foot, orderOk, apartAll, apart1, clash, meets, callM, fcallM, callee, fz1, fzC, fz, flat, flat1, flat0, flatI, Option.bind_some, putAll, M.bind, filt, e0]) ?_
    refine Wp.seq ?_
    refine Wp.rgn (K := K6) (s' := ⟨[(5, filt f.1), (6, .iv (.bool f.2)), (7, filt f.1), (8, .iv (.bool f.2)), (9, filt g.1), (10, .iv (.int .u64 g.2.1)), (11, .iv (.bool g.2.2)), (12, filt g.1), (13, .iv (.int .u64 g.2.1)), (14, .iv (.bool g.2.2))], [], 4136⟩) (fun n hn => by
      have e0 := hK6 n hn
      simp only [filt] at e0
      generalize evalF prog n = g at e0
      simp [evalRgn, Option.map_some, evalOps, step, wants, osem, M.run_bind, M.mapL, M.run, M.ok, M.fresh, M.write, M.look, M.lift, putD, Arb.set, ev, Arb.get, keepFr, bin, intBin, strBin, mk, params, cellsM, load, obRead, fadr, fld, isl, iarr, xarr, idx, len, valid, slc, bound, store, splice, nilc, un, eqs, eq0, evalFeet, footOf, M.foot, orderOk, apartAll, apart1, clash, meets, callM, fcallM, callee, fz1, fzC, fz, flat, flat1, flat0, flatI, Option.bind_some, putAll, M.bind, filt, e0]) ?_
    refine Wp.seq ?_
    refine Wp.rgn (K := max K7 K8) (s' := ⟨[(4, .iv (.bool true))], [], 6120⟩) (fun n hn => by
      have e0 := hK7 n (by omega)
      have e1 := hK8 n (by omega)
      simp only [filt] at e0 e1
      generalize evalF prog n = gg at e0 e1
      cases h1 : f.2 <;> cases h2 : g.2.2 <;> rw [h1, h2] at hnb
      case true.true => cases hnb
      all_goals simp [evalRgn, Option.map_some, evalOps, step, wants, osem, M.run_bind, M.mapL, M.run, M.ok, M.fresh, M.write, M.look, M.lift, putD, Arb.set, ev, Arb.get, keepFr, bin, intBin, strBin, mk, params, cellsM, load, obRead, fadr, fld, isl, iarr, xarr, idx, len, valid, slc, bound, store, splice, nilc, un, eqs, eq0, evalFeet, footOf, M.foot, orderOk, apartAll, apart1, clash, meets, callM, fcallM, callee, fz1, fzC, fz, flat, flat1, flat0, flatI, Option.bind_some, putAll, M.bind, filt, e0, e1, h1, h2]) ?_
    exact Wp.ret ⟨(.iv (.bool true), []), rfl, rfl⟩
end
end Arb

/-
  VALUES; WHICH EVENTS A FILTER HAS.
-/
set_option linter.unusedSimpArgs false
namespace Arb
open Go

structure V where
  k : Int
  n : Int
  s : ByteArray
def V.enc (v : V) : List IV := [.int .i64 v.k, .int .i64 v.n, .str v.s]
def V.av (v : V) : AV := .agg [.iv (.int .i64 v.k), .iv (.int .i64 v.n), .iv (.str v.s)]
structure E where
  v0 : V
  v1 : V
  v2 : V
  v3 : V
def E.get (e : E) : Nat → V
  | 0 => e.v0
  | 1 => e.v1
  | 2 => e.v2
  | _ => e.v3
def E.enc (e : E) : List IV := e.v0.enc ++ (e.v1.enc ++ (e.v2.enc ++ e.v3.enc))
def E.cs (e : E) : List AV := e.enc.map .iv
def E.av (e : E) : AV := .agg e.cs
theorem E.cs_at (e : E) {i : Nat} (h : i < 4) : (e.cs.drop (i * 3)).take 3 = [.iv (.int .i64 (e.get i).k), .iv (.int .i64 (e.get i).n), .iv (.str (e.get i).s)] := by
  match i, h with
  | 0, _ => rfl
  | 1, _ => rfl
  | 2, _ => rfl
  | 3, _ => rfl
theorem E.cs_12 (e : E) : e.cs.take 12 = e.cs := rfl
theorem E.cs_len (e : E) : e.cs.length = 12 := rfl
theorem E.cs_nrm (e : E) (n0 : Nat) (h : Hp) : e.cs.map (nrm n0 h 8) = e.cs := nrm_ivs n0 h e.enc
theorem E.enc_all (e : E) : e.enc.all notNil = true := by simp [E.enc, V.enc, notNil]
theorem E.cs_fzC (e : E) (w : Bool) : M.mapL (fzC w) e.cs = .ret e.cs := fzC_plain w e.enc e.enc_all
theorem E.cs_nilc (e : E) (s : Nat) : nilc s e.cs = .ret e.cs := nilc_plain e.enc s (by simp [E.enc, V.enc, notNil])

def rightV (v : V) : Bool :=
  if v.k == 0 then v.n == 0 && v.s == ⟨#[]⟩ else if v.k == 1 then v.s == ⟨#[]⟩ else if v.k == 2 then v.n == 0 && decide (v.s.size ≤ 8) else false
def rightTo (e : E) : Nat → Bool
  | 0 => true
  | i + 1 => rightTo e i && rightV (e.get i)
def rightE (e : E) : Bool := rightTo e 4
def hasI (l : List (Int × Int)) (n : Int) : Bool := l.any fun p => decide (p.1 ≤ n) && decide (n ≤ p.2)
def hasV (x : S) (v : V) : Bool := if !rightV v then false else if v.k == 0 then x.a else if v.k == 1 then hasI x.i v.n else hasT x.s v.s != x.c
def hasTo (b : B) (e : E) : Nat → Bool
  | 0 => true
  | i + 1 => hasTo b e i && hasV (b.get i) (e.get i)
def hasB (b : B) (e : E) : Bool := if !rightE e then false else hasTo b e 4
def hasF (f : List B) (e : E) : Bool := f.any fun b => hasB b e

theorem take_succ_any {α : Type} {l : List α} {i : Nat} {x : α} {f : α → Bool} (hx : l[i]? = some x) : (l.take (i + 1)).any f = ((l.take i).any f || f x) := by
  rw [List.take_add_one, hx]; simp
theorem any_true {α : Type} {l : List α} {i : Nat} {x : α} {f : α → Bool} (hx : l[i]? = some x) (h : f x = true) : l.any f = true := by
  rw [List.any_eq_true]
  exact ⟨x, List.mem_of_getElem? hx, h⟩

section
variable {prog : Nat → Option IFn}

set_option maxHeartbeats 1000000 in
theorem p_rightV (h : prog 43 = some F43) (v : V) : Ans prog 43 [v.av] (.iv (.bool (rightV v))) := by
  refine Ans.of h rfl rfl (Wp.seq ?_)
  refine Wp.rgn (K := 0) (fun n _ => by simp [evalRgn, Option.map_some, evalOps, step, wants, osem, M.run_bind, M.mapL, M.run, M.ok, M.fresh, M.write, M.look, M.lift, putD, Arb.set, ev, Arb.get, keepFr, bin, intBin, strBin, mk, params, cellsM, load, obRead, fadr, fld, isl, iarr, xarr, idx, len, valid, slc, bound, store, splice, nilc, un, eqs, eq0, evalFeet, footOf, M.foot, orderOk, apartAll, apart1, clash, meets, callM, fcallM, callee, fz1, fzC, fz, flat, flat1, flat0, flatI, Option.bind_some, putAll, M.bind, V.av]; rfl) ?_
  refine Wp.seq (Wp.seq ?_)
  refine Wp.rgn (K := 0) (fun n _ => by simp [evalRgn, Option.map_some, evalOps, step, wants, osem, M.run_bind, M.mapL, M.run, M.ok, M.fresh, M.write, M.look, M.lift, putD, Arb.set, ev, Arb.get, keepFr, bin, intBin, strBin, mk, params, cellsM, load, obRead, fadr, fld, isl, iarr, xarr, idx, len, valid, slc, bound, store, splice, nilc, un, eqs, eq0, evalFeet, footOf, M.foot, orderOk, apartAll, apart1, clash, meets, callM, fcallM, callee, fz1, fzC, fz, flat, flat1, flat0, flatI, Option.bind_some, putAll, M.bind]; rfl) ?_
  refine Wp.block (Wp.seq ?_)
  refine Wp.rgn (K := 0) (fun n _ => by simp [evalRgn, Option.map_some, evalOps, step, wants, osem, M.run_bind, M.mapL, M.run, M.ok, M.fresh, M.write, M.look, M.lift, putD, Arb.set, ev, Arb.get, keepFr, bin, intBin, strBin, mk, params, cellsM, load, obRead, fadr, fld, isl, iarr, xarr, idx, len, valid, slc, bound, store, splice, nilc, un, eqs, eq0, evalFeet, footOf, M.foot, orderOk, apartAll, apart1, clash, meets, callM, fcallM, callee, fz1, fzC, fz, flat, flat1, flat0, flatI, Option.bind_some, putAll, M.bind]; rfl) ?_
  unfold rightV
  refine Wp.cond rfl ?_
  cases h0 : v.k == 0 with
  | true =>
    refine Wp.seq ?_
    refine Wp.rgn (K := 0) (s' := ⟨[(2, .iv (.bool (v.n == 0 && v.s == ⟨#[]⟩)))], [(1000, .cells [.iv (.int .i64 v.k), .iv (.int .i64 v.n), .iv (.str v.s)])], _⟩) (fun n _ => by
      cases h1 : v.n == 0 <;> simp [evalRgn, Option.map_some, evalOps, step, wants, osem, M.run_bind, M.mapL, M.run, M.ok, M.fresh, M.write, M.look, M.lift, putD, Arb.set, ev, Arb.get, keepFr, bin, intBin, strBin, mk, params, cellsM, load, obRead, fadr, fld, isl, iarr, xarr, idx, len, valid, slc, bound, store, splice, nilc, un, eqs, eq0, evalFeet, footOf, M.foot, orderOk, apartAll, apart1, clash, meets, callM, fcallM, callee, fz1, fzC, fz, flat, flat1, flat0, flatI, Option.bind_some, putAll, M.bind, h1] <;> rfl) ?_
    exact Wp.ret rfl
  | false =>
    refine Wp.seq ?_
    refine Wp.rgn (K := 0) (fun n _ => by simp [evalRgn, Option.map_some, evalOps, step, wants, osem, M.run_bind, M.mapL, M.run, M.ok, M.fresh, M.write, M.look, M.lift, putD, Arb.set, ev, Arb.get, keepFr, bin, intBin, strBin, mk, params, cellsM, load, obRead, fadr, fld, isl, iarr, xarr, idx, len, valid, slc, bound, store, splice, nilc, un, eqs, eq0, evalFeet, footOf, M.foot, orderOk, apartAll, apart1, clash, meets, callM, fcallM, callee, fz1, fzC, fz, flat, flat1, flat0, flatI, Option.bind_some, putAll, M.bind]; rfl) ?_
    refine Wp.cond rfl ?_
    cases h1 : v.k == 1 with
    | true =>
      refine Wp.seq ?_
      refine Wp.rgn (K := 0) (fun n _ => by simp [evalRgn, Option.map_some, evalOps, step, wants, osem, M.run_bind, M.mapL, M.run, M.ok, M.fresh, M.write, M.look, M.lift, putD, Arb.set, ev, Arb.get, keepFr, bin, intBin, strBin, mk, params, cellsM, load, obRead, fadr, fld, isl, iarr, xarr, idx, len, valid, slc, bound, store, splice, nilc, un, eqs, eq0, evalFeet, footOf, M.foot, orderOk, apartAll, apart1, clash, meets, callM, fcallM, callee, fz1, fzC, fz, flat, flat1, flat0, flatI, Option.bind_some, putAll, M.bind]; rfl) ?_
      exact Wp.ret rfl
    | false =>
      refine Wp.seq ?_
      refine Wp.rgn (K := 0) (fun n _ => by simp [evalRgn, Option.map_some, evalOps, step, wants, osem, M.run_bind, M.mapL, M.run, M.ok, M.fresh, M.write, M.look, M.lift, putD, Arb.set, ev, Arb.get, keepFr, bin, intBin, strBin, mk, params, cellsM, load, obRead, fadr, fld, isl, iarr, xarr, idx, len, valid, slc, bound, store, splice, nilc, un, eqs, eq0, evalFeet, footOf, M.foot, orderOk, apartAll, apart1, clash, meets, callM, fcallM, callee, fz1, fzC, fz, flat, flat1, flat0, flatI, Option.bind_some, putAll, M.bind]; rfl) ?_
      refine Wp.cond rfl ?_
      cases h2 : v.k == 2 with
      | true =>
        refine Wp.seq ?_
        refine Wp.rgn (K := 0) (s' := ⟨[(2, .iv (.bool (v.n == 0 && decide (v.s.size ≤ 8))))], [(1000, .cells [.iv (.int .i64 v.k), .iv (.int .i64 v.n), .iv (.str v.s)])], _⟩) (fun n _ => by
          have e : decide ((v.s.size : Int) ≤ 8) = decide (v.s.size ≤ 8) := decide_eq_decide.2 (by omega)
          cases h1 : v.n == 0 <;> simp [evalRgn, Option.map_some, evalOps, step, wants, osem, M.run_bind, M.mapL, M.run, M.ok, M.fresh, M.write, M.look, M.lift, putD, Arb.set, ev, Arb.get, keepFr, bin, intBin, strBin, mk, params, cellsM, load, obRead, fadr, fld, isl, iarr, xarr, idx, len, valid, slc, bound, store, splice, nilc, un, eqs, eq0, evalFeet, footOf, M.foot, orderOk, apartAll, apart1, clash, meets, callM, fcallM, callee, fz1, fzC, fz, flat, flat1, flat0, flatI, Option.bind_some, putAll, M.bind, h1, e] <;> rfl) ?_
        exact Wp.ret rfl
      | false =>
        refine Wp.skip ?_
        simp only [Ex.then, Ex.inBlock]
        refine Wp.seq ?_
        refine Wp.rgn (K := 0) (fun n _ => by simp [evalRgn, Option.map_some, evalOps, step, wants, osem, M.run_bind, M.mapL, M.run, M.ok, M.fresh, M.write, M.look, M.lift, putD, Arb.set, ev, Arb.get, keepFr, bin, intBin, strBin, mk, params, cellsM, load, obRead, fadr, fld, isl, iarr, xarr, idx, len, valid, slc, bound, store, splice, nilc, un, eqs, eq0, evalFeet, footOf, M.foot, orderOk, apartAll, apart1, clash, meets, callM, fcallM, callee, fz1, fzC, fz, flat, flat1, flat0, flatI, Option.bind_some, putAll, M.bind]; rfl) ?_
        exact Wp.ret rfl

theorem p_hasI (h : prog 48 = some F48) (l : List (Int × Int)) (m : Int) (hl : l.length ≤ maxLen) : Ans prog 48 [.iv (.sl 2 (l.map rng)), .iv (.int .i64 m)] (.iv (.bool (hasI l m))) := by
  refine Ans.of h rfl rfl (Wp.seq ?_)
  refine Wp.rgn (K := 0) (fun n _ => by simp [evalRgn, Option.map_some, evalOps, step, wants, osem, M.run_bind, M.mapL, M.run, M.ok, M.fresh, M.write, M.look, M.lift, putD, Arb.set, ev, Arb.get, keepFr, bin, intBin, strBin, mk, params, cellsM, load, obRead, fadr, fld, isl, iarr, xarr, idx, len, valid, slc, bound, store, splice, nilc, un, eqs, eq0, evalFeet, footOf, M.foot, orderOk, apartAll, apart1, clash, meets, callM, fcallM, callee, fz1, fzC, fz, flat, flat1, flat0, flatI, Option.bind_some, putAll, M.bind]; rfl) ?_
  refine Wp.seq (Wp.seq ?_)
  refine Wp.rgn (K := 0) (fun n _ => by simp [evalRgn, Option.map_some, evalOps, step, wants, osem, M.run_bind, M.mapL, M.run, M.ok, M.fresh, M.write, M.look, M.lift, putD, Arb.set, ev, Arb.get, keepFr, bin, intBin, strBin, mk, params, cellsM, load, obRead, fadr, fld, isl, iarr, xarr, idx, len, valid, slc, bound, store, splice, nilc, un, eqs, eq0, evalFeet, footOf, M.foot, orderOk, apartAll, apart1, clash, meets, callM, fcallM, callee, fz1, fzC, fz, flat, flat1, flat0, flatI, Option.bind_some, putAll, M.bind]; rfl) ?_
  refine Wp.block ?_
  refine Wp.range l.length (fun i => ⟨[(0, .iv (.sl 2 (l.map rng))), (1, .iv (.int .i64 m)), (5, .iv (.int .i64 i))], [], 1128⟩) (fun i => hasI (l.take i) m = false) (by simp [keepFr, get]) (by simp [hasI]) ?_ ?_
  · intro i hi hg
    obtain ⟨p, hp⟩ : ∃ x, l[i]? = some x := ⟨_, List.getElem?_eq_getElem hi⟩
    refine Wp.seq (Wp.seq ?_)
    refine Wp.rgn (K := 0) (fun n _ => by simp [evalRgn, Option.map_some, evalOps, step, wants, osem, M.run_bind, M.mapL, M.run, M.ok, M.fresh, M.write, M.look, M.lift, putD, Arb.set, ev, Arb.get, keepFr, bin, intBin, strBin, mk, params, cellsM, load, obRead, fadr, fld, isl, iarr, xarr, idx, len, valid, slc, bound, store, splice, nilc, un, eqs, eq0, evalFeet, footOf, M.foot, orderOk, apartAll, apart1, clash, meets, callM, fcallM, callee, fz1, fzC, fz, flat, flat1, flat0, flatI, Option.bind_some, putAll, M.bind, hi]; rfl) ?_
    refine Wp.cond rfl (Wp.skip (Wp.seq (Wp.block (Wp.seq ?_))))
    refine Wp.rgn (K := 0) (s' := ⟨[(0, .iv (.sl 2 (l.map rng))), (1, .iv (.int .i64 m)), (5, .iv (.int .i64 i)), (27, .iv (.bool (decide (p.1 ≤ m) && decide (m ≤ p.2))))], [], 2408⟩) (fun n _ => by
      cases h1 : decide (p.1 ≤ m) <;> simp [evalRgn, Option.map_some, evalOps, step, wants, osem, M.run_bind, M.mapL, M.run, M.ok, M.fresh, M.write, M.look, M.lift, putD, Arb.set, ev, Arb.get, keepFr, bin, intBin, strBin, mk, params, cellsM, load, obRead, fadr, fld, isl, iarr, xarr, idx, len, valid, slc, bound, store, splice, nilc, un, eqs, eq0, evalFeet, footOf, M.foot, orderOk, apartAll, apart1, clash, meets, callM, fcallM, callee, fz1, fzC, fz, flat, flat1, flat0, flatI, Option.bind_some, putAll, M.bind, hp, rng, h1]) ?_
    refine Wp.cond rfl ?_
    cases hb : decide (p.1 ≤ m) && decide (m ≤ p.2) with
    | true =>
      refine Wp.seq ?_
      refine Wp.rgn (K := 0) (fun n _ => by simp [evalRgn, Option.map_some, evalOps, step, wants, osem, M.run_bind, M.mapL, M.run, M.ok, M.fresh, M.write, M.look, M.lift, putD, Arb.set, ev, Arb.get, keepFr, bin, intBin, strBin, mk, params, cellsM, load, obRead, fadr, fld, isl, iarr, xarr, idx, len, valid, slc, bound, store, splice, nilc, un, eqs, eq0, evalFeet, footOf, M.foot, orderOk, apartAll, apart1, clash, meets, callM, fcallM, callee, fz1, fzC, fz, flat, flat1, flat0, flatI, Option.bind_some, putAll, M.bind]; rfl) ?_
      refine Wp.ret ?_
      rw [show hasI l m = true from any_true hp hb]; rfl
    | false =>
      refine Wp.skip ?_
      refine Wp.rgn (K := 0) (fun n _ => by simp [evalRgn, Option.map_some, evalOps, step, wants, osem, M.run_bind, M.mapL, M.run, M.ok, M.fresh, M.write, M.look, M.lift, putD, Arb.set, ev, Arb.get, keepFr, bin, intBin, strBin, mk, params, cellsM, load, obRead, fadr, fld, isl, iarr, xarr, idx, len, valid, slc, bound, store, splice, nilc, un, eqs, eq0, evalFeet, footOf, M.foot, orderOk, apartAll, apart1, clash, meets, callM, fcallM, callee, fz1, fzC, fz, flat, flat1, flat0, flatI, Option.bind_some, putAll, M.bind]; rfl) ?_
      refine ⟨by simp [again, keepFr, get, nrm, wrap_succ hi hl], ?_⟩
      unfold hasI at hg ⊢
      rw [take_succ_any hp, hg, hb]; rfl
  · intro hg
    rw [List.take_length] at hg
    refine Wp.seq (Wp.seq ?_)
    refine Wp.rgn (K := 0) (fun n _ => by simp [evalRgn, Option.map_some, evalOps, step, wants, osem, M.run_bind, M.mapL, M.run, M.ok, M.fresh, M.write, M.look, M.lift, putD, Arb.set, ev, Arb.get, keepFr, bin, intBin, strBin, mk, params, cellsM, load, obRead, fadr, fld, isl, iarr, xarr, idx, len, valid, slc, bound, store, splice, nilc, un, eqs, eq0, evalFeet, footOf, M.foot, orderOk, apartAll, apart1, clash, meets, callM, fcallM, callee, fz1, fzC, fz, flat, flat1, flat0, flatI, Option.bind_some, putAll, M.bind]; rfl) ?_
    refine Wp.cond rfl (Wp.exit ?_)
    simp only [Ex.then, Ex.inBlock, if_true]
    refine Wp.seq ?_
    refine Wp.rgn (K := 0) (fun n _ => by simp [evalRgn, Option.map_some, evalOps, step, wants, osem, M.run_bind, M.mapL, M.run, M.ok, M.fresh, M.write, M.look, M.lift, putD, Arb.set, ev, Arb.get, keepFr, bin, intBin, strBin, mk, params, cellsM, load, obRead, fadr, fld, isl, iarr, xarr, idx, len, valid, slc, bound, store, splice, nilc, un, eqs, eq0, evalFeet, footOf, M.foot, orderOk, apartAll, apart1, clash, meets, callM, fcallM, callee, fz1, fzC, fz, flat, flat1, flat0, flatI, Option.bind_some, putAll, M.bind]; rfl) ?_
    refine Wp.ret ?_
    rw [hg]; rfl

theorem hasT_any (l : List ByteArray) (t : ByteArray) : hasT l t = l.any (fun x => x == t) := by
  rw [Bool.eq_iff_iff, hasT_iff, List.any_eq_true]
  constructor
  · exact fun h => ⟨t, h, by rw [ba_beq]; simp⟩
  · rintro ⟨x, hx, he⟩
    rw [ba_beq, decide_eq_true_eq] at he
    exact he ▸ hx
theorem p_hasT (h : prog 49 = some F49) (l : List ByteArray) (m : ByteArray) (hl : l.length ≤ maxLen) : Ans prog 49 [.iv (.sl 1 (l.map st1)), .iv (.str m)] (.iv (.bool (hasT l m))) := by
  rw [hasT_any]
  refine Ans.of h rfl rfl (Wp.seq ?_)
  refine Wp.rgn (K := 0) (fun n _ => by simp [evalRgn, Option.map_some, evalOps, step, wants, osem, M.run_bind, M.mapL, M.run, M.ok, M.fresh, M.write, M.look, M.lift, putD, Arb.set, ev, Arb.get, keepFr, bin, intBin, strBin, mk, params, cellsM, load, obRead, fadr, fld, isl, iarr, xarr, idx, len, valid, slc, bound, store, splice, nilc, un, eqs, eq0, evalFeet, footOf, M.foot, orderOk, apartAll, apart1, clash, meets, callM, fcallM, callee, fz1, fzC, fz, flat, flat1, flat0, flatI, Option.bind_some, putAll, M.bind]; rfl) ?_
  refine Wp.seq (Wp.seq ?_)
  refine Wp.rgn (K := 0) (fun n _ => by simp [evalRgn, Option.map_some, evalOps, step, wants, osem, M.run_bind, M.mapL, M.run, M.ok, M.fresh, M.write, M.look, M.lift, putD, Arb.set, ev, Arb.get, keepFr, bin, intBin, strBin, mk, params, cellsM, load, obRead, fadr, fld, isl, iarr, xarr, idx, len, valid, slc, bound, store, splice, nilc, un, eqs, eq0, evalFeet, footOf, M.foot, orderOk, apartAll, apart1, clash, meets, callM, fcallM, callee, fz1, fzC, fz, flat, flat1, flat0, flatI, Option.bind_some, putAll, M.bind]; rfl) ?_
  refine Wp.block ?_
  refine Wp.range l.length (fun i => ⟨[(0, .iv (.sl 1 (l.map st1))), (1, .iv (.str m)), (5, .iv (.int .i64 i))], [], 1128⟩) (fun i => (l.take i).any (fun x => x == m) = false) (by simp [keepFr, get]) (by simp) ?_ ?_
  · intro i hi hg
    obtain ⟨p, hp⟩ : ∃ x, l[i]? = some x := ⟨_, List.getElem?_eq_getElem hi⟩
    refine Wp.seq (Wp.seq ?_)
    refine Wp.rgn (K := 0) (fun n _ => by simp [evalRgn, Option.map_some, evalOps, step, wants, osem, M.run_bind, M.mapL, M.run, M.ok, M.fresh, M.write, M.look, M.lift, putD, Arb.set, ev, Arb.get, keepFr, bin, intBin, strBin, mk, params, cellsM, load, obRead, fadr, fld, isl, iarr, xarr, idx, len, valid, slc, bound, store, splice, nilc, un, eqs, eq0, evalFeet, footOf, M.foot, orderOk, apartAll, apart1, clash, meets, callM, fcallM, callee, fz1, fzC, fz, flat, flat1, flat0, flatI, Option.bind_some, putAll, M.bind, hi]; rfl) ?_
    refine Wp.cond rfl (Wp.skip (Wp.seq (Wp.block (Wp.seq ?_))))
    refine Wp.rgn (K := 0) (fun n _ => by simp [evalRgn, Option.map_some, evalOps, step, wants, osem, M.run_bind, M.mapL, M.run, M.ok, M.fresh, M.write, M.look, M.lift, putD, Arb.set, ev, Arb.get, keepFr, bin, intBin, strBin, mk, params, cellsM, load, obRead, fadr, fld, isl, iarr, xarr, idx, len, valid, slc, bound, store, splice, nilc, un, eqs, eq0, evalFeet, footOf, M.foot, orderOk, apartAll, apart1, clash, meets, callM, fcallM, callee, fz1, fzC, fz, flat, flat1, flat0, flatI, Option.bind_some, putAll, M.bind, hp, st1]; rfl) ?_
    refine Wp.cond rfl ?_
    cases hb : p == m with
    | true =>
      refine Wp.seq ?_
      refine Wp.rgn (K := 0) (fun n _ => by simp [evalRgn, Option.map_some, evalOps, step, wants, osem, M.run_bind, M.mapL, M.run, M.ok, M.fresh, M.write, M.look, M.lift, putD, Arb.set, ev, Arb.get, keepFr, bin, intBin, strBin, mk, params, cellsM, load, obRead, fadr, fld, isl, iarr, xarr, idx, len, valid, slc, bound, store, splice, nilc, un, eqs, eq0, evalFeet, footOf, M.foot, orderOk, apartAll, apart1, clash, meets, callM, fcallM, callee, fz1, fzC, fz, flat, flat1, flat0, flatI, Option.bind_some, putAll, M.bind]; rfl) ?_
      refine Wp.ret ?_
      rw [show l.any (fun x => x == m) = true from any_true hp hb]; rfl
    | false =>
      refine Wp.skip ?_
      refine Wp.rgn (K := 0) (fun n _ => by simp [evalRgn, Option.map_some, evalOps, step, wants, osem, M.run_bind, M.mapL, M.run, M.ok, M.fresh, M.write, M.look, M.lift, putD, Arb.set, ev, Arb.get, keepFr, bin, intBin, strBin, mk, params, cellsM, load, obRead, fadr, fld, isl, iarr, xarr, idx, len, valid, slc, bound, store, splice, nilc, un, eqs, eq0, evalFeet, footOf, M.foot, orderOk, apartAll, apart1, clash, meets, callM, fcallM, callee, fz1, fzC, fz, flat, flat1, flat0, flatI, Option.bind_some, putAll, M.bind]; rfl) ?_
      refine ⟨by simp [again, keepFr, get, nrm, wrap_succ hi hl], ?_⟩
      rw [take_succ_any hp, hg, hb]; rfl
  · intro hg
    rw [List.take_length] at hg
    refine Wp.seq (Wp.seq ?_)
    refine Wp.rgn (K := 0) (fun n _ => by simp [evalRgn, Option.map_some, evalOps, step, wants, osem, M.run_bind, M.mapL, M.run, M.ok, M.fresh, M.write, M.look, M.lift, putD, Arb.set, ev, Arb.get, keepFr, bin, intBin, strBin, mk, params, cellsM, load, obRead, fadr, fld, isl, iarr, xarr, idx, len, valid, slc, bound, store, splice, nilc, un, eqs, eq0, evalFeet, footOf, M.foot, orderOk, apartAll, apart1, clash, meets, callM, fcallM, callee, fz1, fzC, fz, flat, flat1, flat0, flatI, Option.bind_some, putAll, M.bind]; rfl) ?_
    refine Wp.cond rfl (Wp.exit ?_)
    simp only [Ex.then, Ex.inBlock, if_true]
    refine Wp.seq ?_
    refine Wp.rgn (K := 0) (fun n _ => by simp [evalRgn, Option.map_some, evalOps, step, wants, osem, M.run_bind, M.mapL, M.run, M.ok, M.fresh, M.write, M.look, M.lift, putD, Arb.set, ev, Arb.get, keepFr, bin, intBin, strBin, mk, params, cellsM, load, obRead, fadr, fld, isl, iarr, xarr, idx, len, valid, slc, bound, store, splice, nilc, un, eqs, eq0, evalFeet, footOf, M.foot, orderOk, apartAll, apart1, clash, meets, callM, fcallM, callee, fz1, fzC, fz, flat, flat1, flat0, flatI, Option.bind_some, putAll, M.bind]; rfl) ?_
    refine Wp.ret ?_
    rw [hg]; rfl
end
end Arb

/-
  WHICH EVENTS A FILTER HAS.
-/
set_option linter.unusedSimpArgs false
namespace Arb
open Go

theorem rightTo_false {e : E} {i : Nat} (h : rightV (e.get i) = false) : ∀ n, i < n → rightTo e n = false
  | 0, hn => absurd hn (Nat.not_lt_zero _)
  | n + 1, hn => by
    rw [rightTo]
    by_cases hi : i = n
    · subst hi; rw [h, Bool.and_false]
    · rw [rightTo_false h n (by omega), Bool.false_and]
theorem hasTo_false {b : B} {e : E} {i : Nat} (h : hasV (b.get i) (e.get i) = false) : ∀ n, i < n → hasTo b e n = false
  | 0, hn => absurd hn (Nat.not_lt_zero _)
  | n + 1, hn => by
    rw [hasTo]
    by_cases hi : i = n
    · subst hi; rw [h, Bool.and_false]
    · rw [hasTo_false h n (by omega), Bool.false_and]

section
variable {prog : Nat → Option IFn}

set_option maxHeartbeats 1000000 in
theorem p_rightE (h43 : prog 43 = some F43) (h : prog 34 = some F34) (e : E) : Ans prog 34 [e.av] (.iv (.bool (rightE e))) := by
  refine Ans.of h rfl rfl (Wp.seq ?_)
  refine Wp.rgn (K := 0) (s' := ⟨[(1, .ref 1000 0 0 0)], [(1000, .cells e.cs)], 1128⟩) (fun n _ => by simp [evalRgn, Option.map_some, evalOps, step, wants, osem, M.run_bind, M.mapL, M.run, M.ok, M.fresh, M.write, M.look, M.lift, putD, Arb.set, ev, Arb.get, keepFr, bin, intBin, strBin, mk, params, cellsM, load, obRead, fadr, fld, isl, iarr, xarr, idx, len, valid, slc, bound, store, splice, nilc, un, eqs, eq0, evalFeet, footOf, M.foot, orderOk, apartAll, apart1, clash, meets, callM, fcallM, callee, fz1, flat, flat1, flat0, flatI, Option.bind_some, putAll, M.bind, E.av, E.cs_nilc]) ?_
  refine Wp.seq (Wp.seq ?_)
  refine Wp.rgn (K := 0) (fun n _ => by simp [evalRgn, Option.map_some, evalOps, step, wants, osem, M.run_bind, M.mapL, M.run, M.ok, M.fresh, M.write, M.look, M.lift, putD, Arb.set, ev, Arb.get, keepFr, bin, intBin, strBin, mk, params, cellsM, load, obRead, fadr, fld, isl, iarr, xarr, idx, len, valid, slc, bound, store, splice, nilc, un, eqs, eq0, evalFeet, footOf, M.foot, orderOk, apartAll, apart1, clash, meets, callM, fcallM, callee, fz1, fzC, fz, flat, flat1, flat0, flatI, Option.bind_some, putAll, M.bind]; rfl) ?_
  refine Wp.block ?_
  refine Wp.range 4 (fun i => ⟨[(1, .ref 1000 0 0 0), (3, .iv (.int .i64 i))], [(1000, .cells e.cs)], 1192⟩) (fun i => rightTo e i = true) rfl rfl ?_ ?_
  · intro i hi hg
    have hi' : (i : Int) < 4 := by omega
    have hm : min 3 (12 - i * 3) = 3 := by omega
    refine Wp.seq (Wp.seq ?_)
    refine Wp.rgn (K := 0) (fun n _ => by simp [evalRgn, Option.map_some, evalOps, step, wants, osem, M.run_bind, M.mapL, M.run, M.ok, M.fresh, M.write, M.look, M.lift, putD, Arb.set, ev, Arb.get, keepFr, bin, intBin, strBin, mk, params, cellsM, load, obRead, fadr, fld, isl, iarr, xarr, idx, len, valid, slc, bound, store, splice, nilc, un, eqs, eq0, evalFeet, footOf, M.foot, orderOk, apartAll, apart1, clash, meets, callM, fcallM, callee, fz1, fzC, fz, flat, flat1, flat0, flatI, Option.bind_some, putAll, M.bind, hi']; rfl) ?_
    refine Wp.cond rfl (Wp.skip (Wp.seq (Wp.block (Wp.seq ?_))))
    obtain ⟨K, hK⟩ := p_rightV h43 (e.get i)
    refine Wp.rgn (K := K) (s' := ⟨[(1, .ref 1000 0 0 0), (3, .iv (.int .i64 i)), (12, .iv (.bool (!rightV (e.get i))))], [(1000, .cells e.cs)], 1640⟩) (fun n hn => by
      have e1 := hK n hn
      simp only [V.av] at e1
      generalize evalF prog n = g at e1
      simp [evalRgn, Option.map_some, evalOps, step, wants, osem, M.run_bind, M.mapL, M.run, M.ok, M.fresh, M.write, M.look, M.lift, putD, Arb.set, ev, Arb.get, keepFr, bin, intBin, strBin, mk, params, cellsM, load, obRead, fadr, fld, isl, iarr, xarr, idx, len, valid, slc, bound, store, splice, nilc, un, eqs, eq0, evalFeet, footOf, M.foot, orderOk, apartAll, apart1, clash, meets, callM, fcallM, callee, fz1, fzC, fz, flat, flat1, flat0, flatI, Option.bind_some, putAll, M.bind, hi', E.cs_at e hi, E.cs_len, hm, e1]) ?_
    refine Wp.cond rfl ?_
    cases hr : rightV (e.get i) with
    | false =>
      refine Wp.seq ?_
      refine Wp.rgn (K := 0) (fun n _ => by simp [evalRgn, Option.map_some, evalOps, step, wants, osem, M.run_bind, M.mapL, M.run, M.ok, M.fresh, M.write, M.look, M.lift, putD, Arb.set, ev, Arb.get, keepFr, bin, intBin, strBin, mk, params, cellsM, load, obRead, fadr, fld, isl, iarr, xarr, idx, len, valid, slc, bound, store, splice, nilc, un, eqs, eq0, evalFeet, footOf, M.foot, orderOk, apartAll, apart1, clash, meets, callM, fcallM, callee, fz1, fzC, fz, flat, flat1, flat0, flatI, Option.bind_some, putAll, M.bind]; rfl) ?_
      refine Wp.ret ?_
      rw [show rightE e = false from rightTo_false hr 4 hi]; rfl
    | true =>
      refine Wp.skip ?_
      refine Wp.rgn (K := 0) (fun n _ => by simp [evalRgn, Option.map_some, evalOps, step, wants, osem, M.run_bind, M.mapL, M.run, M.ok, M.fresh, M.write, M.look, M.lift, putD, Arb.set, ev, Arb.get, keepFr, bin, intBin, strBin, mk, params, cellsM, load, obRead, fadr, fld, isl, iarr, xarr, idx, len, valid, slc, bound, store, splice, nilc, un, eqs, eq0, evalFeet, footOf, M.foot, orderOk, apartAll, apart1, clash, meets, callM, fcallM, callee, fz1, fzC, fz, flat, flat1, flat0, flatI, Option.bind_some, putAll, M.bind]; rfl) ?_
      refine ⟨by simp [again, keepFr, get, nrm_iv, nrm_ref_cells, nrmO, E.cs_nrm, wrap_lt4 hi], ?_⟩
      rw [rightTo, hg, hr]; rfl
  · intro hg
    refine Wp.seq (Wp.seq ?_)
    refine Wp.rgn (K := 0) (fun n _ => by simp [evalRgn, Option.map_some, evalOps, step, wants, osem, M.run_bind, M.mapL, M.run, M.ok, M.fresh, M.write, M.look, M.lift, putD, Arb.set, ev, Arb.get, keepFr, bin, intBin, strBin, mk, params, cellsM, load, obRead, fadr, fld, isl, iarr, xarr, idx, len, valid, slc, bound, store, splice, nilc, un, eqs, eq0, evalFeet, footOf, M.foot, orderOk, apartAll, apart1, clash, meets, callM, fcallM, callee, fz1, fzC, fz, flat, flat1, flat0, flatI, Option.bind_some, putAll, M.bind]; rfl) ?_
    refine Wp.cond rfl (Wp.exit ?_)
    simp only [Ex.then, Ex.inBlock, if_true]
    refine Wp.seq ?_
    refine Wp.rgn (K := 0) (fun n _ => by simp [evalRgn, Option.map_some, evalOps, step, wants, osem, M.run_bind, M.mapL, M.run, M.ok, M.fresh, M.write, M.look, M.lift, putD, Arb.set, ev, Arb.get, keepFr, bin, intBin, strBin, mk, params, cellsM, load, obRead, fadr, fld, isl, iarr, xarr, idx, len, valid, slc, bound, store, splice, nilc, un, eqs, eq0, evalFeet, footOf, M.foot, orderOk, apartAll, apart1, clash, meets, callM, fcallM, callee, fz1, fzC, fz, flat, flat1, flat0, flatI, Option.bind_some, putAll, M.bind]; rfl) ?_
    refine Wp.ret ?_
    rw [show rightE e = true from hg]; rfl

structure Has3 (prog : Nat → Option IFn) : Prop where
  h35 : prog 35 = some F35
  h43 : prog 43 = some F43
  h48 : prog 48 = some F48
  h49 : prog 49 = some F49

set_option maxHeartbeats 1000000 in
theorem p_hasV (H : Has3 prog) (x : S) (v : V) (hi : x.i.length ≤ maxLen) (hs : x.s.length ≤ maxLen) : Ans prog 35 [x.av, v.av] (.iv (.bool (hasV x v))) := by
  obtain ⟨K1, hK1⟩ := p_rightV H.h43 v
  refine Ans.of H.h35 rfl rfl (Wp.seq ?_)
  refine Wp.rgn (K := 0) (fun n _ => by simp [evalRgn, Option.map_some, evalOps, step, wants, osem, M.run_bind, M.mapL, M.run, M.ok, M.fresh, M.write, M.look, M.lift, putD, Arb.set, ev, Arb.get, keepFr, bin, intBin, strBin, mk, params, cellsM, load, obRead, fadr, fld, isl, iarr, xarr, idx, len, valid, slc, bound, store, splice, nilc, un, eqs, eq0, evalFeet, footOf, M.foot, orderOk, apartAll, apart1, clash, meets, callM, fcallM, callee, fz1, fzC, fz, flat, flat1, flat0, flatI, Option.bind_some, putAll, M.bind, S.av, V.av]; rfl) ?_
  refine Wp.seq (Wp.seq ?_)
  refine Wp.rgn (K := K1) (s' := ⟨[(2, .ref 1000 0 0 0), (3, .ref 1064 0 0 0), (7, .iv (.bool (!rightV v)))], [(1000, .cells [.iv (.bool x.a), .iv (.sl 2 (x.i.map rng)), .iv (.bool x.c), .iv (.sl 1 (x.s.map st1))]), (1064, .cells [.iv (.int .i64 v.k), .iv (.int .i64 v.n), .iv (.str v.s)])], 1384⟩) (fun n hn => by
    have e1 := hK1 n hn
    simp only [V.av] at e1
    generalize evalF prog n = g at e1
    simp [evalRgn, Option.map_some, evalOps, step, wants, osem, M.run_bind, M.mapL, M.run, M.ok, M.fresh, M.write, M.look, M.lift, putD, Arb.set, ev, Arb.get, keepFr, bin, intBin, strBin, mk, params, cellsM, load, obRead, fadr, fld, isl, iarr, xarr, idx, len, valid, slc, bound, store, splice, nilc, un, eqs, eq0, evalFeet, footOf, M.foot, orderOk, apartAll, apart1, clash, meets, callM, fcallM, callee, fz1, fzC, fz, flat, flat1, flat0, flatI, Option.bind_some, putAll, M.bind, e1]) ?_
  unfold hasV
  refine Wp.cond rfl ?_
  cases hr : rightV v with
  | false =>
    refine Wp.seq ?_
    refine Wp.rgn (K := 0) (fun n _ => by simp [evalRgn, Option.map_some, evalOps, step, wants, osem, M.run_bind, M.mapL, M.run, M.ok, M.fresh, M.write, M.look, M.lift, putD, Arb.set, ev, Arb.get, keepFr, bin, intBin, strBin, mk, params, cellsM, load, obRead, fadr, fld, isl, iarr, xarr, idx, len, valid, slc, bound, store, splice, nilc, un, eqs, eq0, evalFeet, footOf, M.foot, orderOk, apartAll, apart1, clash, meets, callM, fcallM, callee, fz1, fzC, fz, flat, flat1, flat0, flatI, Option.bind_some, putAll, M.bind]; rfl) ?_
    exact Wp.ret rfl
  | true =>
    refine Wp.skip (Wp.seq (Wp.seq ?_))
    refine Wp.rgn (K := 0) (fun n _ => by simp [evalRgn, Option.map_some, evalOps, step, wants, osem, M.run_bind, M.mapL, M.run, M.ok, M.fresh, M.write, M.look, M.lift, putD, Arb.set, ev, Arb.get, keepFr, bin, intBin, strBin, mk, params, cellsM, load, obRead, fadr, fld, isl, iarr, xarr, idx, len, valid, slc, bound, store, splice, nilc, un, eqs, eq0, evalFeet, footOf, M.foot, orderOk, apartAll, apart1, clash, meets, callM, fcallM, callee, fz1, fzC, fz, flat, flat1, flat0, flatI, Option.bind_some, putAll, M.bind]; rfl) ?_
    refine Wp.block (Wp.seq ?_)
    refine Wp.rgn (K := 0) (fun n _ => by simp [evalRgn, Option.map_some, evalOps, step, wants, osem, M.run_bind, M.mapL, M.run, M.ok, M.fresh, M.write, M.look, M.lift, putD, Arb.set, ev, Arb.get, keepFr, bin, intBin, strBin, mk, params, cellsM, load, obRead, fadr, fld, isl, iarr, xarr, idx, len, valid, slc, bound, store, splice, nilc, un, eqs, eq0, evalFeet, footOf, M.foot, orderOk, apartAll, apart1, clash, meets, callM, fcallM, callee, fz1, fzC, fz, flat, flat1, flat0, flatI, Option.bind_some, putAll, M.bind]; rfl) ?_
    refine Wp.cond rfl ?_
    cases h0 : v.k == 0 with
    | true =>
      refine Wp.seq ?_
      refine Wp.rgn (K := 0) (fun n _ => by simp [evalRgn, Option.map_some, evalOps, step, wants, osem, M.run_bind, M.mapL, M.run, M.ok, M.fresh, M.write, M.look, M.lift, putD, Arb.set, ev, Arb.get, keepFr, bin, intBin, strBin, mk, params, cellsM, load, obRead, fadr, fld, isl, iarr, xarr, idx, len, valid, slc, bound, store, splice, nilc, un, eqs, eq0, evalFeet, footOf, M.foot, orderOk, apartAll, apart1, clash, meets, callM, fcallM, callee, fz1, fzC, fz, flat, flat1, flat0, flatI, Option.bind_some, putAll, M.bind]; rfl) ?_
      exact Wp.ret rfl
    | false =>
      refine Wp.seq ?_
      refine Wp.rgn (K := 0) (fun n _ => by simp [evalRgn, Option.map_some, evalOps, step, wants, osem, M.run_bind, M.mapL, M.run, M.ok, M.fresh, M.write, M.look, M.lift, putD, Arb.set, ev, Arb.get, keepFr, bin, intBin, strBin, mk, params, cellsM, load, obRead, fadr, fld, isl, iarr, xarr, idx, len, valid, slc, bound, store, splice, nilc, un, eqs, eq0, evalFeet, footOf, M.foot, orderOk, apartAll, apart1, clash, meets, callM, fcallM, callee, fz1, fzC, fz, flat, flat1, flat0, flatI, Option.bind_some, putAll, M.bind]; rfl) ?_
      refine Wp.cond rfl ?_
      cases h1 : v.k == 1 with
      | true =>
        obtain ⟨K2, hK2⟩ := p_hasI H.h48 x.i v.n hi
        refine Wp.seq ?_
        refine Wp.rgn (K := K2) (fun n hn => by
          have e1 := hK2 n hn
          generalize evalF prog n = g at e1
          simp [evalRgn, Option.map_some, evalOps, step, wants, osem, M.run_bind, M.mapL, M.run, M.ok, M.fresh, M.write, M.look, M.lift, putD, Arb.set, ev, Arb.get, keepFr, bin, intBin, strBin, mk, params, cellsM, load, obRead, fadr, fld, isl, iarr, xarr, idx, len, valid, slc, bound, store, splice, nilc, un, eqs, eq0, evalFeet, footOf, M.foot, orderOk, apartAll, apart1, clash, meets, callM, fcallM, callee, fz1, fzC, fz, flat, flat1, flat0, flatI, Option.bind_some, putAll, M.bind, e1]
          rfl) ?_
        exact Wp.ret rfl
      | false =>
        refine Wp.skip ?_
        simp only [Ex.then, Ex.inBlock]
        obtain ⟨K3, hK3⟩ := p_hasT H.h49 x.s v.s hs
        refine Wp.seq ?_
        refine Wp.rgn (K := K3) (fun n hn => rgn_quiet' rfl (by
          have e1 := hK3 n hn
          generalize evalF prog n = g at e1
          simp [evalRgn, Option.map_some, evalOps, step, wants, osem, M.run_bind, M.mapL, M.run, M.ok, M.fresh, M.write, M.look, M.lift, putD, Arb.set, ev, Arb.get, keepFr, bin, intBin, strBin, mk, params, cellsM, load, obRead, fadr, fld, isl, iarr, xarr, idx, len, valid, slc, bound, store, splice, nilc, un, eqs, eq0, evalFeet, footOf, M.foot, orderOk, apartAll, apart1, clash, meets, callM, fcallM, callee, fz1, fzC, fz, flat, flat1, flat0, flatI, Option.bind_some, putAll, M.bind, e1]
          rfl)) ?_
        refine Wp.ret ?_
        simp [FinS, F35, resAll, resM, outA, ev, get, M.run, shut, fzA, fz1, fzC, fz, M.run_bind, M.bind]
        cases hasT x.s v.s <;> cases x.c <;> rfl

set_option maxHeartbeats 1000000 in
theorem p_hasB (H : Has3 prog) (h34 : prog 34 = some F34) (h : prog 20 = some F20) (b : B) (e : E) (hb : b.fits) : Ans prog 20 [b.av, e.av] (.iv (.bool (hasB b e))) := by
  obtain ⟨K1, hK1⟩ := p_rightE H.h43 h34 e
  refine Ans.of h rfl rfl (Wp.seq ?_)
  refine Wp.rgn (K := 0) (s' := ⟨[(2, .ref 1000 0 0 0), (3, .ref 1064 0 0 0)], [(1000, .cells b.cs), (1064, .cells e.cs)], 1192⟩) (fun n _ => by simp [evalRgn, Option.map_some, evalOps, step, wants, osem, M.run_bind, M.mapL, M.run, M.ok, M.fresh, M.write, M.look, M.lift, putD, Arb.set, ev, Arb.get, keepFr, bin, intBin, strBin, mk, params, cellsM, load, obRead, fadr, fld, isl, iarr, xarr, idx, len, valid, slc, bound, store, splice, nilc, un, eqs, eq0, evalFeet, footOf, M.foot, orderOk, apartAll, apart1, clash, meets, callM, fcallM, callee, fz1, flat, flat1, flat0, flatI, Option.bind_some, putAll, M.bind, B.av, B.cs_nilc, E.av, E.cs_nilc]) ?_
  refine Wp.seq (Wp.seq ?_)
  refine Wp.rgn (K := K1) (s' := ⟨[(2, .ref 1000 0 0 0), (3, .ref 1064 0 0 0), (8, .iv (.bool (!rightE e)))], [(1000, .cells b.cs), (1064, .cells e.cs)], 1384⟩) (fun n hn => by
    have e1 := hK1 n hn
    simp only [E.av] at e1
    generalize evalF prog n = g at e1
    simp [evalRgn, Option.map_some, evalOps, step, wants, osem, M.run_bind, M.mapL, M.run, M.ok, M.fresh, M.write, M.look, M.lift, putD, Arb.set, ev, Arb.get, keepFr, bin, intBin, strBin, mk, params, cellsM, load, obRead, fadr, fld, isl, iarr, xarr, idx, len, valid, slc, bound, store, splice, nilc, un, eqs, eq0, evalFeet, footOf, M.foot, orderOk, apartAll, apart1, clash, meets, callM, fcallM, callee, fz1, flat, flat1, flat0, flatI, Option.bind_some, putAll, M.bind, E.cs_12, E.cs_len, E.cs_fzC, e1]) ?_
  unfold hasB
  refine Wp.cond rfl ?_
  cases hr : rightE e with
  | false =>
    refine Wp.seq ?_
    refine Wp.rgn (K := 0) (fun n _ => by simp [evalRgn, Option.map_some, evalOps, step, wants, osem, M.run_bind, M.mapL, M.run, M.ok, M.fresh, M.write, M.look, M.lift, putD, Arb.set, ev, Arb.get, keepFr, bin, intBin, strBin, mk, params, cellsM, load, obRead, fadr, fld, isl, iarr, xarr, idx, len, valid, slc, bound, store, splice, nilc, un, eqs, eq0, evalFeet, footOf, M.foot, orderOk, apartAll, apart1, clash, meets, callM, fcallM, callee, fz1, fzC, fz, flat, flat1, flat0, flatI, Option.bind_some, putAll, M.bind]; rfl) ?_
    exact Wp.ret rfl
  | true =>
    refine Wp.skip (Wp.seq (Wp.seq ?_))
    refine Wp.rgn (K := 0) (fun n _ => by simp [evalRgn, Option.map_some, evalOps, step, wants, osem, M.run_bind, M.mapL, M.run, M.ok, M.fresh, M.write, M.look, M.lift, putD, Arb.set, ev, Arb.get, keepFr, bin, intBin, strBin, mk, params, cellsM, load, obRead, fadr, fld, isl, iarr, xarr, idx, len, valid, slc, bound, store, splice, nilc, un, eqs, eq0, evalFeet, footOf, M.foot, orderOk, apartAll, apart1, clash, meets, callM, fcallM, callee, fz1, fzC, fz, flat, flat1, flat0, flatI, Option.bind_some, putAll, M.bind]; rfl) ?_
    refine Wp.block ?_
    refine Wp.range 4 (fun i => ⟨[(2, .ref 1000 0 0 0), (3, .ref 1064 0 0 0), (5, .iv (.int .i64 i))], [(1000, .cells b.cs), (1064, .cells e.cs)], 1448⟩) (fun i => hasTo b e i = true) rfl rfl ?_ ?_
    · intro i hi hg
      have hi' : (i : Int) < 4 := by omega
      have hm : min 3 (12 - i * 3) = 3 := by omega
      have hm2 : min 4 (16 - i * 4) = 4 := by omega
      refine Wp.seq (Wp.seq ?_)
      refine Wp.rgn (K := 0) (fun n _ => by simp [evalRgn, Option.map_some, evalOps, step, wants, osem, M.run_bind, M.mapL, M.run, M.ok, M.fresh, M.write, M.look, M.lift, putD, Arb.set, ev, Arb.get, keepFr, bin, intBin, strBin, mk, params, cellsM, load, obRead, fadr, fld, isl, iarr, xarr, idx, len, valid, slc, bound, store, splice, nilc, un, eqs, eq0, evalFeet, footOf, M.foot, orderOk, apartAll, apart1, clash, meets, callM, fcallM, callee, fz1, fzC, fz, flat, flat1, flat0, flatI, Option.bind_some, putAll, M.bind, hi']; rfl) ?_
      refine Wp.cond rfl (Wp.skip (Wp.seq (Wp.block (Wp.seq ?_))))
      obtain ⟨K, hK⟩ := p_hasV H (b.get i) (e.get i) (hb i hi).1 (hb i hi).2
      refine Wp.rgn (K := K) (s' := ⟨[(2, .ref 1000 0 0 0), (3, .ref 1064 0 0 0), (5, .iv (.int .i64 i)), (20, .iv (.bool (!hasV (b.get i) (e.get i))))], [(1000, .cells b.cs), (1064, .cells e.cs)], 2088⟩) (fun n hn => rgn_quiet' rfl (by
        have e1 := hK n hn
        simp only [V.av, S.av] at e1
        generalize evalF prog n = g at e1
        simp [evalRgn, Option.map_some, evalOps, step, wants, osem, M.run_bind, M.mapL, M.run, M.ok, M.fresh, M.write, M.look, M.lift, putD, Arb.set, ev, Arb.get, keepFr, bin, intBin, strBin, mk, params, cellsM, load, obRead, fadr, fld, isl, iarr, xarr, idx, len, valid, slc, bound, store, splice, nilc, un, eqs, eq0, evalFeet, footOf, M.foot, orderOk, apartAll, apart1, clash, meets, callM, fcallM, callee, fz1, fzC, fz, flat, flat1, flat0, flatI, Option.bind_some, putAll, M.bind, hi', E.cs_at e hi, E.cs_len, hm, hm2, B.cs_at b hi, B.cs_len, e1])) ?_
      refine Wp.cond rfl ?_
      cases hr : hasV (b.get i) (e.get i) with
      | false =>
        refine Wp.seq ?_
        refine Wp.rgn (K := 0) (fun n _ => by simp [evalRgn, Option.map_some, evalOps, step, wants, osem, M.run_bind, M.mapL, M.run, M.ok, M.fresh, M.write, M.look, M.lift, putD, Arb.set, ev, Arb.get, keepFr, bin, intBin, strBin, mk, params, cellsM, load, obRead, fadr, fld, isl, iarr, xarr, idx, len, valid, slc, bound, store, splice, nilc, un, eqs, eq0, evalFeet, footOf, M.foot, orderOk, apartAll, apart1, clash, meets, callM, fcallM, callee, fz1, fzC, fz, flat, flat1, flat0, flatI, Option.bind_some, putAll, M.bind]; rfl) ?_
        refine Wp.ret ?_
        rw [hasTo_false hr 4 hi]; rfl
      | true =>
        refine Wp.skip ?_
        refine Wp.rgn (K := 0) (fun n _ => by simp [evalRgn, Option.map_some, evalOps, step, wants, osem, M.run_bind, M.mapL, M.run, M.ok, M.fresh, M.write, M.look, M.lift, putD, Arb.set, ev, Arb.get, keepFr, bin, intBin, strBin, mk, params, cellsM, load, obRead, fadr, fld, isl, iarr, xarr, idx, len, valid, slc, bound, store, splice, nilc, un, eqs, eq0, evalFeet, footOf, M.foot, orderOk, apartAll, apart1, clash, meets, callM, fcallM, callee, fz1, fzC, fz, flat, flat1, flat0, flatI, Option.bind_some, putAll, M.bind]; rfl) ?_
        refine ⟨by simp [again, keepFr, get, nrm_iv, nrm_ref_cells, nrmO, E.cs_nrm, B.cs_nrm, wrap_lt4 hi], ?_⟩
        rw [hasTo, hg, hr]; rfl
    · intro hg
      refine Wp.seq (Wp.seq ?_)
      refine Wp.rgn (K := 0) (fun n _ => by simp [evalRgn, Option.map_some, evalOps, step, wants, osem, M.run_bind, M.mapL, M.run, M.ok, M.fresh, M.write, M.look, M.lift, putD, Arb.set, ev, Arb.get, keepFr, bin, intBin, strBin, mk, params, cellsM, load, obRead, fadr, fld, isl, iarr, xarr, idx, len, valid, slc, bound, store, splice, nilc, un, eqs, eq0, evalFeet, footOf, M.foot, orderOk, apartAll, apart1, clash, meets, callM, fcallM, callee, fz1, fzC, fz, flat, flat1, flat0, flatI, Option.bind_some, putAll, M.bind]; rfl) ?_
      refine Wp.cond rfl (Wp.exit ?_)
      simp only [Ex.then, Ex.inBlock, if_true]
      refine Wp.seq ?_
      refine Wp.rgn (K := 0) (fun n _ => by simp [evalRgn, Option.map_some, evalOps, step, wants, osem, M.run_bind, M.mapL, M.run, M.ok, M.fresh, M.write, M.look, M.lift, putD, Arb.set, ev, Arb.get, keepFr, bin, intBin, strBin, mk, params, cellsM, load, obRead, fadr, fld, isl, iarr, xarr, idx, len, valid, slc, bound, store, splice, nilc, un, eqs, eq0, evalFeet, footOf, M.foot, orderOk, apartAll, apart1, clash, meets, callM, fcallM, callee, fz1, fzC, fz, flat, flat1, flat0, flatI, Option.bind_some, putAll, M.bind]; rfl) ?_
      refine Wp.ret ?_
      rw [hg]; rfl

set_option maxHeartbeats 1000000 in
theorem p_hasF (H : Has3 prog) (h34 : prog 34 = some F34) (h20 : prog 20 = some F20) (h : prog 8 = some F8) (f : List B) (e : E) (hl : f.length ≤ maxLen) (hf : ∀ b ∈ f, b.fits) : Ans prog 8 [filt f, e.av] (.iv (.bool (hasF f e))) := by
  refine Ans.of h rfl rfl (Wp.seq ?_)
  refine Wp.rgn (K := 0) (s' := ⟨[(0, filt f), (3, .ref 1000 0 0 0)], [(1000, .cells e.cs)], 1128⟩) (fun n _ => by simp [evalRgn, Option.map_some, evalOps, step, wants, osem, M.run_bind, M.mapL, M.run, M.ok, M.fresh, M.write, M.look, M.lift, putD, Arb.set, ev, Arb.get, keepFr, bin, intBin, strBin, mk, params, cellsM, load, obRead, fadr, fld, isl, iarr, xarr, idx, len, valid, slc, bound, store, splice, nilc, un, eqs, eq0, evalFeet, footOf, M.foot, orderOk, apartAll, apart1, clash, meets, callM, fcallM, callee, fz1, flat, flat1, flat0, flatI, Option.bind_some, putAll, M.bind, E.av, E.cs_nilc]) ?_
  refine Wp.seq (Wp.seq ?_)
  refine Wp.rgn (K := 0) (fun n _ => by simp [evalRgn, Option.map_some, evalOps, step, wants, osem, M.run_bind, M.mapL, M.run, M.ok, M.fresh, M.write, M.look, M.lift, putD, Arb.set, ev, Arb.get, keepFr, bin, intBin, strBin, mk, params, cellsM, load, obRead, fadr, fld, isl, iarr, xarr, idx, len, valid, slc, bound, store, splice, nilc, un, eqs, eq0, evalFeet, footOf, M.foot, orderOk, apartAll, apart1, clash, meets, callM, fcallM, callee, fz1, fzC, fz, flat, flat1, flat0, flatI, Option.bind_some, putAll, M.bind]; rfl) ?_
  refine Wp.block ?_
  refine Wp.range f.length (fun i => ⟨[(0, filt f), (3, .ref 1000 0 0 0), (5, .iv (.int .i64 i))], [(1000, .cells e.cs)], 1192⟩) (fun i => hasF (f.take i) e = false) rfl (by simp [hasF]) ?_ ?_
  · intro i hi hg
    have hi' : (i : Int) < f.length := by omega
    obtain ⟨b, hb⟩ : ∃ x, f[i]? = some x := ⟨_, List.getElem?_eq_getElem hi⟩
    refine Wp.seq (Wp.seq ?_)
    refine Wp.rgn (K := 0) (fun n _ => by simp [evalRgn, Option.map_some, evalOps, step, wants, osem, M.run_bind, M.mapL, M.run, M.ok, M.fresh, M.write, M.look, M.lift, putD, Arb.set, ev, Arb.get, keepFr, bin, intBin, strBin, mk, params, cellsM, load, obRead, fadr, fld, isl, iarr, xarr, idx, len, valid, slc, bound, store, splice, nilc, un, eqs, eq0, evalFeet, footOf, M.foot, orderOk, apartAll, apart1, clash, meets, callM, fcallM, callee, fz1, fzC, fz, flat, flat1, flat0, flatI, Option.bind_some, putAll, M.bind, filt, hi]; rfl) ?_
    refine Wp.cond rfl (Wp.skip (Wp.seq (Wp.block (Wp.seq ?_))))
    obtain ⟨K, hK⟩ := p_hasB H h34 h20 b e (hf b (List.mem_of_getElem? hb))
    refine Wp.rgn (K := K) (s' := ⟨[(0, filt f), (3, .ref 1000 0 0 0), (5, .iv (.int .i64 i)), (17, .iv (.bool (hasB b e)))], [(1000, .cells e.cs)], 1832⟩) (fun n hn => rgn_quiet' rfl (by
      have e1 := hK n hn
      simp only [B.av, E.av] at e1
      generalize evalF prog n = g at e1
      simp [evalRgn, Option.map_some, evalOps, step, wants, osem, M.run_bind, M.mapL, M.run, M.ok, M.fresh, M.write, M.look, M.lift, putD, Arb.set, ev, Arb.get, keepFr, bin, intBin, strBin, mk, params, cellsM, load, obRead, fadr, fld, isl, iarr, xarr, idx, len, valid, slc, bound, store, splice, nilc, un, eqs, eq0, evalFeet, footOf, M.foot, orderOk, apartAll, apart1, clash, meets, callM, fcallM, callee, fz1, flat, flat1, flat0, flatI, Option.bind_some, putAll, M.bind, filt, hb, E.cs_12, E.cs_len, E.cs_fzC, B.enc_take, B.enc_len, B.enc_cs, B.cs_fzC, e1])) ?_
    refine Wp.cond rfl ?_
    cases hh : hasB b e with
    | true =>
      refine Wp.seq ?_
      refine Wp.rgn (K := 0) (fun n _ => by simp [evalRgn, Option.map_some, evalOps, step, wants, osem, M.run_bind, M.mapL, M.run, M.ok, M.fresh, M.write, M.look, M.lift, putD, Arb.set, ev, Arb.get, keepFr, bin, intBin, strBin, mk, params, cellsM, load, obRead, fadr, fld, isl, iarr, xarr, idx, len, valid, slc, bound, store, splice, nilc, un, eqs, eq0, evalFeet, footOf, M.foot, orderOk, apartAll, apart1, clash, meets, callM, fcallM, callee, fz1, fzC, fz, flat, flat1, flat0, flatI, Option.bind_some, putAll, M.bind]; rfl) ?_
      refine Wp.ret ?_
      rw [show hasF f e = true from any_true hb hh]; rfl
    | false =>
      refine Wp.skip ?_
      refine Wp.rgn (K := 0) (fun n _ => by simp [evalRgn, Option.map_some, evalOps, step, wants, osem, M.run_bind, M.mapL, M.run, M.ok, M.fresh, M.write, M.look, M.lift, putD, Arb.set, ev, Arb.get, keepFr, bin, intBin, strBin, mk, params, cellsM, load, obRead, fadr, fld, isl, iarr, xarr, idx, len, valid, slc, bound, store, splice, nilc, un, eqs, eq0, evalFeet, footOf, M.foot, orderOk, apartAll, apart1, clash, meets, callM, fcallM, callee, fz1, fzC, fz, flat, flat1, flat0, flatI, Option.bind_some, putAll, M.bind]; rfl) ?_
      refine ⟨by simp [again, keepFr, get, nrm_iv, nrm_ref_cells, nrmO, E.cs_nrm, filt, wrap_succ hi hl], ?_⟩
      unfold hasF at hg ⊢
      rw [take_succ_any hb, hg, hh]; rfl
  · intro hg
    rw [List.take_length] at hg
    refine Wp.seq (Wp.seq ?_)
    refine Wp.rgn (K := 0) (fun n _ => by simp [evalRgn, Option.map_some, evalOps, step, wants, osem, M.run_bind, M.mapL, M.run, M.ok, M.fresh, M.write, M.look, M.lift, putD, Arb.set, ev, Arb.get, keepFr, bin, intBin, strBin, mk, params, cellsM, load, obRead, fadr, fld, isl, iarr, xarr, idx, len, valid, slc, bound, store, splice, nilc, un, eqs, eq0, evalFeet, footOf, M.foot, orderOk, apartAll, apart1, clash, meets, callM, fcallM, callee, fz1, fzC, fz, flat, flat1, flat0, flatI, Option.bind_some, putAll, M.bind, filt]; rfl) ?_
    refine Wp.cond rfl (Wp.exit ?_)
    simp only [Ex.then, Ex.inBlock, if_true]
    refine Wp.seq ?_
    refine Wp.rgn (K := 0) (fun n _ => by simp [evalRgn, Option.map_some, evalOps, step, wants, osem, M.run_bind, M.mapL, M.run, M.ok, M.fresh, M.write, M.look, M.lift, putD, Arb.set, ev, Arb.get, keepFr, bin, intBin, strBin, mk, params, cellsM, load, obRead, fadr, fld, isl, iarr, xarr, idx, len, valid, slc, bound, store, splice, nilc, un, eqs, eq0, evalFeet, footOf, M.foot, orderOk, apartAll, apart1, clash, meets, callM, fcallM, callee, fz1, fzC, fz, flat, flat1, flat0, flatI, Option.bind_some, putAll, M.bind]; rfl) ?_
    refine Wp.ret ?_
    rw [hg]; rfl
end
end Arb

/-
  HOW FAR AN EVENT IS, as it is computed.
-/
set_option linter.unusedSimpArgs false
namespace Arb
open Go

def apartI (a b : Int) : Int := if b < a then IntKind.wrap .u64 (IntKind.wrap .u64 a - IntKind.wrap .u64 b) else IntKind.wrap .u64 (IntKind.wrap .u64 b - IntKind.wrap .u64 a)
def mnU (a b : Int) : Int := if b < a then b else a
def nearTo (n : Int) : List (Int × Int) → Int → Int
  | [], m => m
  | p :: r, m => nearTo n r (if decide (p.1 ≤ p.2) then mnU m (mnU (apartI p.1 n) (apartI p.2 n)) else m)
def distV (x : S) (v : V) : Int := if hasV x v then 0 else if v.k != 1 || !rightV v then far else nearTo v.n x.i far
def distTo (b : B) (e : E) : Nat → Int
  | 0 => 0
  | i + 1 => addF (distTo b e i) (distV (b.get i) (e.get i))
def distB (b : B) (e : E) : Int := distTo b e 4
def distFrom (e : E) : List B → Int → Int
  | [], m => m
  | b :: r, m => distFrom e r (mnU m (distB b e))
def distF (f : List B) (e : E) : Int := distFrom e f far

theorem nearTo_snoc (n : Int) (p : Int × Int) : ∀ (l : List (Int × Int)) (m : Int), nearTo n (l ++ [p]) m = if decide (p.1 ≤ p.2) then mnU (nearTo n l m) (mnU (apartI p.1 n) (apartI p.2 n)) else nearTo n l m
  | [], m => rfl
  | q :: l, m => by rw [List.cons_append, nearTo, nearTo, nearTo_snoc n p l]
theorem distFrom_snoc (e : E) (b : B) : ∀ (l : List B) (m : Int), distFrom e (l ++ [b]) m = mnU (distFrom e l m) (distB b e)
  | [], m => rfl
  | q :: l, m => by rw [List.cons_append, distFrom, distFrom, distFrom_snoc e b l]

section
variable {prog : Nat → Option IFn}

theorem p_apart (h : prog 44 = some F44) (a b : Int) : Ans prog 44 [.iv (.int .i64 a), .iv (.int .i64 b)] (.iv (.int .u64 (apartI a b))) := by
  refine Ans.of h rfl rfl (Wp.seq ?_)
  refine Wp.rgn (K := 0) (fun n _ => by simp [evalRgn, Option.map_some, evalOps, step, wants, osem, M.run_bind, M.mapL, M.run, M.ok, M.fresh, M.write, M.look, M.lift, putD, Arb.set, ev, Arb.get, keepFr, bin, intBin, strBin, mk, params, cellsM, load, obRead, fadr, fld, isl, iarr, xarr, idx, len, valid, slc, bound, store, splice, nilc, un, eqs, eq0, evalFeet, footOf, M.foot, orderOk, apartAll, apart1, clash, meets, callM, fcallM, callee, fz1, fzC, fz, flat, flat1, flat0, flatI, Option.bind_some, putAll, M.bind]; rfl) ?_
  refine Wp.seq (Wp.seq ?_)
  refine Wp.rgn (K := 0) (fun n _ => by simp [evalRgn, Option.map_some, evalOps, step, wants, osem, M.run_bind, M.mapL, M.run, M.ok, M.fresh, M.write, M.look, M.lift, putD, Arb.set, ev, Arb.get, keepFr, bin, intBin, strBin, mk, params, cellsM, load, obRead, fadr, fld, isl, iarr, xarr, idx, len, valid, slc, bound, store, splice, nilc, un, eqs, eq0, evalFeet, footOf, M.foot, orderOk, apartAll, apart1, clash, meets, callM, fcallM, callee, fz1, fzC, fz, flat, flat1, flat0, flatI, Option.bind_some, putAll, M.bind]; rfl) ?_
  refine Wp.cond rfl ?_
  unfold apartI
  cases hd : decide (a > b) with
  | true =>
    rw [if_pos (of_decide_eq_true hd)]
    refine Wp.rgn (K := 0) (fun n _ => by simp [evalRgn, Option.map_some, evalOps, step, wants, osem, M.run_bind, M.mapL, M.run, M.ok, M.fresh, M.write, M.look, M.lift, putD, Arb.set, ev, Arb.get, keepFr, bin, intBin, strBin, mk, params, cellsM, load, obRead, fadr, fld, isl, iarr, xarr, idx, len, valid, slc, bound, store, splice, nilc, un, eqs, eq0, evalFeet, footOf, M.foot, orderOk, apartAll, apart1, clash, meets, callM, fcallM, callee, fz1, fzC, fz, flat, flat1, flat0, flatI, Option.bind_some, putAll, M.bind]; rfl) ?_
    simp only [Ex.then]
    refine Wp.seq ?_
    refine Wp.rgn (K := 0) (fun n _ => by simp [evalRgn, Option.map_some, evalOps, step, wants, osem, M.run_bind, M.mapL, M.run, M.ok, M.fresh, M.write, M.look, M.lift, putD, Arb.set, ev, Arb.get, keepFr, bin, intBin, strBin, mk, params, cellsM, load, obRead, fadr, fld, isl, iarr, xarr, idx, len, valid, slc, bound, store, splice, nilc, un, eqs, eq0, evalFeet, footOf, M.foot, orderOk, apartAll, apart1, clash, meets, callM, fcallM, callee, fz1, fzC, fz, flat, flat1, flat0, flatI, Option.bind_some, putAll, M.bind]; rfl) ?_
    exact Wp.ret rfl
  | false =>
    rw [if_neg (of_decide_eq_false hd)]
    refine Wp.skip ?_
    simp only [Ex.then]
    refine Wp.seq ?_
    refine Wp.rgn (K := 0) (fun n _ => by simp [evalRgn, Option.map_some, evalOps, step, wants, osem, M.run_bind, M.mapL, M.run, M.ok, M.fresh, M.write, M.look, M.lift, putD, Arb.set, ev, Arb.get, keepFr, bin, intBin, strBin, mk, params, cellsM, load, obRead, fadr, fld, isl, iarr, xarr, idx, len, valid, slc, bound, store, splice, nilc, un, eqs, eq0, evalFeet, footOf, M.foot, orderOk, apartAll, apart1, clash, meets, callM, fcallM, callee, fz1, fzC, fz, flat, flat1, flat0, flatI, Option.bind_some, putAll, M.bind]; rfl) ?_
    exact Wp.ret rfl

structure Dist (prog : Nat → Option IFn) : Prop extends Has3 prog where
  h28 : prog 28 = some F28
  h29 : prog 29 = some F29
  h44 : prog 44 = some F44

set_option maxHeartbeats 2000000 in
theorem p_distV (H : Dist prog) (x : S) (v : V) (hi : x.i.length ≤ maxLen) (hs : x.s.length ≤ maxLen) : Ans prog 29 [x.av, v.av] (.iv (.int .u64 (distV x v))) := by
  obtain ⟨K1, hK1⟩ := p_hasV H.toHas3 x v hi hs
  obtain ⟨K2, hK2⟩ := p_rightV H.h43 v
  refine Ans.of H.h29 rfl rfl (Wp.seq ?_)
  refine Wp.rgn (K := 0) (fun n _ => by simp [evalRgn, Option.map_some, evalOps, step, wants, osem, M.run_bind, M.mapL, M.run, M.ok, M.fresh, M.write, M.look, M.lift, putD, Arb.set, ev, Arb.get, keepFr, bin, intBin, strBin, mk, params, cellsM, load, obRead, fadr, fld, isl, iarr, xarr, idx, len, valid, slc, bound, store, splice, nilc, un, eqs, eq0, evalFeet, footOf, M.foot, orderOk, apartAll, apart1, clash, meets, callM, fcallM, callee, fz1, fzC, fz, flat, flat1, flat0, flatI, Option.bind_some, putAll, M.bind, S.av, V.av]; rfl) ?_
  refine Wp.seq (Wp.seq ?_)
  refine Wp.rgn (K := K1) (s' := ⟨[(2, .ref 1000 0 0 0), (3, .ref 1064 0 0 0), (9, .iv (.bool (hasV x v)))], [(1000, .cells [.iv (.bool x.a), .iv (.sl 2 (x.i.map rng)), .iv (.bool x.c), .iv (.sl 1 (x.s.map st1))]), (1064, .cells [.iv (.int .i64 v.k), .iv (.int .i64 v.n), .iv (.str v.s)])], 1384⟩) (fun n hn => by
    have e1 := hK1 n hn
    simp only [V.av, S.av] at e1
    generalize evalF prog n = g at e1
    simp [evalRgn, Option.map_some, evalOps, step, wants, osem, M.run_bind, M.mapL, M.run, M.ok, M.fresh, M.write, M.look, M.lift, putD, Arb.set, ev, Arb.get, keepFr, bin, intBin, strBin, mk, params, cellsM, load, obRead, fadr, fld, isl, iarr, xarr, idx, len, valid, slc, bound, store, splice, nilc, un, eqs, eq0, evalFeet, footOf, M.foot, orderOk, apartAll, apart1, clash, meets, callM, fcallM, callee, fz1, fzC, fz, flat, flat1, flat0, flatI, Option.bind_some, putAll, M.bind, e1]) ?_
  unfold distV
  refine Wp.cond rfl ?_
  cases hh : hasV x v with
  | true =>
    refine Wp.seq ?_
    refine Wp.rgn (K := 0) (fun n _ => by simp [evalRgn, Option.map_some, evalOps, step, wants, osem, M.run_bind, M.mapL, M.run, M.ok, M.fresh, M.write, M.look, M.lift, putD, Arb.set, ev, Arb.get, keepFr, bin, intBin, strBin, mk, params, cellsM, load, obRead, fadr, fld, isl, iarr, xarr, idx, len, valid, slc, bound, store, splice, nilc, un, eqs, eq0, evalFeet, footOf, M.foot, orderOk, apartAll, apart1, clash, meets, callM, fcallM, callee, fz1, fzC, fz, flat, flat1, flat0, flatI, Option.bind_some, putAll, M.bind]; rfl) ?_
    exact Wp.ret rfl
  | false =>
    refine Wp.skip (Wp.seq ?_)
    refine Wp.rgn (K := 0) (fun n _ => by simp [evalRgn, Option.map_some, evalOps, step, wants, osem, M.run_bind, M.mapL, M.run, M.ok, M.fresh, M.write, M.look, M.lift, putD, Arb.set, ev, Arb.get, keepFr, bin, intBin, strBin, mk, params, cellsM, load, obRead, fadr, fld, isl, iarr, xarr, idx, len, valid, slc, bound, store, splice, nilc, un, eqs, eq0, evalFeet, footOf, M.foot, orderOk, apartAll, apart1, clash, meets, callM, fcallM, callee, fz1, fzC, fz, flat, flat1, flat0, flatI, Option.bind_some, putAll, M.bind]; rfl) ?_
    refine Wp.seq (Wp.seq ?_)
    refine Wp.rgn (K := K2) (s' := ⟨[(2, .ref 1000 0 0 0), (3, .ref 1064 0 0 0), (5, .iv (.int .u64 far)), (17, .iv (.bool (v.k != 1 || !rightV v)))], [(1000, .cells [.iv (.bool x.a), .iv (.sl 2 (x.i.map rng)), .iv (.bool x.c), .iv (.sl 1 (x.s.map st1))]), (1064, .cells [.iv (.int .i64 v.k), .iv (.int .i64 v.n), .iv (.str v.s)])], 1960⟩) (fun n hn => by
      have e1 := hK2 n hn
      simp only [V.av] at e1
      generalize evalF prog n = g at e1
      cases h1 : v.k != 1 <;> simp [evalRgn, Option.map_some, evalOps, step, wants, osem, M.run_bind, M.mapL, M.run, M.ok, M.fresh, M.write, M.look, M.lift, putD, Arb.set, ev, Arb.get, keepFr, bin, intBin, strBin, mk, params, cellsM, load, obRead, fadr, fld, isl, iarr, xarr, idx, len, valid, slc, bound, store, splice, nilc, un, eqs, eq0, evalFeet, footOf, M.foot, orderOk, apartAll, apart1, clash, meets, callM, fcallM, callee, fz1, fzC, fz, flat, flat1, flat0, flatI, Option.bind_some, putAll, M.bind, e1, h1, far]) ?_
    refine Wp.cond rfl ?_
    cases hk : v.k != 1 || !rightV v with
    | true =>
      refine Wp.seq ?_
      refine Wp.rgn (K := 0) (fun n _ => by simp [evalRgn, Option.map_some, evalOps, step, wants, osem, M.run_bind, M.mapL, M.run, M.ok, M.fresh, M.write, M.look, M.lift, putD, Arb.set, ev, Arb.get, keepFr, bin, intBin, strBin, mk, params, cellsM, load, obRead, fadr, fld, isl, iarr, xarr, idx, len, valid, slc, bound, store, splice, nilc, un, eqs, eq0, evalFeet, footOf, M.foot, orderOk, apartAll, apart1, clash, meets, callM, fcallM, callee, fz1, fzC, fz, flat, flat1, flat0, flatI, Option.bind_some, putAll, M.bind]; rfl) ?_
      exact Wp.ret rfl
    | false =>
      refine Wp.skip (Wp.seq (Wp.seq ?_))
      refine Wp.rgn (K := 0) (fun n _ => by simp [evalRgn, Option.map_some, evalOps, step, wants, osem, M.run_bind, M.mapL, M.run, M.ok, M.fresh, M.write, M.look, M.lift, putD, Arb.set, ev, Arb.get, keepFr, bin, intBin, strBin, mk, params, cellsM, load, obRead, fadr, fld, isl, iarr, xarr, idx, len, valid, slc, bound, store, splice, nilc, un, eqs, eq0, evalFeet, footOf, M.foot, orderOk, apartAll, apart1, clash, meets, callM, fcallM, callee, fz1, fzC, fz, flat, flat1, flat0, flatI, Option.bind_some, putAll, M.bind]; rfl) ?_
      refine Wp.block ?_
      refine Wp.range x.i.length (fun i => ⟨[(2, .ref 1000 0 0 0), (3, .ref 1064 0 0 0), (5, .iv (.int .u64 (nearTo v.n (x.i.take i) far))), (6, .iv (.int .i64 i))], [(1000, .cells [.iv (.bool x.a), .iv (.sl 2 (x.i.map rng)), .iv (.bool x.c), .iv (.sl 1 (x.s.map st1))]), (1064, .cells [.iv (.int .i64 v.k), .iv (.int .i64 v.n), .iv (.str v.s)])], 2024⟩) (fun _ => True) rfl trivial ?_ ?_
      · intro i hi' _
        have hi2 : (i : Int) < x.i.length := by omega
        obtain ⟨p, hp⟩ : ∃ p, x.i[i]? = some p := ⟨_, List.getElem?_eq_getElem hi'⟩
        have hnext : nearTo v.n (x.i.take (i + 1)) far = if decide (p.1 ≤ p.2) then mnU (nearTo v.n (x.i.take i) far) (mnU (apartI p.1 v.n) (apartI p.2 v.n)) else nearTo v.n (x.i.take i) far := by
          rw [List.take_add_one, hp]; exact nearTo_snoc _ _ _ _
        rw [hnext]
        generalize nearTo v.n (x.i.take i) far = m
        refine Wp.seq (Wp.seq ?_)
        refine Wp.rgn (K := 0) (fun n _ => by simp [evalRgn, Option.map_some, evalOps, step, wants, osem, M.run_bind, M.mapL, M.run, M.ok, M.fresh, M.write, M.look, M.lift, putD, Arb.set, ev, Arb.get, keepFr, bin, intBin, strBin, mk, params, cellsM, load, obRead, fadr, fld, isl, iarr, xarr, idx, len, valid, slc, bound, store, splice, nilc, un, eqs, eq0, evalFeet, footOf, M.foot, orderOk, apartAll, apart1, clash, meets, callM, fcallM, callee, fz1, fzC, fz, flat, flat1, flat0, flatI, Option.bind_some, putAll, M.bind, hi']; rfl) ?_
        refine Wp.cond rfl (Wp.skip (Wp.seq (Wp.block (Wp.seq ?_))))
        refine Wp.rgn (K := 0) (s' := ⟨[(2, .ref 1000 0 0 0), (3, .ref 1064 0 0 0), (5, .iv (.int .u64 m)), (6, .iv (.int .i64 i)), (38, .iv (.bool (decide (p.1 ≤ p.2))))], [(1000, .cells [.iv (.bool x.a), .iv (.sl 2 (x.i.map rng)), .iv (.bool x.c), .iv (.sl 1 (x.s.map st1))]), (1064, .cells [.iv (.int .i64 v.k), .iv (.int .i64 v.n), .iv (.str v.s)])], 3176⟩) (fun n _ => rgn_quiet' rfl (by simp [evalRgn, Option.map_some, evalOps, step, wants, osem, M.run_bind, M.mapL, M.run, M.ok, M.fresh, M.write, M.look, M.lift, putD, Arb.set, ev, Arb.get, keepFr, bin, intBin, strBin, mk, params, cellsM, load, obRead, fadr, fld, isl, iarr, xarr, idx, len, valid, slc, bound, store, splice, nilc, un, eqs, eq0, evalFeet, footOf, M.foot, orderOk, apartAll, apart1, clash, meets, callM, fcallM, callee, fz1, fzC, fz, flat, flat1, flat0, flatI, Option.bind_some, putAll, M.bind, hp, rng])) ?_
        refine Wp.cond rfl ?_
        cases hd : decide (p.1 ≤ p.2) with
        | true =>
          obtain ⟨K3, hK3⟩ := p_apart H.h44 p.1 v.n
          obtain ⟨K4, hK4⟩ := p_apart H.h44 p.2 v.n
          refine Wp.rgn (K := max K3 K4) (s' := ⟨[(2, .ref 1000 0 0 0), (3, .ref 1064 0 0 0), (5, .iv (.int .u64 (mnU m (mnU (apartI p.1 v.n) (apartI p.2 v.n))))), (6, .iv (.int .i64 i))], [(1000, .cells [.iv (.bool x.a), .iv (.sl 2 (x.i.map rng)), .iv (.bool x.c), .iv (.sl 1 (x.s.map st1))]), (1064, .cells [.iv (.int .i64 v.k), .iv (.int .i64 v.n), .iv (.str v.s)])], 4584⟩) (fun n hn => rgn_quiet' rfl (by
            have e1 := hK3 n (by omega)
            have e2 := hK4 n (by omega)
            generalize evalF prog n = g at e1 e2
            simp [evalRgn, Option.map_some, evalOps, step, wants, osem, M.run_bind, M.mapL, M.run, M.ok, M.fresh, M.write, M.look, M.lift, putD, Arb.set, ev, Arb.get, keepFr, bin, intBin, strBin, mk, params, cellsM, load, obRead, fadr, fld, isl, iarr, xarr, idx, len, valid, slc, bound, store, splice, nilc, un, eqs, eq0, evalFeet, footOf, M.foot, orderOk, apartAll, apart1, clash, meets, callM, fcallM, callee, fz1, fzC, fz, flat, flat1, flat0, flatI, Option.bind_some, putAll, M.bind, hp, rng, e1, e2, mnI, mnU]
            rfl)) ?_
          simp only [Ex.then, Ex.inBlock]
          refine Wp.rgn (K := 0) (fun n _ => by simp [evalRgn, Option.map_some, evalOps, step, wants, osem, M.run_bind, M.mapL, M.run, M.ok, M.fresh, M.write, M.look, M.lift, putD, Arb.set, ev, Arb.get, keepFr, bin, intBin, strBin, mk, params, cellsM, load, obRead, fadr, fld, isl, iarr, xarr, idx, len, valid, slc, bound, store, splice, nilc, un, eqs, eq0, evalFeet, footOf, M.foot, orderOk, apartAll, apart1, clash, meets, callM, fcallM, callee, fz1, fzC, fz, flat, flat1, flat0, flatI, Option.bind_some, putAll, M.bind]; rfl) ?_
          exact ⟨by simp [again, keepFr, get, nrm_iv, nrm_ref_cells, nrmO, nrm, wrap_succ hi' hi], trivial⟩
        | false =>
          refine Wp.skip ?_
          simp only [Ex.then, Ex.inBlock]
          refine Wp.rgn (K := 0) (fun n _ => by simp [evalRgn, Option.map_some, evalOps, step, wants, osem, M.run_bind, M.mapL, M.run, M.ok, M.fresh, M.write, M.look, M.lift, putD, Arb.set, ev, Arb.get, keepFr, bin, intBin, strBin, mk, params, cellsM, load, obRead, fadr, fld, isl, iarr, xarr, idx, len, valid, slc, bound, store, splice, nilc, un, eqs, eq0, evalFeet, footOf, M.foot, orderOk, apartAll, apart1, clash, meets, callM, fcallM, callee, fz1, fzC, fz, flat, flat1, flat0, flatI, Option.bind_some, putAll, M.bind]; rfl) ?_
          exact ⟨by simp [again, keepFr, get, nrm_iv, nrm_ref_cells, nrmO, nrm, wrap_succ hi' hi], trivial⟩
      · intro _
        refine Wp.seq (Wp.seq ?_)
        refine Wp.rgn (K := 0) (fun n _ => by simp [evalRgn, Option.map_some, evalOps, step, wants, osem, M.run_bind, M.mapL, M.run, M.ok, M.fresh, M.write, M.look, M.lift, putD, Arb.set, ev, Arb.get, keepFr, bin, intBin, strBin, mk, params, cellsM, load, obRead, fadr, fld, isl, iarr, xarr, idx, len, valid, slc, bound, store, splice, nilc, un, eqs, eq0, evalFeet, footOf, M.foot, orderOk, apartAll, apart1, clash, meets, callM, fcallM, callee, fz1, fzC, fz, flat, flat1, flat0, flatI, Option.bind_some, putAll, M.bind]; rfl) ?_
        refine Wp.cond rfl (Wp.exit ?_)
        simp only [Ex.then, Ex.inBlock, if_true]
        refine Wp.seq ?_
        refine Wp.rgn (K := 0) (fun n _ => by simp [evalRgn, Option.map_some, evalOps, step, wants, osem, M.run_bind, M.mapL, M.run, M.ok, M.fresh, M.write, M.look, M.lift, putD, Arb.set, ev, Arb.get, keepFr, bin, intBin, strBin, mk, params, cellsM, load, obRead, fadr, fld, isl, iarr, xarr, idx, len, valid, slc, bound, store, splice, nilc, un, eqs, eq0, evalFeet, footOf, M.foot, orderOk, apartAll, apart1, clash, meets, callM, fcallM, callee, fz1, fzC, fz, flat, flat1, flat0, flatI, Option.bind_some, putAll, M.bind]; rfl) ?_
        exact Wp.ret rfl

set_option maxHeartbeats 2000000 in
theorem p_distB (H : Dist prog) (h : prog 15 = some F15) (b : B) (e : E) (hb : b.fits) : Ans prog 15 [b.av, e.av] (.iv (.int .u64 (distB b e))) := by
  refine Ans.of h rfl rfl (Wp.seq ?_)
  refine Wp.rgn (K := 0) (s' := ⟨[(2, .ref 1000 0 0 0), (3, .ref 1064 0 0 0)], [(1000, .cells b.cs), (1064, .cells e.cs)], 1192⟩) (fun n _ => by simp [evalRgn, Option.map_some, evalOps, step, wants, osem, M.run_bind, M.mapL, M.run, M.ok, M.fresh, M.write, M.look, M.lift, putD, Arb.set, ev, Arb.get, keepFr, bin, intBin, strBin, mk, params, cellsM, load, obRead, fadr, fld, isl, iarr, xarr, idx, len, valid, slc, bound, store, splice, nilc, un, eqs, eq0, evalFeet, footOf, M.foot, orderOk, apartAll, apart1, clash, meets, callM, fcallM, callee, fz1, flat, flat1, flat0, flatI, Option.bind_some, putAll, M.bind, B.av, B.cs_nilc, E.av, E.cs_nilc]) ?_
  refine Wp.seq ?_
  refine Wp.rgn (K := 0) (fun n _ => by simp [evalRgn, Option.map_some, evalOps, step, wants, osem, M.run_bind, M.mapL, M.run, M.ok, M.fresh, M.write, M.look, M.lift, putD, Arb.set, ev, Arb.get, keepFr, bin, intBin, strBin, mk, params, cellsM, load, obRead, fadr, fld, isl, iarr, xarr, idx, len, valid, slc, bound, store, splice, nilc, un, eqs, eq0, evalFeet, footOf, M.foot, orderOk, apartAll, apart1, clash, meets, callM, fcallM, callee, fz1, fzC, fz, flat, flat1, flat0, flatI, Option.bind_some, putAll, M.bind]; rfl) ?_
  refine Wp.seq (Wp.seq ?_)
  refine Wp.rgn (K := 0) (fun n _ => by simp [evalRgn, Option.map_some, evalOps, step, wants, osem, M.run_bind, M.mapL, M.run, M.ok, M.fresh, M.write, M.look, M.lift, putD, Arb.set, ev, Arb.get, keepFr, bin, intBin, strBin, mk, params, cellsM, load, obRead, fadr, fld, isl, iarr, xarr, idx, len, valid, slc, bound, store, splice, nilc, un, eqs, eq0, evalFeet, footOf, M.foot, orderOk, apartAll, apart1, clash, meets, callM, fcallM, callee, fz1, fzC, fz, flat, flat1, flat0, flatI, Option.bind_some, putAll, M.bind]; rfl) ?_
  refine Wp.block ?_
  refine Wp.range 4 (fun i => ⟨[(2, .ref 1000 0 0 0), (3, .ref 1064 0 0 0), (5, .iv (.int .u64 (distTo b e i))), (6, .iv (.int .i64 i))], [(1000, .cells b.cs), (1064, .cells e.cs)], 1320⟩) (fun _ => True) rfl trivial ?_ ?_
  · intro i hi _
    have hi' : (i : Int) < 4 := by omega
    have hm : min 3 (12 - i * 3) = 3 := by omega
    have hm2 : min 4 (16 - i * 4) = 4 := by omega
    refine Wp.seq (Wp.seq ?_)
    refine Wp.rgn (K := 0) (fun n _ => by simp [evalRgn, Option.map_some, evalOps, step, wants, osem, M.run_bind, M.mapL, M.run, M.ok, M.fresh, M.write, M.look, M.lift, putD, Arb.set, ev, Arb.get, keepFr, bin, intBin, strBin, mk, params, cellsM, load, obRead, fadr, fld, isl, iarr, xarr, idx, len, valid, slc, bound, store, splice, nilc, un, eqs, eq0, evalFeet, footOf, M.foot, orderOk, apartAll, apart1, clash, meets, callM, fcallM, callee, fz1, fzC, fz, flat, flat1, flat0, flatI, Option.bind_some, putAll, M.bind, hi']; rfl) ?_
    refine Wp.cond rfl (Wp.skip (Wp.seq (Wp.block ?_)))
    obtain ⟨K1, hK1⟩ := p_distV H (b.get i) (e.get i) (hb i hi).1 (hb i hi).2
    obtain ⟨K2, hK2⟩ := p_add H.h28 (distTo b e i) (distV (b.get i) (e.get i))
    refine Wp.rgn (K := max K1 K2) (s' := ⟨[(2, .ref 1000 0 0 0), (3, .ref 1064 0 0 0), (5, .iv (.int .u64 (distTo b e (i + 1)))), (6, .iv (.int .i64 i))], [(1000, .cells b.cs), (1064, .cells e.cs)], 2088⟩) (fun n hn => rgn_quiet' rfl (by
      have e1 := hK1 n (by omega)
      have e2 := hK2 n (by omega)
      simp only [V.av, S.av] at e1
      generalize evalF prog n = g at e1 e2
      simp [evalRgn, Option.map_some, evalOps, step, wants, osem, M.run_bind, M.mapL, M.run, M.ok, M.fresh, M.write, M.look, M.lift, putD, Arb.set, ev, Arb.get, keepFr, bin, intBin, strBin, mk, params, cellsM, load, obRead, fadr, fld, isl, iarr, xarr, idx, len, valid, slc, bound, store, splice, nilc, un, eqs, eq0, evalFeet, footOf, M.foot, orderOk, apartAll, apart1, clash, meets, callM, fcallM, callee, fz1, fzC, fz, flat, flat1, flat0, flatI, Option.bind_some, putAll, M.bind, hi', E.cs_at e hi, E.cs_len, hm, hm2, B.cs_at b hi, B.cs_len, e1, e2, distTo])) ?_
    simp only [Ex.then, Ex.inBlock]
    refine Wp.rgn (K := 0) (fun n _ => by simp [evalRgn, Option.map_some, evalOps, step, wants, osem, M.run_bind, M.mapL, M.run, M.ok, M.fresh, M.write, M.look, M.lift, putD, Arb.set, ev, Arb.get, keepFr, bin, intBin, strBin, mk, params, cellsM, load, obRead, fadr, fld, isl, iarr, xarr, idx, len, valid, slc, bound, store, splice, nilc, un, eqs, eq0, evalFeet, footOf, M.foot, orderOk, apartAll, apart1, clash, meets, callM, fcallM, callee, fz1, fzC, fz, flat, flat1, flat0, flatI, Option.bind_some, putAll, M.bind]; rfl) ?_
    exact ⟨by simp [again, keepFr, get, nrm_iv, nrm_ref_cells, nrmO, E.cs_nrm, B.cs_nrm, wrap_lt4 hi], trivial⟩
  · intro hg
    refine Wp.seq (Wp.seq ?_)
    refine Wp.rgn (K := 0) (fun n _ => by simp [evalRgn, Option.map_some, evalOps, step, wants, osem, M.run_bind, M.mapL, M.run, M.ok, M.fresh, M.write, M.look, M.lift, putD, Arb.set, ev, Arb.get, keepFr, bin, intBin, strBin, mk, params, cellsM, load, obRead, fadr, fld, isl, iarr, xarr, idx, len, valid, slc, bound, store, splice, nilc, un, eqs, eq0, evalFeet, footOf, M.foot, orderOk, apartAll, apart1, clash, meets, callM, fcallM, callee, fz1, fzC, fz, flat, flat1, flat0, flatI, Option.bind_some, putAll, M.bind]; rfl) ?_
    refine Wp.cond rfl (Wp.exit ?_)
    simp only [Ex.then, Ex.inBlock, if_true]
    refine Wp.seq ?_
    refine Wp.rgn (K := 0) (fun n _ => by simp [evalRgn, Option.map_some, evalOps, step, wants, osem, M.run_bind, M.mapL, M.run, M.ok, M.fresh, M.write, M.look, M.lift, putD, Arb.set, ev, Arb.get, keepFr, bin, intBin, strBin, mk, params, cellsM, load, obRead, fadr, fld, isl, iarr, xarr, idx, len, valid, slc, bound, store, splice, nilc, un, eqs, eq0, evalFeet, footOf, M.foot, orderOk, apartAll, apart1, clash, meets, callM, fcallM, callee, fz1, fzC, fz, flat, flat1, flat0, flatI, Option.bind_some, putAll, M.bind]; rfl) ?_
    exact Wp.ret rfl

set_option maxHeartbeats 2000000 in
theorem p_distF (H : Dist prog) (h15 : prog 15 = some F15) (h : prog 6 = some F6) (f : List B) (e : E) (hl : f.length ≤ maxLen) (hf : ∀ b ∈ f, b.fits) : Ans prog 6 [filt f, e.av] (.iv (.int .u64 (distF f e))) := by
  refine Ans.of h rfl rfl (Wp.seq ?_)
  refine Wp.rgn (K := 0) (s' := ⟨[(0, filt f), (3, .ref 1000 0 0 0)], [(1000, .cells e.cs)], 1128⟩) (fun n _ => by simp [evalRgn, Option.map_some, evalOps, step, wants, osem, M.run_bind, M.mapL, M.run, M.ok, M.fresh, M.write, M.look, M.lift, putD, Arb.set, ev, Arb.get, keepFr, bin, intBin, strBin, mk, params, cellsM, load, obRead, fadr, fld, isl, iarr, xarr, idx, len, valid, slc, bound, store, splice, nilc, un, eqs, eq0, evalFeet, footOf, M.foot, orderOk, apartAll, apart1, clash, meets, callM, fcallM, callee, fz1, flat, flat1, flat0, flatI, Option.bind_some, putAll, M.bind, E.av, E.cs_nilc]) ?_
  refine Wp.seq ?_
  refine Wp.rgn (K := 0) (fun n _ => by simp [evalRgn, Option.map_some, evalOps, step, wants, osem, M.run_bind, M.mapL, M.run, M.ok, M.fresh, M.write, M.look, M.lift, putD, Arb.set, ev, Arb.get, keepFr, bin, intBin, strBin, mk, params, cellsM, load, obRead, fadr, fld, isl, iarr, xarr, idx, len, valid, slc, bound, store, splice, nilc, un, eqs, eq0, evalFeet, footOf, M.foot, orderOk, apartAll, apart1, clash, meets, callM, fcallM, callee, fz1, fzC, fz, flat, flat1, flat0, flatI, Option.bind_some, putAll, M.bind]; rfl) ?_
  refine Wp.seq (Wp.seq ?_)
  refine Wp.rgn (K := 0) (fun n _ => by simp [evalRgn, Option.map_some, evalOps, step, wants, osem, M.run_bind, M.mapL, M.run, M.ok, M.fresh, M.write, M.look, M.lift, putD, Arb.set, ev, Arb.get, keepFr, bin, intBin, strBin, mk, params, cellsM, load, obRead, fadr, fld, isl, iarr, xarr, idx, len, valid, slc, bound, store, splice, nilc, un, eqs, eq0, evalFeet, footOf, M.foot, orderOk, apartAll, apart1, clash, meets, callM, fcallM, callee, fz1, fzC, fz, flat, flat1, flat0, flatI, Option.bind_some, putAll, M.bind]; rfl) ?_
  refine Wp.block ?_
  refine Wp.range f.length (fun i => ⟨[(0, filt f), (3, .ref 1000 0 0 0), (5, .iv (.int .u64 (distFrom e (f.take i) far))), (6, .iv (.int .i64 i))], [(1000, .cells e.cs)], 1256⟩) (fun _ => True) rfl trivial ?_ ?_
  · intro i hi _
    obtain ⟨b, hb⟩ : ∃ x, f[i]? = some x := ⟨_, List.getElem?_eq_getElem hi⟩
    have hnext : distFrom e (f.take (i + 1)) far = mnU (distFrom e (f.take i) far) (distB b e) := by
      rw [List.take_add_one, hb]; exact distFrom_snoc _ _ _ _
    rw [hnext]
    generalize distFrom e (f.take i) far = m
    refine Wp.seq (Wp.seq ?_)
    refine Wp.rgn (K := 0) (fun n _ => by simp [evalRgn, Option.map_some, evalOps, step, wants, osem, M.run_bind, M.mapL, M.run, M.ok, M.fresh, M.write, M.look, M.lift, putD, Arb.set, ev, Arb.get, keepFr, bin, intBin, strBin, mk, params, cellsM, load, obRead, fadr, fld, isl, iarr, xarr, idx, len, valid, slc, bound, store, splice, nilc, un, eqs, eq0, evalFeet, footOf, M.foot, orderOk, apartAll, apart1, clash, meets, callM, fcallM, callee, fz1, fzC, fz, flat, flat1, flat0, flatI, Option.bind_some, putAll, M.bind, filt, hi]; rfl) ?_
    refine Wp.cond rfl (Wp.skip (Wp.seq (Wp.block ?_)))
    obtain ⟨K, hK⟩ := p_distB H h15 b e (hf b (List.mem_of_getElem? hb))
    refine Wp.rgn (K := K) (s' := ⟨[(0, filt f), (3, .ref 1000 0 0 0), (5, .iv (.int .u64 (mnU m (distB b e)))), (6, .iv (.int .i64 i))], [(1000, .cells e.cs)], 2088⟩) (fun n hn => rgn_quiet' rfl (by
      have e1 := hK n hn
      simp only [B.av, E.av] at e1
      generalize evalF prog n = g at e1
      simp [evalRgn, Option.map_some, evalOps, step, wants, osem, M.run_bind, M.mapL, M.run, M.ok, M.fresh, M.write, M.look, M.lift, putD, Arb.set, ev, Arb.get, keepFr, bin, intBin, strBin, mk, params, cellsM, load, obRead, fadr, fld, isl, iarr, xarr, idx, len, valid, slc, bound, store, splice, nilc, un, eqs, eq0, evalFeet, footOf, M.foot, orderOk, apartAll, apart1, clash, meets, callM, fcallM, callee, fz1, flat, flat1, flat0, flatI, Option.bind_some, putAll, M.bind, filt, hb, E.cs_12, E.cs_len, E.cs_fzC, B.enc_take, B.enc_len, B.enc_cs, B.cs_fzC, e1, mnI, mnU])) ?_
    simp only [Ex.then, Ex.inBlock]
    refine Wp.rgn (K := 0) (fun n _ => by simp [evalRgn, Option.map_some, evalOps, step, wants, osem, M.run_bind, M.mapL, M.run, M.ok, M.fresh, M.write, M.look, M.lift, putD, Arb.set, ev, Arb.get, keepFr, bin, intBin, strBin, mk, params, cellsM, load, obRead, fadr, fld, isl, iarr, xarr, idx, len, valid, slc, bound, store, splice, nilc, un, eqs, eq0, evalFeet, footOf, M.foot, orderOk, apartAll, apart1, clash, meets, callM, fcallM, callee, fz1, fzC, fz, flat, flat1, flat0, flatI, Option.bind_some, putAll, M.bind]; rfl) ?_
    exact ⟨by simp [again, keepFr, get, nrm_iv, nrm_ref_cells, nrmO, E.cs_nrm, filt, wrap_succ hi hl], trivial⟩
  · intro hg
    rw [List.take_length]
    refine Wp.seq (Wp.seq ?_)
    refine Wp.rgn (K := 0) (fun n _ => by simp [evalRgn, Option.map_some, evalOps, step, wants, osem, M.run_bind, M.mapL, M.run, M.ok, M.fresh, M.write, M.look, M.lift, putD, Arb.set, ev, Arb.get, keepFr, bin, intBin, strBin, mk, params, cellsM, load, obRead, fadr, fld, isl, iarr, xarr, idx, len, valid, slc, bound, store, splice, nilc, un, eqs, eq0, evalFeet, footOf, M.foot, orderOk, apartAll, apart1, clash, meets, callM, fcallM, callee, fz1, fzC, fz, flat, flat1, flat0, flatI, Option.bind_some, putAll, M.bind, filt]; rfl) ?_
    refine Wp.cond rfl (Wp.exit ?_)
    simp only [Ex.then, Ex.inBlock, if_true]
    refine Wp.seq ?_
    refine Wp.rgn (K := 0) (fun n _ => by simp [evalRgn, Option.map_some, evalOps, step, wants, osem, M.run_bind, M.mapL, M.run, M.ok, M.fresh, M.write, M.look, M.lift, putD, Arb.set, ev, Arb.get, keepFr, bin, intBin, strBin, mk, params, cellsM, load, obRead, fadr, fld, isl, iarr, xarr, idx, len, valid, slc, bound, store, splice, nilc, un, eqs, eq0, evalFeet, footOf, M.foot, orderOk, apartAll, apart1, clash, meets, callM, fcallM, callee, fz1, fzC, fz, flat, flat1, flat0, flatI, Option.bind_some, putAll, M.bind]; rfl) ?_
    exact Wp.ret rfl
end
end Arb

/-
  HOW FAR AN EVENT IS: of a merger's at most so much farther from the nearer one of both.
-/
set_option linter.unusedSimpArgs false
namespace Arb
open Go

def absd (a b : Int) : Int := if b < a then a - b else b - a
theorem apartI_eq {a b : Int} (ha : in64 a) (hb : in64 b) : apartI a b = absd a b := by
  unfold apartI absd
  unfold in64 at ha hb
  simp only [IntKind.wrap_u64]
  split <;> omega
theorem addF_eq {a b : Int} (ha : 0 ≤ a ∧ a ≤ far) (hb : 0 ≤ b ∧ b ≤ far) : addF a b = min (a + b) far := by
  unfold addF far at *
  rw [IntKind.wrap_u64]
  split <;> omega
theorem nearTo_all {n : Int} (hn : in64 n) : ∀ (l : List (Int × Int)) (m : Int), in64s l → (∀ p ∈ l, p.1 ≤ p.2) →
    nearTo n l m ≤ m ∧ (∀ p ∈ l, nearTo n l m ≤ absd p.1 n ∧ nearTo n l m ≤ absd p.2 n) ∧ (nearTo n l m = m ∨ ∃ p ∈ l, nearTo n l m = absd p.1 n ∨ nearTo n l m = absd p.2 n)
  | [], m, _, _ => ⟨Int.le_refl _, fun p hp => (by cases hp), .inl rfl⟩
  | p :: l, m, h64, hle => by
    obtain ⟨h1, h2⟩ := h64 p (List.mem_cons_self ..)
    have h3 := hle p (List.mem_cons_self ..)
    rw [nearTo, decide_eq_true h3, if_pos rfl, apartI_eq h1 hn, apartI_eq h2 hn]
    obtain ⟨k1, k2, k3⟩ := nearTo_all hn l (mnU m (mnU (absd p.1 n) (absd p.2 n))) (fun q hq => h64 q (List.mem_cons_of_mem _ hq)) fun q hq => hle q (List.mem_cons_of_mem _ hq)
    have e1 : mnU m (mnU (absd p.1 n) (absd p.2 n)) ≤ m ∧ mnU m (mnU (absd p.1 n) (absd p.2 n)) ≤ absd p.1 n ∧ mnU m (mnU (absd p.1 n) (absd p.2 n)) ≤ absd p.2 n ∧
        (mnU m (mnU (absd p.1 n) (absd p.2 n)) = m ∨ mnU m (mnU (absd p.1 n) (absd p.2 n)) = absd p.1 n ∨ mnU m (mnU (absd p.1 n) (absd p.2 n)) = absd p.2 n) := by
      unfold mnU
      split <;> split <;> omega
    refine ⟨by omega, fun q hq => ?_, ?_⟩
    · rcases List.mem_cons.1 hq with rfl | hq
      · omega
      · exact k2 q hq
    · rcases k3 with k3 | ⟨q, hq, k3⟩
      · rcases e1.2.2.2 with e | e | e
        · exact .inl (by rw [k3, e])
        · exact .inr ⟨p, List.mem_cons_self .., .inl (by rw [k3, e])⟩
        · exact .inr ⟨p, List.mem_cons_self .., .inr (by rw [k3, e])⟩
      · exact .inr ⟨q, List.mem_cons_of_mem _ hq, k3⟩

theorem hasI_iff {l : List (Int × Int)} {n : Int} : hasI l n = true ↔ inR l n := by
  simp [hasI, inR]
theorem absd_ge (a b : Int) : 0 ≤ absd a b := by unfold absd; split <;> omega

structure S.num (x : S) : Prop where
  r : in64s x.i
  le : ∀ p ∈ x.i, p.1 ≤ p.2

theorem distV_range {x : S} (hx : x.num) {v : V} (hv : in64 v.n) : 0 ≤ distV x v ∧ distV x v ≤ far := by
  unfold distV
  split
  · unfold far; omega
  · split
    · unfold far; omega
    · obtain ⟨h1, -, h3⟩ := nearTo_all hv x.i far hx.r hx.le
      refine ⟨?_, h1⟩
      rcases h3 with h3 | ⟨p, -, h3 | h3⟩
      · rw [h3]; unfold far; omega
      · rw [h3]; exact absd_ge _ _
      · rw [h3]; exact absd_ge _ _
/-- of a number: at most as far as any of its numbers -/
theorem distV_le {x : S} (hx : x.num) {v : V} (hv : in64 v.n) (hk : (v.k == 1) = true) (hr : rightV v = true) {w : Int} (hw : inR x.i w) : distV x v ≤ absd v.n w := by
  unfold distV
  split
  · exact absd_ge _ _
  · rename_i hh
    have hk' : v.k = 1 := by simpa using hk
    rw [if_neg (by rw [hr]; simp [hk'])]
    obtain ⟨p, hp, hw1, hw2⟩ := hw
    obtain ⟨-, h2, -⟩ := nearTo_all hv x.i far hx.r hx.le
    obtain ⟨k1, k2⟩ := h2 p hp
    have hno : ¬ (p.1 ≤ v.n ∧ v.n ≤ p.2) := by
      intro hin
      refine hh ?_
      have : hasI x.i v.n = true := hasI_iff.2 ⟨p, hp, hin⟩
      simp [hasV, hr, hk', this]
    unfold absd at *
    split at k1 <;> split at k2 <;> split <;> omega
/-- and as far as one of them -/
theorem distV_at {x : S} (hx : x.num) {v : V} (hv : in64 v.n) (hk : (v.k == 1) = true) (hr : rightV v = true) : distV x v = far ∨ ∃ w, inR x.i w ∧ distV x v = absd v.n w := by
  have hk' : v.k = 1 := by simpa using hk
  unfold distV
  split
  · rename_i hh
    have : hasI x.i v.n = true := by simpa [hasV, hr, hk'] using hh
    exact .inr ⟨v.n, hasI_iff.1 this, by simp [absd]⟩
  · rw [if_neg (by rw [hr]; simp [hk'])]
    obtain ⟨-, -, h3⟩ := nearTo_all hv x.i far hx.r hx.le
    have hc : ∀ a b, absd a b = absd b a := by intro a b; unfold absd; split <;> split <;> omega
    rcases h3 with h3 | ⟨p, hp, h3 | h3⟩
    · exact .inl h3
    · exact .inr ⟨p.1, ⟨p, hp, Int.le_refl _, hx.le p hp⟩, by rw [h3, hc]⟩
    · exact .inr ⟨p.2, ⟨p, hp, hx.le p hp, Int.le_refl _⟩, by rw [h3, hc]⟩
theorem distV_flat {x : S} {v : V} (h : ((v.k == 1) && rightV v) = false) : distV x v = if hasV x v then 0 else far := by
  unfold distV
  split
  · rfl
  · rw [if_pos]
    cases h1 : v.k == 1 with
    | false => simp [bne, h1]
    | true => rw [h1, Bool.true_and] at h; simp [h]

/-! ### two sets, and one for both -/
def Near (x y z : S) (d : Int) : Prop := ∀ v : V, in64 v.n → mnU (distV x v) (distV y v) ≤ distV z v + d
theorem or_hasV (x y : S) (v : V) (h : ∀ n, inR (orS x y).i n ↔ inR x.i n ∨ inR y.i n) : hasV (orS x y) v = (hasV x v || hasV y v) := by
  unfold hasV
  split
  · rfl
  · split
    · rfl
    · split
      · rw [Bool.eq_iff_iff, Bool.or_eq_true, hasI_iff, hasI_iff, hasI_iff]
        exact h _
      · exact or_str x y v.s
theorem or_near {x y : S} (hx : x.num) (hy : y.num) (hz : (orS x y).num) (h : ∀ n, inR (orS x y).i n ↔ inR x.i n ∨ inR y.i n) : Near x y (orS x y) 0 := by
  intro v hv
  have rx := distV_range hx hv
  have ry := distV_range hy hv
  cases hk : (v.k == 1) && rightV v with
  | false =>
    rw [distV_flat hk, distV_flat hk, distV_flat hk, or_hasV x y v h]
    cases hasV x v <;> cases hasV y v <;> decide
  | true =>
    simp only [Bool.and_eq_true] at hk
    rcases distV_at hz hv hk.1 hk.2 with e | ⟨w, hw, e⟩
    · rw [e]; unfold mnU; split <;> omega
    · rw [e]
      rcases (h w).1 hw with hw | hw
      · have := distV_le hx hv hk.1 hk.2 hw
        unfold mnU; split <;> omega
      · have := distV_le hy hv hk.1 hk.2 hw
        unfold mnU; split <;> omega
theorem hull_near {x y : S} {p q : Int × Int} (hx : x.num) (hy : y.num) (hat : x.i = [p] ∧ y.i = [q] ∨ x.i = [q] ∧ y.i = [p]) (ea : x.a = y.a) (ec : x.c = y.c) (es : x.s = y.s) (hp : p.1 ≤ p.2) (hq : q.1 ≤ q.2) (hpq : p.2 < q.1)
    (hz : S.num ⟨x.a, [(p.1, q.2)], x.c, x.s⟩) : Near x y ⟨x.a, [(p.1, q.2)], x.c, x.s⟩ ((q.1 - p.2) / 2) := by
  intro v hv
  have rx := distV_range hx hv
  have ry := distV_range hy hv
  cases hk : (v.k == 1) && rightV v with
  | false =>
    rw [distV_flat hk, distV_flat hk, distV_flat hk]
    have e1 : hasV y v = hasV x v := by
      unfold hasV
      rw [← ea, ← ec, ← es]
      cases hr : rightV v with
      | false => rfl
      | true => rw [hr, Bool.and_true] at hk; rw [hk]; rfl
    have e2 : hasV ⟨x.a, [(p.1, q.2)], x.c, x.s⟩ v = hasV x v := by
      unfold hasV
      cases hr : rightV v with
      | false => rfl
      | true => rw [hr, Bool.and_true] at hk; rw [hk]; rfl
    rw [e1, e2]
    cases hasV x v <;> simp [mnU, far] <;> omega
  | true =>
    simp only [Bool.and_eq_true] at hk
    rcases distV_at hz hv hk.1 hk.2 with e | ⟨w, hw, e⟩
    · rw [e]; unfold mnU; split <;> omega
    · rw [e]
      have hw' : p.1 ≤ w ∧ w ≤ q.2 := by
        obtain ⟨r, hr, h1, h2⟩ := hw
        simp at hr; subst hr; exact ⟨h1, h2⟩
      have key : ∀ u, (inR x.i u ∨ inR y.i u) → mnU (distV x v) (distV y v) ≤ absd v.n u := by
        intro u hu
        rcases hu with hu | hu
        · have := distV_le hx hv hk.1 hk.2 hu
          unfold mnU; split <;> omega
        · have := distV_le hy hv hk.1 hk.2 hu
          unfold mnU; split <;> omega
      have hin : ∀ u, ((p.1 ≤ u ∧ u ≤ p.2) ∨ (q.1 ≤ u ∧ u ≤ q.2)) → inR x.i u ∨ inR y.i u := by
        intro u hu
        rcases hat with ⟨h1, h2⟩ | ⟨h1, h2⟩
        · rw [h1, h2]; rcases hu with hu | hu
          · exact .inl ⟨p, by simp, hu⟩
          · exact .inr ⟨q, by simp, hu⟩
        · rw [h1, h2]; rcases hu with hu | hu
          · exact .inr ⟨p, by simp, hu⟩
          · exact .inl ⟨q, by simp, hu⟩
      by_cases h1 : w ≤ p.2
      · have := key w (hin w (.inl ⟨hw'.1, h1⟩)); omega
      · by_cases h2 : q.1 ≤ w
        · have := key w (hin w (.inr ⟨h2, hw'.2⟩)); omega
        · have k1 := key p.2 (hin p.2 (.inl ⟨hp, Int.le_refl _⟩))
          have k2 := key q.1 (hin q.1 (.inr ⟨Int.le_refl _, hq⟩))
          generalize mnU (distV x v) (distV y v) = m at k1 k2
          unfold absd at *
          split at k1 <;> split at k2 <;> split <;> omega

/-! ### boxes -/
def E.ok (e : E) : Prop := ∀ i, i < 4 → in64 (e.get i).n
def B.num (b : B) : Prop := ∀ i, i < 4 → (b.get i).num
theorem distB_eq {b : B} (hb : b.num) {e : E} (he : e.ok) : distB b e = min (distV b.s0 e.v0 + distV b.s1 e.v1 + distV b.s2 e.v2 + distV b.s3 e.v3) far := by
  have r0 := distV_range (hb 0 (by omega)) (he 0 (by omega))
  have r1 := distV_range (hb 1 (by omega)) (he 1 (by omega))
  have r2 := distV_range (hb 2 (by omega)) (he 2 (by omega))
  have r3 := distV_range (hb 3 (by omega)) (he 3 (by omega))
  simp only [B.get, E.get] at r0 r1 r2 r3
  have hfar : (0 : Int) ≤ far := by unfold far; omega
  have e1 : addF 0 (distV b.s0 e.v0) = min (0 + distV b.s0 e.v0) far := addF_eq ⟨Int.le_refl _, hfar⟩ r0
  unfold distB
  simp only [distTo, B.get, E.get]
  rw [e1, addF_eq (by omega) r1, addF_eq (by omega) r2, addF_eq (by omega) r3]
  omega
theorem distB_range {b : B} (hb : b.num) {e : E} (he : e.ok) : 0 ≤ distB b e ∧ distB b e ≤ far := by
  have r0 := distV_range (hb 0 (by omega)) (he 0 (by omega))
  have r1 := distV_range (hb 1 (by omega)) (he 1 (by omega))
  have r2 := distV_range (hb 2 (by omega)) (he 2 (by omega))
  have r3 := distV_range (hb 3 (by omega)) (he 3 (by omega))
  simp only [B.get, E.get] at r0 r1 r2 r3
  have hfar : (0 : Int) ≤ far := by unfold far; omega
  rw [distB_eq hb he]; omega
theorem near_box {x y : B} {i : Nat} (hi : i < 4) {s : S} {d : Int} (hd : 0 ≤ d) (hx : x.num) (hy : y.num) (hz : (x.put i s).num) (hs : ∀ j, j < 4 → j ≠ i → y.get j = x.get j) (hn : Near (x.get i) (y.get i) s d) {e : E} (he : e.ok) :
    mnU (distB x e) (distB y e) ≤ distB (x.put i s) e + d := by
  have q0 := distV_range (hx 0 (by omega)) (he 0 (by omega))
  have q1 := distV_range (hx 1 (by omega)) (he 1 (by omega))
  have q2 := distV_range (hx 2 (by omega)) (he 2 (by omega))
  have q3 := distV_range (hx 3 (by omega)) (he 3 (by omega))
  rw [distB_eq hx he, distB_eq hy he, distB_eq hz he]
  have h := hn (e.get i) (he i hi)
  have s0 := hs 0 (by omega)
  have s1 := hs 1 (by omega)
  have s2 := hs 2 (by omega)
  have s3 := hs 3 (by omega)
  match i, hi with
  | 0, _ =>
    have s1 := s1 (by omega); have s2 := s2 (by omega); have s3 := s3 (by omega)
    simp only [B.get, E.get, B.put] at *
    rw [s1, s2, s3]
    unfold mnU at *
    split at h <;> split <;> omega
  | 1, _ =>
    have s0 := s0 (by omega); have s2 := s2 (by omega); have s3 := s3 (by omega)
    simp only [B.get, E.get, B.put] at *
    rw [s0, s2, s3]
    unfold mnU at *
    split at h <;> split <;> omega
  | 2, _ =>
    have s0 := s0 (by omega); have s1 := s1 (by omega); have s3 := s3 (by omega)
    simp only [B.get, E.get, B.put] at *
    rw [s0, s1, s3]
    unfold mnU at *
    split at h <;> split <;> omega
  | 3, _ =>
    have s0 := s0 (by omega); have s1 := s1 (by omega); have s2 := s2 (by omega)
    simp only [B.get, E.get, B.put] at *
    rw [s0, s1, s2]
    unfold mnU at *
    split at h <;> split <;> omega
theorem hasTo_all {b : B} {e : E} : ∀ n, hasTo b e n = true → ∀ i, i < n → hasV (b.get i) (e.get i) = true
  | 0, _, i, hi => absurd hi (Nat.not_lt_zero _)
  | n + 1, h, i, hi => by
    rw [hasTo, Bool.and_eq_true] at h
    by_cases hin : i = n
    · subst hin; exact h.2
    · exact hasTo_all n h.1 i (by omega)
theorem has_dist {b : B} {e : E} (h : hasB b e = true) : distB b e = 0 := by
  unfold hasB at h
  split at h
  · cases h
  · have h0 := hasTo_all 4 h 0 (by omega)
    have h1 := hasTo_all 4 h 1 (by omega)
    have h2 := hasTo_all 4 h 2 (by omega)
    have h3 := hasTo_all 4 h 3 (by omega)
    unfold distB
    simp only [distTo, distV, h0, h1, h2, h3, if_true]
    decide
theorem distF_one {b : B} (hb : b.num) {e : E} (he : e.ok) : distF [b] e = distB b e := by
  have := distB_range hb he
  unfold distF
  simp only [distFrom, mnU]
  split <;> omega
theorem distF_le (f : List B) (e : E) : ∀ m, m ≤ far → (∀ b ∈ f, 0 ≤ distB b e) → 0 ≤ m → 0 ≤ distFrom e f m ∧ distFrom e f m ≤ far := by
  induction f with
  | nil => exact fun m hm _ h0 => ⟨h0, hm⟩
  | cons b r ih =>
    intro m hm hb h0
    have h1 := hb b (List.mem_cons_self ..)
    exact ih _ (by unfold mnU; split <;> omega) (fun c hc => hb c (List.mem_cons_of_mem _ hc)) (by unfold mnU; split <;> omega)
end Arb

/-
  A MERGER OF TWO, AND HOW FAR IT REACHES.
-/
set_option linter.unusedSimpArgs false
namespace Arb
open Go

theorem put_get (x : B) (s : S) {i j : Nat} (hi : i < 4) (hj : j < 4) : (x.put i s).get j = if j = i then s else x.get j := by
  match i, hi, j, hj with
  | 0, _, 0, _ => rfl
  | 0, _, 1, _ => rfl
  | 0, _, 2, _ => rfl
  | 0, _, 3, _ => rfl
  | 1, _, 0, _ => rfl
  | 1, _, 1, _ => rfl
  | 1, _, 2, _ => rfl
  | 1, _, 3, _ => rfl
  | 2, _, 0, _ => rfl
  | 2, _, 1, _ => rfl
  | 2, _, 2, _ => rfl
  | 2, _, 3, _ => rfl
  | 3, _, 0, _ => rfl
  | 3, _, 1, _ => rfl
  | 3, _, 2, _ => rfl
  | 3, _, 3, _ => rfl
theorem B.ok_of {b : B} (h : ∀ i, i < 4 → (b.get i).ok) : b.ok := ⟨h 0 (by omega), h 1 (by omega), h 2 (by omega), h 3 (by omega)⟩
theorem put_ok {x : B} {s : S} {i : Nat} (hi : i < 4) (hx : x.ok) (hs : s.ok) : (x.put i s).ok := B.ok_of fun j hj => by
  rw [put_get x s hi hj]; split
  · exact hs
  · exact hx.at hj
theorem put_num {x : B} {s : S} {i : Nat} (hi : i < 4) (hx : x.num) (hs : s.num) : (x.put i s).num := fun j hj => by
  rw [put_get x s hi hj]; split
  · exact hs
  · exact hx j hj
theorem right1_num {b : B} (hb : b.ok) (h : right1 b = true) : b.num := fun _ hi => ⟨(hb.at hi).ri, (right1_fine hb h hi).i.1⟩

structure Merged (a b : List B) (x y z : B) (d : Int) : Prop where
  ha : a = [x]
  hb : b = [y]
  xn : x.num
  yn : y.num
  zn : z.num
  zo : z.ok
  d0 : 0 ≤ d
  d1 : d < 9223372036854775808
  near : ∀ e : E, e.ok → mnU (distB x e) (distB y e) ≤ distB z e + d

theorem fine_ok {s : S} (h : s.fine) (h64 : in64s s.i) (hsm : smallS s = true) : s.ok := by
  simp only [smallS, Bool.and_eq_true, decide_eq_true_eq] at hsm
  exact ⟨by unfold maxLen; omega, by unfold maxLen; omega, h64, fun t ht => by have := h.len t ht; unfold maxLen; omega⟩
theorem merged_perf {a b : List B} (ha : ∀ x ∈ a, x.ok) (hb : ∀ x ∈ b, x.ok) (h : (perfF a b).2 = true) : ∃ x y z, Merged a b x y z 0 ∧ perfH a b = ([z], 0, true) := by
  obtain ⟨x, y, i, hs, hsm, -, he⟩ := perfF_some h
  obtain ⟨rfl, rfl, h1, h2, hi, -, -, hsame⟩ := sole_some hs
  have kx := ha x (by simp)
  have ky := hb y (by simp)
  have fx := right1_fine kx h1 hi
  have fy := right1_fine ky h2 hi
  obtain ⟨fz, z64, zin⟩ := or_fine fx fy (kx.at hi).ri (ky.at hi).ri
  have nz : (orS (x.get i) (y.get i)).num := ⟨z64, fz.i.1⟩
  have nx := right1_num kx h1
  have ny := right1_num ky h2
  refine ⟨x, y, x.put i (orS (x.get i) (y.get i)), ⟨rfl, rfl, nx, ny, put_num hi nx nz, put_ok hi kx (fine_ok fz z64 hsm), Int.le_refl _, by omega, fun e he => ?_⟩, by unfold perfH; rw [he]⟩
  exact near_box hi (Int.le_refl _) nx ny (put_num hi nx nz) (fun j hj hne => (sameS_iff.1 (hsame j hj hne)).symm) (or_near (nx i hi) (ny i hi) nz zin) he
theorem between_val {p q : Int × Int} (hp : in64 p.2) (hq : in64 q.1) (hb : (between p q).2 = true) : (between p q).1 = (q.1 - p.2) / 2 := by
  have hlt := (between_true hb).2.2
  unfold between at hb ⊢
  split at hb
  · cases hb
  · rename_i hc
    rw [if_neg hc]
    unfold in64 at hp hq
    simp only [IntKind.wrap_u64]
    rw [show (q.1 % 18446744073709551616 - p.2 % 18446744073709551616) % 18446744073709551616 = q.1 - p.2 by omega]
    rw [show (q.1 - p.2).tdiv 2 = (q.1 - p.2) / 2 by exact Int.tdiv_eq_ediv_of_nonneg (by omega)]
    omega
theorem merged_hull {a b : List B} (ha : ∀ x ∈ a, x.ok) (hb : ∀ x ∈ b, x.ok) (h : (hullF a b).2.2 = true) : ∃ x y z, Merged a b x y z (hullF a b).2.1 ∧ hullF a b = ([z], (hullF a b).2.1, true) := by
  obtain ⟨x, y, i, p, q, H⟩ := hullF_some h
  have hge := hullF_ge ha hb h
  obtain ⟨rfl, rfl, h1, h2, hi, -, -, hsame⟩ := sole_some H.sole
  have kx := ha x (by simp)
  have ky := hb y (by simp)
  have fx := right1_fine kx h1 hi
  have nx := right1_num kx h1
  have ny := right1_num ky h2
  obtain ⟨b1, b2, b3⟩ := between_true H.ok
  have hp64 : in64 p.1 ∧ in64 p.2 := by
    rcases H.at' with ⟨e1, e2⟩ | ⟨e1, e2⟩
    · exact (nx i hi).r p (by rw [e1]; simp)
    · exact (ny i hi).r p (by rw [e2]; simp)
  have hq64 : in64 q.1 ∧ in64 q.2 := by
    rcases H.at' with ⟨e1, e2⟩ | ⟨e1, e2⟩
    · exact (ny i hi).r q (by rw [e2]; simp)
    · exact (nx i hi).r q (by rw [e1]; simp)
  have nz : S.num ⟨(x.get i).a, [(p.1, q.2)], (x.get i).c, (x.get i).s⟩ := ⟨fun r hr => by simp at hr; subst hr; exact ⟨hp64.1, hq64.2⟩, fun r hr => by simp at hr; subst hr; simp only; omega⟩
  have oz : S.ok ⟨(x.get i).a, [(p.1, q.2)], (x.get i).c, (x.get i).s⟩ := ⟨by simp [maxLen], (kx.at hi).ls, nz.r, (kx.at hi).rs⟩
  have hd : (hullF [x] [y]).2.1 = (q.1 - p.2) / 2 := by rw [H.eq]; exact between_val hp64.2 hq64.1 H.ok
  refine ⟨x, y, x.put i ⟨(x.get i).a, [(p.1, q.2)], (x.get i).c, (x.get i).s⟩, ⟨rfl, rfl, nx, ny, put_num hi nx nz, put_ok hi kx oz, by omega, hge.2, fun e he => ?_⟩, by rw [H.eq]⟩
  refine near_box hi (by omega) nx ny (put_num hi nx nz) (fun j hj hne => (sameS_iff.1 (hsame j hj hne)).symm) ?_ he
  rw [hd]
  exact hull_near (nx i hi) (ny i hi) H.at' H.ea H.ec H.es b1 b2 b3 nz

theorem addG_eq {a b : Int} (ha : 0 ≤ a ∧ a ≤ far) (hb : 0 ≤ b ∧ b ≤ far) : addG a b = min (a + b) far := by
  unfold addG far at *
  rw [IntKind.wrap_u64, IntKind.wrap_u64]
  split <;> omega
theorem tryF_some {r : List B × Int × Bool} {sa sb slack : Int} (h : (tryF r sa sb slack).2.2 = true) : r.2.2 = true ∧ addG (mxU sa sb) r.2.1 ≤ slack ∧ addG (mxU sa sb) r.2.1 ≠ far ∧ tryF r sa sb slack = (r.1, addG (mxU sa sb) r.2.1, true) := by
  unfold tryF at h ⊢
  split at h
  · cases h
  · rename_i hc
    rw [if_neg hc]
    simp only [Bool.or_eq_true, Bool.not_eq_true', beq_iff_eq, not_or, Bool.not_eq_false, decide_eq_true_eq] at hc
    exact ⟨hc.1.1, by omega, hc.2, rfl⟩
theorem entries_some {a b : List B} (ha : ∀ x ∈ a, x.ok) (hb : ∀ x ∈ b, x.ok) {sa sb slack : Int} (h : (entriesF a b sa sb slack).2.2 = true) :
    ∃ x y z d, Merged a b x y z d ∧ entriesF a b sa sb slack = ([z], addG (mxU sa sb) d, true) ∧ addG (mxU sa sb) d ≤ slack ∧ addG (mxU sa sb) d ≠ far := by
  unfold entriesF at h ⊢
  split at h
  · rename_i hp
    rw [if_pos hp]
    obtain ⟨x, y, z, M, e⟩ := merged_perf ha hb hp
    rw [e] at h ⊢
    obtain ⟨-, h2, h3, h4⟩ := tryF_some h
    exact ⟨x, y, z, 0, M, h4, h2, h3⟩
  · rename_i hp
    rw [if_neg hp]
    split at h
    · rename_i hh
      rw [if_pos hh]
      obtain ⟨x, y, z, M, e⟩ := merged_hull ha hb hh
      rw [e] at h ⊢
      obtain ⟨-, h2, h3, h4⟩ := tryF_some h
      exact ⟨x, y, z, _, M, h4, h2, h3⟩
    · cases h
theorem tryF_no {r : List B × Int × Bool} {sa sb slack : Int} (h : (tryF r sa sb slack).2.2 = false) : tryF r sa sb slack = ([], 0, false) := by
  unfold tryF at h ⊢
  split at h
  · rename_i hc; rw [if_pos hc]
  · cases h
theorem entries_no {a b : List B} {sa sb slack : Int} (h : (entriesF a b sa sb slack).2.2 = false) : entriesF a b sa sb slack = ([], 0, false) := by
  unfold entriesF at h ⊢
  split at h
  · rename_i hp; rw [if_pos hp]; exact tryF_no h
  · rename_i hp
    rw [if_neg hp]
    split at h
    · rename_i hh; rw [if_pos hh]; exact tryF_no h
    · rename_i hh; rw [if_neg hh]

theorem Merged.has {a b : List B} {x y z : B} {d : Int} (M : Merged a b x y z d) {e : E} (he : e.ok) (h : hasF [z] e = true) : mnU (distF a e) (distF b e) ≤ d := by
  have hz : hasB z e = true := by simpa [hasF] using h
  have := M.near e he
  rw [has_dist hz] at this
  rw [M.ha, M.hb, distF_one M.xn he, distF_one M.yn he]
  omega
/-- the law's two sentences -/
theorem slack_law {a b : List B} (ha : ∀ x ∈ a, x.ok) (hb : ∀ x ∈ b, x.ok) {e : E} (he : e.ok) (slack : Int) :
    ((hullF a b).2.2 && hasF (hullF a b).1 e && decide ((hullF a b).2.1 < mnU (distF a e) (distF b e))) = false ∧
    (!(entriesF a b 0 0 slack).2.2 || (decide ((entriesF a b 0 0 slack).2.1 ≤ slack) && (!hasF (entriesF a b 0 0 slack).1 e || decide (mnU (distF a e) (distF b e) ≤ (entriesF a b 0 0 slack).2.1)))) = true := by
  refine ⟨?_, ?_⟩
  · cases h : (hullF a b).2.2 with
    | false => rfl
    | true =>
      obtain ⟨x, y, z, M, e1⟩ := merged_hull ha hb h
      rw [e1]
      simp only [Bool.true_and, Bool.and_eq_false_iff, decide_eq_false_iff_not]
      cases hh : hasF [z] e with
      | false => exact .inl rfl
      | true => right; have := M.has he hh; omega
  · cases h : (entriesF a b 0 0 slack).2.2 with
    | false => rfl
    | true =>
      obtain ⟨x, y, z, d, M, e1, e2, e3⟩ := entries_some ha hb h
      rw [e1]
      have hm : mxU 0 0 = 0 := by decide
      rw [hm] at e2 e3 ⊢
      have hd : addG 0 d = d := by
        have := M.d0
        have := M.d1
        exact addG_zero (by omega) (by omega)
      rw [hd] at e2 ⊢
      simp only [Bool.not_true, Bool.false_or, Bool.and_eq_true, decide_eq_true_eq, Bool.or_eq_true, Bool.not_eq_true']
      refine ⟨e2, ?_⟩
      cases hh : hasF [z] e with
      | false => exact .inl rfl
      | true => exact .inr (M.has he hh)
theorem mn3 (a b c : Int) : mnU (mnU a b) c ≤ a ∧ mnU (mnU a b) c ≤ b ∧ mnU (mnU a b) c ≤ c := by
  unfold mnU; split <;> split <;> omega
theorem three_law {a b c : List B} (ha : ∀ x ∈ a, x.ok) (hb : ∀ x ∈ b, x.ok) (hc : ∀ x ∈ c, x.ok) {e : E} (he : e.ok) {slack : Int} (h1 : (entriesF a b 0 0 slack).2.2 = true) :
    (entriesF (entriesF a b 0 0 slack).1 c (entriesF a b 0 0 slack).2.1 0 slack).2.2 = true →
    (!hasF (entriesF (entriesF a b 0 0 slack).1 c (entriesF a b 0 0 slack).2.1 0 slack).1 e || (decide (mnU (mnU (distF a e) (distF b e)) (distF c e) ≤ (entriesF (entriesF a b 0 0 slack).1 c (entriesF a b 0 0 slack).2.1 0 slack).2.1) &&
      decide ((entriesF (entriesF a b 0 0 slack).1 c (entriesF a b 0 0 slack).2.1 0 slack).2.1 ≤ slack))) = true := by
  obtain ⟨x, y, z, d, M, e1, e2, e3⟩ := entries_some ha hb h1
  rw [e1]
  have hm : mxU 0 0 = 0 := by decide
  rw [hm] at e2 e3 ⊢
  have m0 := M.d0
  have m1 := M.d1
  rw [addG_zero (by omega) (by omega)] at e2 e3 ⊢
  intro h2
  obtain ⟨z', y', w, d', M', k1, k2, k3⟩ := entries_some (fun q hq => by rw [List.mem_singleton] at hq; subst hq; exact M.zo) hc h2
  simp only at k1 k2 k3 ⊢
  rw [k1]
  obtain rfl : z = z' := by have := M'.ha; simpa using this
  have hm2 : mxU d 0 = d := by unfold mxU; split <;> omega
  rw [hm2] at k2 k3 ⊢
  have n0 := M'.d0
  have n1 := M'.d1
  have hadd : addG d d' = min (d + d') far := addG_eq ⟨by omega, by unfold far; omega⟩ ⟨by omega, by unfold far; omega⟩
  have hadd2 : addG d d' = d + d' := by rw [hadd] at k3 ⊢; omega
  rw [hadd2] at k2 ⊢
  simp only [Bool.and_eq_true, decide_eq_true_eq, Bool.or_eq_true, Bool.not_eq_true']
  cases hh : hasF [w] e with
  | false => exact .inl rfl
  | true =>
    right
    refine ⟨?_, k2⟩
    have hm := M'.has he hh
    rw [distF_one M.zn he] at hm
    have near := M.near e he
    rw [← distF_one M.xn he, ← distF_one M.yn he, ← M.ha, ← M.hb] at near
    have h3 := mn3 (distF a e) (distF b e) (distF c e)
    have hmc : mnU (distB z e) (distF c e) = distB z e ∨ mnU (distB z e) (distF c e) = distF c e := by unfold mnU; split <;> simp
    have hmab : mnU (distF a e) (distF b e) = distF a e ∨ mnU (distF a e) (distF b e) = distF b e := by unfold mnU; split <;> simp
    rcases hmc with hmc | hmc <;> rcases hmab with hmab | hmab <;> omega
end Arb

/-
  MergeSlack, MergeThree: THE WALKS.
-/
set_option linter.unusedSimpArgs false
namespace Arb
open Go

theorem fit_val {xs : List IV} (h : FitsL shValue xs) : ∃ v : V, xs = v.enc ∧ in64 v.n := by
  obtain ⟨a, _, rfl, ha, h⟩ := h.one
  obtain ⟨b, _, rfl, hb, h⟩ := h.one
  obtain ⟨c, _, rfl, hc, h⟩ := h.one
  obtain rfl := h.none
  obtain ⟨k, rfl, _⟩ := fit_int ha
  obtain ⟨n, rfl, hn⟩ := fit_int hb
  obtain ⟨s, rfl, _⟩ := fit_str hc
  exact ⟨⟨k, n, s⟩, rfl, wf64 hn⟩
theorem arg_event {x : AV} (h : ArgIs true shEvent x) : ∃ e : E, x = e.av ∧ e.ok := by
  obtain ⟨xs, h, rfl⟩ := h
  obtain ⟨_, r1, rfl, h0, h⟩ := FitsL.split h
  obtain ⟨_, r2, rfl, h1, h⟩ := FitsL.split h
  obtain ⟨_, _, rfl, h2, h3⟩ := FitsL.split h
  obtain ⟨v0, rfl, k0⟩ := fit_val h0
  obtain ⟨v1, rfl, k1⟩ := fit_val h1
  obtain ⟨v2, rfl, k2⟩ := fit_val h2
  obtain ⟨v3, rfl, k3⟩ := fit_val h3
  refine ⟨⟨v0, v1, v2, v3⟩, rfl, fun i hi => ?_⟩
  match i, hi with
  | 0, _ => exact k0
  | 1, _ => exact k1
  | 2, _ => exact k2
  | 3, _ => exact k3
theorem wfu {n : Int} (h : (Lit.int .u64 n).wf = true) : 0 ≤ n ∧ n ≤ far := by
  simp only [Lit.wf, Bool.and_eq_true, decide_eq_true_eq] at h
  rw [show IntKind.u64.min = 0 by decide, show IntKind.u64.max = 18446744073709551615 by decide] at h
  exact h
theorem arg_u64 {x : AV} (h : ArgIs false [.int .u64] x) : ∃ n, x = .iv (.int .u64 n) ∧ 0 ≤ n ∧ n ≤ far := by
  obtain ⟨xs, h, y, rfl, rfl⟩ := h
  obtain ⟨n, rfl, hn⟩ := fit_int h.1
  exact ⟨n, rfl, wfu hn⟩
theorem entriesF_fits {a b : List B} (ha : ∀ x ∈ a, x.ok) (hb : ∀ x ∈ b, x.ok) (sa sb slack : Int) : (entriesF a b sa sb slack).1.length ≤ maxLen ∧ ∀ z ∈ (entriesF a b sa sb slack).1, z.ok := by
  cases h : (entriesF a b sa sb slack).2.2 with
  | false => rw [entries_no h]; exact ⟨Nat.zero_le _, fun z h => by cases h⟩
  | true =>
    obtain ⟨x, y, z, d, M, e1, -, -⟩ := entries_some ha hb h
    rw [e1]
    exact ⟨by simp [maxLen], fun q hq => by rw [List.mem_singleton] at hq; subst hq; exact M.zo⟩

structure Lib8 (prog : Nat → Option IFn) : Prop extends Lib7 prog, Dist prog where
  h6 : prog 6 = some F6
  h8 : prog 8 = some F8
  h15 : prog 15 = some F15
  h20 : prog 20 = some F20
  h34 : prog 34 = some F34

section
variable {prog : Nat → Option IFn}

set_option maxHeartbeats 8000000 in
theorem p_slack (H : Lib8 prog) (hA : Ans prog 4 [] (.iv (.bool true))) (h0 : prog 0 = some F0) (a b : List B) (e : E) (slack : Int) (la : a.length ≤ maxLen) (lb : b.length ≤ maxLen) (ha : ∀ x ∈ a, x.ok) (hb : ∀ x ∈ b, x.ok) (he : e.ok) :
    ∃ p : AV × Hp, p.1 = .iv (.bool true) ∧ Ev prog 0 [filt a, filt b, e.av, .iv (.int .u64 slack)] [] p := by
  obtain ⟨KA, hKA⟩ := hA
  obtain ⟨K1, hK1⟩ := p_few6 H.h27 H.h14 H.h5 a la
  obtain ⟨K2, hK2⟩ := p_few6 H.h27 H.h14 H.h5 b lb
  obtain ⟨K3, hK3⟩ := p_distF H.toDist H.h15 H.h6 a e la (fun x h => (ha x h).fits)
  obtain ⟨K4, hK4⟩ := p_distF H.toDist H.h15 H.h6 b e lb (fun x h => (hb x h).fits)
  obtain ⟨K5, hK5⟩ := p_hull H.toLib5 a b (fun x h => (ha x h).fits) (fun x h => (hb x h).fits)
  obtain ⟨K7, hK7⟩ := p_entries H.toLib6 a b (fun x h => (ha x h).fits) (fun x h => (hb x h).fits) 0 0 0 0 slack
  obtain ⟨lg, hg⟩ := hullF_fits (a := a) (b := b) (fun x h => (ha x h).fits)
  obtain ⟨lx, hx⟩ := entriesF_fits ha hb 0 0 slack
  obtain ⟨law1, law2⟩ := slack_law ha hb he slack
  generalize hullF a b = g at hK5 lg hg law1
  generalize entriesF a b 0 0 slack = x at hK7 lx hx law2
  generalize distF a e = da at hK3 law1 law2
  generalize distF b e = db at hK4 law1 law2
  obtain ⟨K6, hK6⟩ := p_hasF H.toHas3 H.h34 H.h20 H.h8 g.1 e lg hg
  obtain ⟨K8, hK8⟩ := p_hasF H.toHas3 H.h34 H.h20 H.h8 x.1 e lx (fun z h => (hx z h).fits)
  refine Ev.ofx h0 rfl rfl _ (Wp.seq ?_)
  refine Wp.rgn (K := 0) (s' := ⟨[(0, filt a), (1, filt b), (3, .iv (.int .u64 slack)), (6, .ref 1000 0 0 0)], [(1000, .cells e.cs)], 1128⟩) (fun n _ => by simp [evalRgn, Option.map_some, evalOps, step, wants, osem, M.run_bind, M.mapL, M.run, M.ok, M.fresh, M.write, M.look, M.lift, putD, Arb.set, ev, Arb.get, keepFr, bin, intBin, strBin, mk, params, cellsM, load, obRead, fadr, fld, isl, iarr, xarr, idx, len, valid, slc, bound, store, splice, nilc, un, eqs, eq0, evalFeet, footOf, M.foot, orderOk, apartAll, apart1, clash, meets, callM, fcallM, callee, fz1, flat, flat1, flat0, flatI, Option.bind_some, putAll, M.bind, E.av, E.cs_nilc]) ?_
  refine Wp.seq (Wp.seq ?_)
  refine Wp.rgn (K := max KA (max K1 K2)) (s' := ⟨[(0, filt a), (1, filt b), (3, .iv (.int .u64 slack)), (6, .ref 1000 0 0 0), (26, .iv (.bool (!few a || !few b)))], [(1000, .cells e.cs)], 1896⟩) (fun n hn => by
    have e0 := hKA n (by omega)
    have e1 := hK1 n (by omega)
    have e2 := hK2 n (by omega)
    simp only [filt] at e1 e2
    generalize evalF prog n = g at e0 e1 e2
    cases h1 : few a <;> rw [h1] at e1 <;> simp [evalRgn, Option.map_some, evalOps, step, wants, osem, M.run_bind, M.mapL, M.run, M.ok, M.fresh, M.write, M.look, M.lift, putD, Arb.set, ev, Arb.get, keepFr, bin, intBin, strBin, mk, params, cellsM, load, obRead, fadr, fld, isl, iarr, xarr, idx, len, valid, slc, bound, store, splice, nilc, un, eqs, eq0, evalFeet, footOf, M.foot, orderOk, apartAll, apart1, clash, meets, callM, fcallM, callee, fz1, fzC, fz, flat, flat1, flat0, flatI, Option.bind_some, putAll, M.bind, filt, e0, e1, e2]) ?_
  refine Wp.cond rfl ?_
  cases hc : !few a || !few b with
  | true =>
    refine Wp.seq ?_
    refine Wp.rgn (K := KA) (s' := ⟨[(8, .iv (.bool true))], [(1000, .cells e.cs)], 2024⟩) (fun n hn => by
      have e0 := hKA n hn
      generalize evalF prog n = g at e0
      simp [evalRgn, Option.map_some, evalOps, step, wants, osem, M.run_bind, M.mapL, M.run, M.ok, M.fresh, M.write, M.look, M.lift, putD, Arb.set, ev, Arb.get, keepFr, bin, intBin, strBin, mk, params, cellsM, load, obRead, fadr, fld, isl, iarr, xarr, idx, len, valid, slc, bound, store, splice, nilc, un, eqs, eq0, evalFeet, footOf, M.foot, orderOk, apartAll, apart1, clash, meets, callM, fcallM, callee, fz1, fzC, fz, flat, flat1, flat0, flatI, Option.bind_some, putAll, M.bind, e0]) ?_
    exact Wp.ret ⟨(.iv (.bool true), [(1000, .cells e.cs)]), rfl, rfl⟩
  | false =>
    refine Wp.skip (Wp.seq ?_)
    refine Wp.rgn (K := max K3 K4) (s' := ⟨[(0, filt a), (1, filt b), (3, .iv (.int .u64 slack)), (6, .ref 1000 0 0 0), (9, .iv (.int .u64 (mnU da db)))], [(1000, .cells e.cs)], 2408⟩) (fun n hn => rgn_quiet' rfl (by
      have e0 := hK3 n (by omega)
      have e1 := hK4 n (by omega)
      simp only [filt, E.av] at e0 e1
      generalize evalF prog n = g at e0 e1
      simp [evalRgn, Option.map_some, evalOps, step, wants, osem, M.run_bind, M.mapL, M.run, M.ok, M.fresh, M.write, M.look, M.lift, putD, Arb.set, ev, Arb.get, keepFr, bin, intBin, strBin, mk, params, cellsM, load, obRead, fadr, fld, isl, iarr, xarr, idx, len, valid, slc, bound, store, splice, nilc, un, eqs, eq0, evalFeet, footOf, M.foot, orderOk, apartAll, apart1, clash, meets, callM, fcallM, callee, fz1, flat, flat1, flat0, flatI, Option.bind_some, putAll, M.bind, fzC_sl, filt, e0, e1, E.cs_12, E.cs_len, E.cs_fzC, mnI, mnU])) ?_
    refine Wp.seq ?_
    refine Wp.rgn (K := K5) (s' := ⟨[(0, filt a), (1, filt b), (3, .iv (.int .u64 slack)), (6, .ref 1000 0 0 0), (9, .iv (.int .u64 (mnU da db))), (10, filt g.1), (11, .iv (.int .u64 g.2.1)), (12, .iv (.bool g.2.2))], [(1000, .cells e.cs)], 3048⟩) (fun n hn => by
      have e0 := hK5 n hn
      simp only [filt] at e0
      generalize evalF prog n = g at e0
      simp [evalRgn, Option.map_some, evalOps, step, wants, osem, M.run_bind, M.mapL, M.run, M.ok, M.fresh, M.write, M.look, M.lift, putD, Arb.set, ev, Arb.get, keepFr, bin, intBin, strBin, mk, params, cellsM, load, obRead, fadr, fld, isl, iarr, xarr, idx, len, valid, slc, bound, store, splice, nilc, un, eqs, eq0, evalFeet, footOf, M.foot, orderOk, apartAll, apart1, clash, meets, callM, fcallM, callee, fz1, fzC, fz, flat, flat1, flat0, flatI, Option.bind_some, putAll, M.bind, filt, e0]) ?_
    refine Wp.seq (Wp.seq ?_)
    refine Wp.rgn (K := K6) (s' := ⟨[(0, filt a), (1, filt b), (3, .iv (.int .u64 slack)), (6, .ref 1000 0 0 0), (9, .iv (.int .u64 (mnU da db))), (52, .iv (.bool (g.2.2 && hasF g.1 e && decide (g.2.1 < mnU da db))))], [(1000, .cells e.cs)], 3752⟩) (fun n hn => by
      have e0 := hK6 n hn
      simp only [filt, E.av] at e0
      generalize evalF prog n = gg at e0
      cases h1 : g.2.2 with
      | false => simp [evalRgn, Option.map_some, evalOps, step, wants, osem, M.run_bind, M.mapL, M.run, M.ok, M.fresh, M.write, M.look, M.lift, putD, Arb.set, ev, Arb.get, keepFr, bin, intBin, strBin, mk, params, cellsM, load, obRead, fadr, fld, isl, iarr, xarr, idx, len, valid, slc, bound, store, splice, nilc, un, eqs, eq0, evalFeet, footOf, M.foot, orderOk, apartAll, apart1, clash, meets, callM, fcallM, callee, fz1, flat, flat1, flat0, flatI, Option.bind_some, putAll, M.bind, filt, E.cs_12, E.cs_len, E.cs_fzC, h1]
      | true => cases h2 : hasF g.1 e <;> rw [h2] at e0 <;> simp [evalRgn, Option.map_some, evalOps, step, wants, osem, M.run_bind, M.mapL, M.run, M.ok, M.fresh, M.write, M.look, M.lift, putD, Arb.set, ev, Arb.get, keepFr, bin, intBin, strBin, mk, params, cellsM, load, obRead, fadr, fld, isl, iarr, xarr, idx, len, valid, slc, bound, store, splice, nilc, un, eqs, eq0, evalFeet, footOf, M.foot, orderOk, apartAll, apart1, clash, meets, callM, fcallM, callee, fz1, flat, flat1, flat0, flatI, Option.bind_some, putAll, M.bind, fzC_sl, filt, e0, E.cs_12, E.cs_len, E.cs_fzC, h1]) ?_
    rw [law1]
    refine Wp.cond rfl (Wp.skip (Wp.seq ?_))
    refine Wp.rgn (K := K7) (s' := ⟨[(3, .iv (.int .u64 slack)), (6, .ref 1000 0 0 0), (9, .iv (.int .u64 (mnU da db))), (13, .ref 4328 0 0 0), (14, .iv (.bool x.2.2))], [(1000, .cells e.cs), (4330, .buf 0 16 []), (4328, .cells [.iv (.int .i64 0), filt x.1, .iv (.int .u64 x.2.1)])], 4520⟩) (fun n hn => by
      have e0 := hK7 n hn
      simp only [entry, List.map_cons, List.map_nil] at e0
      generalize evalF prog n = g at e0
      simp [evalRgn, Option.map_some, evalOps, step, wants, osem, M.run_bind, M.mapL, M.run, M.ok, M.fresh, M.write, M.look, M.lift, putD, Arb.set, ev, Arb.get, keepFr, bin, intBin, strBin, mk, params, cellsM, load, obRead, fadr, fld, isl, iarr, xarr, idx, len, valid, slc, bound, store, splice, nilc, un, eqs, eq0, evalFeet, footOf, M.foot, orderOk, apartAll, apart1, clash, meets, callM, fcallM, callee, fz1, fzC, fz, flat, flat1, flat0, flatI, Option.bind_some, putAll, M.bind, filt, e0]) ?_
    refine Wp.seq ?_
    refine Wp.rgn (K := K8) (s' := ⟨[(8, .iv (.bool (!x.2.2 || (decide (x.2.1 ≤ slack) && (!hasF x.1 e || decide (mnU da db ≤ x.2.1))))))], [(1000, .cells e.cs), (4330, .buf 0 16 []), (4328, .cells [.iv (.int .i64 0), filt x.1, .iv (.int .u64 x.2.1)])], 5928⟩) (fun n hn => by
      have e0 := hK8 n hn
      simp only [filt, E.av] at e0
      generalize evalF prog n = gg at e0
      cases h1 : x.2.2 with
      | false => simp [evalRgn, Option.map_some, evalOps, step, wants, osem, M.run_bind, M.mapL, M.run, M.ok, M.fresh, M.write, M.look, M.lift, putD, Arb.set, ev, Arb.get, keepFr, bin, intBin, strBin, mk, params, cellsM, load, obRead, fadr, fld, isl, iarr, xarr, idx, len, valid, slc, bound, store, splice, nilc, un, eqs, eq0, evalFeet, footOf, M.foot, orderOk, apartAll, apart1, clash, meets, callM, fcallM, callee, fz1, flat, flat1, flat0, flatI, Option.bind_some, putAll, M.bind, filt, E.cs_12, E.cs_len, E.cs_fzC, h1]
      | true =>
        cases h2 : decide (x.2.1 ≤ slack) with
        | false => simp [evalRgn, Option.map_some, evalOps, step, wants, osem, M.run_bind, M.mapL, M.run, M.ok, M.fresh, M.write, M.look, M.lift, putD, Arb.set, ev, Arb.get, keepFr, bin, intBin, strBin, mk, params, cellsM, load, obRead, fadr, fld, isl, iarr, xarr, idx, len, valid, slc, bound, store, splice, nilc, un, eqs, eq0, evalFeet, footOf, M.foot, orderOk, apartAll, apart1, clash, meets, callM, fcallM, callee, fz1, flat, flat1, flat0, flatI, Option.bind_some, putAll, M.bind, filt, E.cs_12, E.cs_len, E.cs_fzC, h1, h2]
        | true => cases h3 : hasF x.1 e <;> rw [h3] at e0 <;> simp [evalRgn, Option.map_some, evalOps, step, wants, osem, M.run_bind, M.mapL, M.run, M.ok, M.fresh, M.write, M.look, M.lift, putD, Arb.set, ev, Arb.get, keepFr, bin, intBin, strBin, mk, params, cellsM, load, obRead, fadr, fld, isl, iarr, xarr, idx, len, valid, slc, bound, store, splice, nilc, un, eqs, eq0, evalFeet, footOf, M.foot, orderOk, apartAll, apart1, clash, meets, callM, fcallM, callee, fz1, flat, flat1, flat0, flatI, Option.bind_some, putAll, M.bind, fzC_sl, filt, e0, E.cs_12, E.cs_len, E.cs_fzC, h1, h2]) ?_
    rw [law2]
    exact Wp.ret ⟨(.iv (.bool true), [(1000, .cells e.cs), (4330, .buf 0 16 []), (4328, .cells [.iv (.int .i64 0), filt x.1, .iv (.int .u64 x.2.1)])]), rfl, rfl⟩
end
end Arb

/-
  MergeThree: THE WALK.
-/
set_option linter.unusedSimpArgs false
namespace Arb
open Go

section
variable {prog : Nat → Option IFn}

set_option maxHeartbeats 8000000 in
theorem p_three (H : Lib8 prog) (hA : Ans prog 4 [] (.iv (.bool true))) (h1 : prog 1 = some F1) (a b c : List B) (e : E) (slack : Int) (la : a.length ≤ maxLen) (lb : b.length ≤ maxLen) (lc : c.length ≤ maxLen)
    (ha : ∀ x ∈ a, x.ok) (hb : ∀ x ∈ b, x.ok) (hc : ∀ x ∈ c, x.ok) (he : e.ok) :
    ∃ p : AV × Hp, p.1 = .iv (.bool true) ∧ Ev prog 1 [filt a, filt b, filt c, e.av, .iv (.int .u64 slack)] [] p := by
  obtain ⟨KA, hKA⟩ := hA
  obtain ⟨K1, hK1⟩ := p_few6 H.h27 H.h14 H.h5 a la
  obtain ⟨K2, hK2⟩ := p_few6 H.h27 H.h14 H.h5 b lb
  obtain ⟨K9, hK9⟩ := p_few6 H.h27 H.h14 H.h5 c lc
  obtain ⟨K3, hK3⟩ := p_distF H.toDist H.h15 H.h6 a e la (fun x h => (ha x h).fits)
  obtain ⟨K4, hK4⟩ := p_distF H.toDist H.h15 H.h6 b e lb (fun x h => (hb x h).fits)
  obtain ⟨K5, hK5⟩ := p_distF H.toDist H.h15 H.h6 c e lc (fun x h => (hc x h).fits)
  obtain ⟨K6, hK6⟩ := p_entries H.toLib6 a b (fun x h => (ha x h).fits) (fun x h => (hb x h).fits) 0 0 0 0 slack
  obtain ⟨lx, hx⟩ := entriesF_fits ha hb 0 0 slack
  have law := three_law ha hb hc he (slack := slack)
  generalize entriesF a b 0 0 slack = x at hK6 lx hx law
  obtain ⟨K7, hK7⟩ := p_entries H.toLib6 x.1 c (fun z h => (hx z h).fits) (fun z h => (hc z h).fits) 0 0 x.2.1 0 slack
  obtain ⟨ly, hy⟩ := entriesF_fits (fun z h => hx z h) hc x.2.1 0 slack
  generalize entriesF x.1 c x.2.1 0 slack = y at hK7 ly hy law
  generalize distF a e = da at hK3 law
  generalize distF b e = db at hK4 law
  generalize distF c e = dc at hK5 law
  obtain ⟨K8, hK8⟩ := p_hasF H.toHas3 H.h34 H.h20 H.h8 y.1 e ly (fun z h => (hy z h).fits)
  refine Ev.ofx h1 rfl rfl _ (Wp.seq ?_)
  refine Wp.rgn (K := 0) (s' := ⟨[(0, filt a), (1, filt b), (2, filt c), (4, .iv (.int .u64 slack)), (8, .ref 1000 0 0 0)], [(1000, .cells e.cs)], 1128⟩) (fun n _ => by simp [evalRgn, Option.map_some, evalOps, step, wants, osem, M.run_bind, M.mapL, M.run, M.ok, M.fresh, M.write, M.look, M.lift, putD, Arb.set, ev, Arb.get, keepFr, bin, intBin, strBin, mk, params, cellsM, load, obRead, fadr, fld, isl, iarr, xarr, idx, len, valid, slc, bound, store, splice, nilc, un, eqs, eq0, evalFeet, footOf, M.foot, orderOk, apartAll, apart1, clash, meets, callM, fcallM, callee, fz1, flat, flat1, flat0, flatI, Option.bind_some, putAll, M.bind, E.av, E.cs_nilc]) ?_
  refine Wp.seq (Wp.seq ?_)
  refine Wp.rgn (K := max KA (max K1 (max K2 K9))) (s' := ⟨[(0, filt a), (1, filt b), (2, filt c), (4, .iv (.int .u64 slack)), (8, .ref 1000 0 0 0), (32, .iv (.bool (!few a || !few b || !few c)))], [(1000, .cells e.cs)], 2216⟩) (fun n hn => by
    have e0 := hKA n (by omega)
    have e1 := hK1 n (by omega)
    have e2 := hK2 n (by omega)
    have e3 := hK9 n (by omega)
    simp only [filt] at e1 e2 e3
    generalize evalF prog n = g at e0 e1 e2 e3
    cases h1 : few a <;> rw [h1] at e1 <;> cases h2 : few b <;> rw [h2] at e2 <;> simp [evalRgn, Option.map_some, evalOps, step, wants, osem, M.run_bind, M.mapL, M.run, M.ok, M.fresh, M.write, M.look, M.lift, putD, Arb.set, ev, Arb.get, keepFr, bin, intBin, strBin, mk, params, cellsM, load, obRead, fadr, fld, isl, iarr, xarr, idx, len, valid, slc, bound, store, splice, nilc, un, eqs, eq0, evalFeet, footOf, M.foot, orderOk, apartAll, apart1, clash, meets, callM, fcallM, callee, fz1, fzC, fz, flat, flat1, flat0, flatI, Option.bind_some, putAll, M.bind, filt, e0, e1, e2, e3]) ?_
  refine Wp.cond rfl ?_
  cases hcf : !few a || !few b || !few c with
  | true =>
    refine Wp.seq ?_
    refine Wp.rgn (K := KA) (s' := ⟨[(10, .iv (.bool true))], [(1000, .cells e.cs)], 2344⟩) (fun n hn => by
      have e0 := hKA n hn
      generalize evalF prog n = g at e0
      simp [evalRgn, Option.map_some, evalOps, step, wants, osem, M.run_bind, M.mapL, M.run, M.ok, M.fresh, M.write, M.look, M.lift, putD, Arb.set, ev, Arb.get, keepFr, bin, intBin, strBin, mk, params, cellsM, load, obRead, fadr, fld, isl, iarr, xarr, idx, len, valid, slc, bound, store, splice, nilc, un, eqs, eq0, evalFeet, footOf, M.foot, orderOk, apartAll, apart1, clash, meets, callM, fcallM, callee, fz1, fzC, fz, flat, flat1, flat0, flatI, Option.bind_some, putAll, M.bind, e0]) ?_
    exact Wp.ret ⟨(.iv (.bool true), [(1000, .cells e.cs)]), rfl, rfl⟩
  | false =>
    refine Wp.skip (Wp.seq ?_)
    refine Wp.rgn (K := K6) (s' := ⟨[(0, filt a), (1, filt b), (2, filt c), (4, .iv (.int .u64 slack)), (8, .ref 1000 0 0 0), (11, .ref 2792 0 0 0), (12, .iv (.bool x.2.2))], [(1000, .cells e.cs), (2794, .buf 0 16 []), (2792, .cells [.iv (.int .i64 0), filt x.1, .iv (.int .u64 x.2.1)])], 2984⟩) (fun n hn => by
      have e0 := hK6 n hn
      simp only [entry, List.map_cons, List.map_nil] at e0
      generalize evalF prog n = g at e0
      simp [evalRgn, Option.map_some, evalOps, step, wants, osem, M.run_bind, M.mapL, M.run, M.ok, M.fresh, M.write, M.look, M.lift, putD, Arb.set, ev, Arb.get, keepFr, bin, intBin, strBin, mk, params, cellsM, load, obRead, fadr, fld, isl, iarr, xarr, idx, len, valid, slc, bound, store, splice, nilc, un, eqs, eq0, evalFeet, footOf, M.foot, orderOk, apartAll, apart1, clash, meets, callM, fcallM, callee, fz1, fzC, fz, flat, flat1, flat0, flatI, Option.bind_some, putAll, M.bind, filt, e0]) ?_
    refine Wp.seq ?_
    refine Wp.rgn (K := K7) (s' := ⟨[(0, filt a), (1, filt b), (2, filt c), (4, .iv (.int .u64 slack)), (8, .ref 1000 0 0 0), (12, .iv (.bool x.2.2)), (13, .ref 3496 0 0 0), (14, .iv (.bool y.2.2))], [(1000, .cells e.cs), (2794, .buf 0 16 []), (2792, .cells [.iv (.int .i64 0), filt x.1, .iv (.int .u64 x.2.1)]), (3498, .buf 0 16 []), (3496, .cells [.iv (.int .i64 0), filt y.1, .iv (.int .u64 y.2.1)])], 3688⟩) (fun n hn => by
      have e0 := hK7 n hn
      simp only [entry, List.map_cons, List.map_nil] at e0
      generalize evalF prog n = g at e0
      simp [evalRgn, Option.map_some, evalOps, step, wants, osem, M.run_bind, M.mapL, M.run, M.ok, M.fresh, M.write, M.look, M.lift, putD, Arb.set, ev, Arb.get, keepFr, bin, intBin, strBin, mk, params, cellsM, load, obRead, fadr, fld, isl, iarr, xarr, idx, len, valid, slc, bound, store, splice, nilc, un, eqs, eq0, evalFeet, footOf, M.foot, orderOk, apartAll, apart1, clash, meets, callM, fcallM, callee, fz1, fzC, fz, flat, flat1, flat0, flatI, Option.bind_some, putAll, M.bind, filt, e0]) ?_
    refine Wp.seq (Wp.seq ?_)
    refine Wp.rgn (K := 0) (s' := ⟨[(0, filt a), (1, filt b), (2, filt c), (4, .iv (.int .u64 slack)), (8, .ref 1000 0 0 0), (13, .ref 3496 0 0 0), (56, .iv (.bool (!x.2.2 || !y.2.2)))], [(1000, .cells e.cs), (2794, .buf 0 16 []), (2792, .cells [.iv (.int .i64 0), filt x.1, .iv (.int .u64 x.2.1)]), (3498, .buf 0 16 []), (3496, .cells [.iv (.int .i64 0), filt y.1, .iv (.int .u64 y.2.1)])], 4072⟩) (fun n hn => by
      cases h1 : x.2.2 <;> simp [evalRgn, Option.map_some, evalOps, step, wants, osem, M.run_bind, M.mapL, M.run, M.ok, M.fresh, M.write, M.look, M.lift, putD, Arb.set, ev, Arb.get, keepFr, bin, intBin, strBin, mk, params, cellsM, load, obRead, fadr, fld, isl, iarr, xarr, idx, len, valid, slc, bound, store, splice, nilc, un, eqs, eq0, evalFeet, footOf, M.foot, orderOk, apartAll, apart1, clash, meets, callM, fcallM, callee, fz1, fzC, fz, flat, flat1, flat0, flatI, Option.bind_some, putAll, M.bind, filt, h1]) ?_
    refine Wp.cond rfl ?_
    cases hxy : !x.2.2 || !y.2.2 with
    | true =>
      refine Wp.seq ?_
      refine Wp.rgn (K := 0) (fun n _ => by simp [evalRgn, Option.map_some, evalOps, step, wants, osem, M.run_bind, M.mapL, M.run, M.ok, M.fresh, M.write, M.look, M.lift, putD, Arb.set, ev, Arb.get, keepFr, bin, intBin, strBin, mk, params, cellsM, load, obRead, fadr, fld, isl, iarr, xarr, idx, len, valid, slc, bound, store, splice, nilc, un, eqs, eq0, evalFeet, footOf, M.foot, orderOk, apartAll, apart1, clash, meets, callM, fcallM, callee, fz1, fzC, fz, flat, flat1, flat0, flatI, Option.bind_some, putAll, M.bind]; rfl) ?_
      exact Wp.ret ⟨(.iv (.bool true), _), rfl, rfl⟩
    | false =>
      simp only [Bool.or_eq_false_iff, Bool.not_eq_false'] at hxy
      have law := law hxy.1 hxy.2
      refine Wp.skip (Wp.seq ?_)
      refine Wp.rgn (K := max K3 (max K4 K5)) (s' := ⟨[(4, .iv (.int .u64 slack)), (8, .ref 1000 0 0 0), (13, .ref 3496 0 0 0), (15, .iv (.int .u64 (mnU (mnU da db) dc)))], [(1000, .cells e.cs), (2794, .buf 0 16 []), (2792, .cells [.iv (.int .i64 0), filt x.1, .iv (.int .u64 x.2.1)]), (3498, .buf 0 16 []), (3496, .cells [.iv (.int .i64 0), filt y.1, .iv (.int .u64 y.2.1)])], 4776⟩) (fun n hn => rgn_quiet' rfl (by
        have e0 := hK3 n (by omega)
        have e1 := hK4 n (by omega)
        have e2 := hK5 n (by omega)
        simp only [filt, E.av] at e0 e1 e2
        generalize evalF prog n = g at e0 e1 e2
        simp [evalRgn, Option.map_some, evalOps, step, wants, osem, M.run_bind, M.mapL, M.run, M.ok, M.fresh, M.write, M.look, M.lift, putD, Arb.set, ev, Arb.get, keepFr, bin, intBin, strBin, mk, params, cellsM, load, obRead, fadr, fld, isl, iarr, xarr, idx, len, valid, slc, bound, store, splice, nilc, un, eqs, eq0, evalFeet, footOf, M.foot, orderOk, apartAll, apart1, clash, meets, callM, fcallM, callee, fz1, flat, flat1, flat0, flatI, Option.bind_some, putAll, M.bind, fzC_sl, filt, e0, e1, e2, E.cs_12, E.cs_len, E.cs_fzC, mnI, mnU]
        rfl)) ?_
      refine Wp.seq ?_
      generalize mnU (mnU da db) dc = d at law
      refine Wp.rgn (K := K8) (s' := ⟨[(10, .iv (.bool (!hasF y.1 e || (decide (d ≤ y.2.1) && decide (y.2.1 ≤ slack)))))], [(1000, .cells e.cs), (2794, .buf 0 16 []), (2792, .cells [.iv (.int .i64 0), filt x.1, .iv (.int .u64 x.2.1)]), (3498, .buf 0 16 []), (3496, .cells [.iv (.int .i64 0), filt y.1, .iv (.int .u64 y.2.1)])], 5928⟩) (fun n hn => by
        have e0 := hK8 n hn
        simp only [filt, E.av] at e0
        generalize evalF prog n = gg at e0
        cases h3 : hasF y.1 e with
        | false => rw [h3] at e0; simp [evalRgn, Option.map_some, evalOps, step, wants, osem, M.run_bind, M.mapL, M.run, M.ok, M.fresh, M.write, M.look, M.lift, putD, Arb.set, ev, Arb.get, keepFr, bin, intBin, strBin, mk, params, cellsM, load, obRead, fadr, fld, isl, iarr, xarr, idx, len, valid, slc, bound, store, splice, nilc, un, eqs, eq0, evalFeet, footOf, M.foot, orderOk, apartAll, apart1, clash, meets, callM, fcallM, callee, fz1, flat, flat1, flat0, flatI, Option.bind_some, putAll, M.bind, fzC_sl, filt, e0, E.cs_12, E.cs_len, E.cs_fzC]
        | true => rw [h3] at e0; cases h2 : decide (d ≤ y.2.1) <;> simp [evalRgn, Option.map_some, evalOps, step, wants, osem, M.run_bind, M.mapL, M.run, M.ok, M.fresh, M.write, M.look, M.lift, putD, Arb.set, ev, Arb.get, keepFr, bin, intBin, strBin, mk, params, cellsM, load, obRead, fadr, fld, isl, iarr, xarr, idx, len, valid, slc, bound, store, splice, nilc, un, eqs, eq0, evalFeet, footOf, M.foot, orderOk, apartAll, apart1, clash, meets, callM, fcallM, callee, fz1, flat, flat1, flat0, flatI, Option.bind_some, putAll, M.bind, fzC_sl, filt, e0, E.cs_12, E.cs_len, E.cs_fzC, h2]) ?_
      rw [law]
      exact Wp.ret ⟨(.iv (.bool true), _), rfl, rfl⟩
end
end Arb

/-
  MergeSlack, MergeThree, plain.
-/
set_option linter.unusedSimpArgs false
namespace Arb
open Go

theorem lib8 : Lib8 (get Tied.fns) := ⟨lib7, ⟨⟨rfl, rfl, rfl, rfl⟩, rfl, rfl, rfl⟩, rfl, rfl, rfl, rfl, rfl⟩
theorem mergeSlack_law {x0 x1 x2 x3 : AV} (h0 : ArgIs false shFilter x0) (h1 : ArgIs false shFilter x1) (h2 : ArgIs true shEvent x2) (h3 : ArgIs false [.int .u64] x3) : ∃ n hp', evalF (get Tied.fns) n 0 [x0, x1, x2, x3] [] = some (.iv (.bool true), hp') := by
  obtain ⟨a, rfl, la, ha⟩ := arg_filter h0
  obtain ⟨b, rfl, lb, hb⟩ := arg_filter h1
  obtain ⟨e, rfl, he⟩ := arg_event h2
  obtain ⟨s, rfl, -⟩ := arg_u64 h3
  obtain ⟨p, hp, h⟩ := p_slack lib8 awake_true rfl a b e s la lb ha hb he
  exact h.run hp
theorem mergeThree_law {x0 x1 x4 x2 x3 : AV} (h0 : ArgIs false shFilter x0) (h1 : ArgIs false shFilter x1) (h4 : ArgIs false shFilter x4) (h2 : ArgIs true shEvent x2) (h3 : ArgIs false [.int .u64] x3) : ∃ n hp', evalF (get Tied.fns) n 1 [x0, x1, x4, x2, x3] [] = some (.iv (.bool true), hp') := by
  obtain ⟨a, rfl, la, ha⟩ := arg_filter h0
  obtain ⟨b, rfl, lb, hb⟩ := arg_filter h1
  obtain ⟨c, rfl, lc, hc⟩ := arg_filter h4
  obtain ⟨e, rfl, he⟩ := arg_event h2
  obtain ⟨s, rfl, -⟩ := arg_u64 h3
  obtain ⟨p, hp, h⟩ := p_three lib8 awake_true rfl a b c e s la lb lc ha hb hc he
  exact h.run hp
end Arb
