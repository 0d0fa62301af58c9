/-
  THE FUNCTIONS THAT THE PLAIN PROOFS NAME ARE THE PROGRAM'S; awake() is true.
-/
import Derived.Test.YtiggikalagohaaaArbA
import Derived.Test.YtiggikalagohaaaArbB
import Derived.Test.YtiggikalagohaaaArbC
import Derived.Test.YtiggikalagohaaaArbD
import Derived.Test.YtiggikalagohaaaArbE
import Derived.Test.YtiggikalagohaaaArbF
set_option linter.unusedSimpArgs false
namespace Arb
open Go

theorem lib1 : Lib1 (get Tied.fns) := ⟨rfl, rfl, rfl, rfl, rfl, rfl, rfl, rfl, rfl, rfl, rfl, rfl⟩
theorem lib2 : Lib2 (get Tied.fns) := ⟨rfl, rfl, rfl, rfl, rfl, rfl, rfl, rfl, rfl, rfl, rfl, rfl, rfl⟩
theorem lib3 : Lib3 (get Tied.fns) := ⟨lib2, rfl, rfl, rfl, rfl, rfl, rfl, rfl, rfl, rfl⟩
theorem lib4 : Lib4 (get Tied.fns) := ⟨lib1, lib3, rfl, rfl, rfl⟩
theorem lib5 : Lib5 (get Tied.fns) := ⟨lib4, rfl, rfl⟩
theorem lib6 : Lib6 (get Tied.fns) := ⟨lib5, rfl, rfl, rfl, rfl⟩
theorem lib7 : Lib7 (get Tied.fns) := ⟨lib6, rfl, rfl, rfl, rfl, rfl, rfl⟩

def isT : Option AV → Bool
  | some (.iv (.bool true)) => true
  | _ => false
theorem isT_eq {x : Option AV} (h : isT x = true) : x = some (.iv (.bool true)) := by
  unfold isT at h
  split at h
  · rfl
  · cases h
theorem awake_run : isT ((evalF (get Tied.fns) 60 4 [] []).bind shut) = true := by kernel_rfl
theorem awake_true : Ans (get Tied.fns) 4 [] (.iv (.bool true)) := by
  have h := isT_eq awake_run
  cases he : evalF (get Tied.fns) 60 4 [] [] with
  | none => rw [he] at h; cases h
  | some p =>
    rw [he] at h
    exact (Ev.at he).ans h
end Arb

/-
  SORTING BY INSERTION GIVES THE SAME ELEMENTS, RISING.
-/
set_option linter.unusedSimpArgs false
namespace Arb
open Go

section
variable {α : Type} {lt : α → α → Bool}

/-- into a falling list -/
def insV (lt : α → α → Bool) (x : α) : List α → List α
  | [] => [x]
  | y :: r => if lt x y then y :: insV lt x r else x :: y :: r

theorem sink_ins (x : α) : ∀ (v rest : List α), sink lt v.length (v.reverse ++ x :: rest) = (insV lt x v).reverse ++ rest
  | [], rest => rfl
  | y :: v, rest => by
    have h1 : (v.reverse ++ y :: x :: rest)[v.length + 1]? = some x := by
      rw [List.getElem?_append_right (by simp)]; simp
    have h2 : (v.reverse ++ y :: x :: rest)[v.length]? = some y := by
      rw [List.getElem?_append_right (by simp)]; simp
    rw [show (y :: v).reverse ++ x :: rest = v.reverse ++ y :: x :: rest by simp, List.length_cons, sink, h1, h2]
    simp only [insV]
    split
    · have h3 : ((v.reverse ++ y :: x :: rest).set (v.length + 1) y).set v.length x = v.reverse ++ x :: y :: rest := by
        rw [List.set_append_right _ _ (by simp), List.set_append_right _ _ (by simp)]
        simp
      rw [h3, sink_ins x v (y :: rest)]
      simp
    · simp

theorem sinks_fold (l : List α) : ∀ k, k < l.length → sinks lt l k = ((l.take (k + 1)).foldl (fun v x => insV lt x v) []).reverse ++ l.drop (k + 1)
  | 0, h => by
    match l, h with
    | x :: r, _ => simp [sinks, insV]
  | k + 1, h => by
    rw [sinks, sinks_fold l k (by omega)]
    obtain ⟨x, hx⟩ : ∃ x, l[k + 1]? = some x := ⟨_, List.getElem?_eq_getElem h⟩
    rw [drop_cons hx, List.take_add_one (i := k + 1), hx]
    generalize hv : (l.take (k + 1)).foldl (fun v x => insV lt x v) [] = v
    have hl : v.length = k + 1 := by
      have hlen : ∀ (m v : List α), (m.foldl (fun v x => insV lt x v) v).length = v.length + m.length := by
        intro m
        induction m with
        | nil => intro v; rfl
        | cons a m ih =>
          intro v
          rw [List.foldl_cons, ih]
          have : ∀ v : List α, (insV lt a v).length = v.length + 1 := by
            intro v
            induction v with
            | nil => rfl
            | cons b v ih2 => unfold insV; split <;> simp [ih2]
          rw [this, List.length_cons]; omega
      rw [← hv, hlen, List.length_take, List.length_nil]; omega
    have := sink_ins (lt := lt) x v (l.drop (k + 1 + 1))
    rw [hl] at this
    rw [this]
    simp only [Option.toList_some, List.foldl_append, List.foldl_cons, List.foldl_nil, hv]

theorem isort_fold (l : List α) : isort lt l = (l.foldl (fun v x => insV lt x v) []).reverse := by
  by_cases h : l.length = 0
  · obtain rfl := List.eq_nil_of_length_eq_zero h
    rfl
  · rw [isort, sinks_fold l (l.length - 1) (by omega), show l.length - 1 + 1 = l.length by omega, List.take_length, List.drop_length, List.append_nil]

theorem insV_mem {x a : α} : ∀ {v : List α}, a ∈ insV lt x v ↔ a = x ∨ a ∈ v
  | [] => by simp [insV]
  | y :: v => by
    unfold insV
    split
    · simp only [List.mem_cons, insV_mem]
      constructor
      · rintro (h | h | h) <;> simp [h]
      · rintro (h | h | h) <;> simp [h]
    · simp only [List.mem_cons]
theorem foldV_mem {a : α} : ∀ (l v : List α), a ∈ l.foldl (fun v x => insV lt x v) v ↔ a ∈ l ∨ a ∈ v
  | [], v => by simp
  | x :: l, v => by
    rw [List.foldl_cons, foldV_mem l, insV_mem, List.mem_cons]
    constructor
    · rintro (h | h | h) <;> simp [h]
    · rintro ((h | h) | h) <;> simp [h]
theorem isort_mem {a : α} {l : List α} : a ∈ isort lt l ↔ a ∈ l := by rw [isort_fold, List.mem_reverse, foldV_mem]; simp

structure Weak (lt : α → α → Bool) : Prop where
  asymm : ∀ a b, lt a b = true → lt b a = false
  ntrans : ∀ a b c, lt a b = false → lt b c = false → lt a c = false

theorem insV_desc (W : Weak lt) (x : α) : ∀ {v : List α}, v.Pairwise (fun a b => lt a b = false) → (insV lt x v).Pairwise fun a b => lt a b = false
  | [], _ => by simp [insV]
  | y :: v, h => by
    rw [List.pairwise_cons] at h
    unfold insV
    split
    · rename_i hxy
      rw [List.pairwise_cons]
      refine ⟨fun b hb => ?_, insV_desc W x h.2⟩
      rcases insV_mem.1 hb with rfl | hb
      · exact W.asymm _ _ hxy
      · exact h.1 b hb
    · rename_i hxy
      have hxy : lt x y = false := by simpa using hxy
      rw [List.pairwise_cons]
      refine ⟨fun b hb => ?_, List.pairwise_cons.2 h⟩
      rcases List.mem_cons.1 hb with rfl | hb
      · exact hxy
      · exact W.ntrans _ _ _ hxy (h.1 b hb)
theorem isort_asc (W : Weak lt) (l : List α) : (isort lt l).Pairwise fun a b => lt b a = false := by
  rw [isort_fold, List.pairwise_reverse]
  have : ∀ (l v : List α), v.Pairwise (fun a b => lt a b = false) → (l.foldl (fun v x => insV lt x v) v).Pairwise fun a b => lt a b = false := by
    intro l
    induction l with
    | nil => exact fun v h => h
    | cons x l ih => exact fun v h => ih _ (insV_desc W x h)
  exact this l [] List.Pairwise.nil
end
end Arb

/-
  RANGES IN THEIR NORMAL FORM: the same numbers, and one form alone.
-/
set_option linter.unusedSimpArgs false
namespace Arb
open Go

def inR (l : List (Int × Int)) (n : Int) : Prop := ∃ p ∈ l, p.1 ≤ n ∧ n ≤ p.2
def normal (l : List (Int × Int)) : Prop := (∀ p ∈ l, p.1 ≤ p.2) ∧ l.Pairwise fun p q => p.2 + 1 < q.1

theorem inR_cons {p : Int × Int} {l : List (Int × Int)} {n : Int} : inR (p :: l) n ↔ (p.1 ≤ n ∧ n ≤ p.2) ∨ inR l n := by
  simp [inR]
theorem inR_append {a b : List (Int × Int)} {n : Int} : inR (a ++ b) n ↔ inR a n ∨ inR b n := by
  simp only [inR, List.mem_append]
  constructor
  · rintro ⟨p, h | h, hp⟩
    · exact .inl ⟨p, h, hp⟩
    · exact .inr ⟨p, h, hp⟩
  · rintro (⟨p, h, hp⟩ | ⟨p, h, hp⟩)
    · exact ⟨p, .inl h, hp⟩
    · exact ⟨p, .inr h, hp⟩
theorem inR_nil {n : Int} : ¬ inR [] n := by simp [inR]
theorem normal_tail {p : Int × Int} {l : List (Int × Int)} (h : normal (p :: l)) : normal l := ⟨fun q hq => h.1 q (List.mem_cons_of_mem _ hq), (List.pairwise_cons.1 h.2).2⟩
theorem normal_above {p : Int × Int} {l : List (Int × Int)} (h : normal (p :: l)) {n : Int} (hn : inR l n) : p.2 + 1 < n := by
  obtain ⟨q, hq, h1, h2⟩ := hn
  have := (List.pairwise_cons.1 h.2).1 q hq
  omega

theorem normal_one : ∀ {l t : List (Int × Int)}, normal l → normal t → (∀ n, inR l n ↔ inR t n) → l = t
  | [], [], _, _, _ => rfl
  | [], q :: t, _, ht, h => by
    have := ht.1 q (List.mem_cons_self ..)
    exact (inR_nil ((h q.1).2 (inR_cons.2 (.inl ⟨Int.le_refl _, this⟩)))).elim
  | p :: l, [], hl, _, h => by
    have := hl.1 p (List.mem_cons_self ..)
    exact (inR_nil ((h p.1).1 (inR_cons.2 (.inl ⟨Int.le_refl _, this⟩)))).elim
  | p :: l, q :: t, hl, ht, h => by
    have hp := hl.1 p (List.mem_cons_self ..)
    have hq := ht.1 q (List.mem_cons_self ..)
    have lo1 : q.1 ≤ p.1 := by
      rcases inR_cons.1 ((h p.1).1 (inR_cons.2 (.inl ⟨Int.le_refl _, hp⟩))) with h1 | h1
      · exact h1.1
      · have := normal_above ht h1; omega
    have lo2 : p.1 ≤ q.1 := by
      rcases inR_cons.1 ((h q.1).2 (inR_cons.2 (.inl ⟨Int.le_refl _, hq⟩))) with h1 | h1
      · exact h1.1
      · have := normal_above hl h1; omega
    have hi1 : q.2 ≤ p.2 := by
      by_cases hlt : p.2 < q.2
      · rcases inR_cons.1 ((h (p.2 + 1)).2 (inR_cons.2 (.inl ⟨by omega, by omega⟩))) with h1 | h1
        · omega
        · have := normal_above hl h1; omega
      · omega
    have hi2 : p.2 ≤ q.2 := by
      by_cases hlt : q.2 < p.2
      · rcases inR_cons.1 ((h (q.2 + 1)).1 (inR_cons.2 (.inl ⟨by omega, by omega⟩))) with h1 | h1
        · omega
        · have := normal_above ht h1; omega
      · omega
    have e : p = q := Prod.ext (by omega) (by omega)
    subst e
    rw [normal_one (normal_tail hl) (normal_tail ht) fun n => ?_]
    constructor
    · intro hn
      have := normal_above hl hn
      rcases inR_cons.1 ((h n).1 (inR_cons.2 (.inr hn))) with h1 | h1
      · omega
      · exact h1
    · intro hn
      have := normal_above ht hn
      rcases inR_cons.1 ((h n).2 (inR_cons.2 (.inr hn))) with h1 | h1
      · omega
      · exact h1

/-! ### how it is made -/
def in64s (l : List (Int × Int)) : Prop := ∀ p ∈ l, in64 p.1 ∧ in64 p.2

theorem joinB_snoc (o : List (Int × Int)) (p r : Int × Int) : joinB (o ++ [p]) r = (p.2 == 9223372036854775807 || decide (r.1 ≤ IntKind.wrap .i64 (p.2 + 1))) := by
  unfold joinB
  rw [List.length_append, List.length_singleton, Nat.add_sub_cancel, List.getElem?_append_right (Nat.le_refl _)]
  simp
theorem hiR_snoc (o : List (Int × Int)) (p r : Int × Int) : hiR (o ++ [p]) r = o ++ [(p.1, if r.2 > p.2 then r.2 else p.2)] := by
  unfold hiR
  rw [List.length_append, List.length_singleton, Nat.add_sub_cancel, List.getElem?_append_right (Nat.le_refl _), Nat.sub_self]
  simp only [List.getElem?_cons_zero]
  rw [List.set_append_right _ _ (Nat.le_refl _)]
  simp

theorem addR_step {o : List (Int × Int)} {r : Int × Int} (ho : normal o) (h64 : in64s o) (hr : in64 r.1 ∧ in64 r.2) (hlo : ∀ p ∈ o, p.1 ≤ r.1) :
    normal (addR o r) ∧ in64s (addR o r) ∧ (∀ p ∈ addR o r, p.1 ≤ r.1) ∧ ∀ n, inR (addR o r) n ↔ inR o n ∨ (r.1 ≤ n ∧ n ≤ r.2) := by
  unfold addR
  split
  · rename_i hd
    have hd := of_decide_eq_true hd
    exact ⟨ho, h64, hlo, fun n => ⟨.inl, fun h => h.elim id fun h => by omega⟩⟩
  · rename_i hd
    have hd : ¬ r.2 < r.1 := fun h => hd (decide_eq_true h)
    rcases List.eq_nil_or_concat o with rfl | ⟨o', p, rfl⟩
    · rw [if_neg (by simp [joinB])]
      refine ⟨⟨fun q hq => ?_, by simp⟩, fun q hq => ?_, fun q hq => ?_, fun n => ?_⟩
      · simp at hq; subst hq; omega
      · simp at hq; subst hq; exact hr
      · simp at hq; subst hq; omega
      · simp [inR]
    · rw [List.concat_eq_append] at *
      rw [joinB_snoc, hiR_snoc]
      have hp := ho.1 p (by simp)
      have hp64 := h64 p (by simp)
      have hplo := hlo p (by simp)
      have hpw := List.pairwise_append.1 ho.2
      unfold in64 at hp64 hr
      split
      · rename_i hj
        have hj : p.2 = 9223372036854775807 ∨ r.1 ≤ p.2 + 1 := by
          simp only [Bool.or_eq_true, beq_iff_eq, decide_eq_true_eq] at hj
          rcases hj with hj | hj
          · exact .inl hj
          · by_cases hm : p.2 = 9223372036854775807
            · exact .inl hm
            · rw [IntWalk.i64_in _ (by omega)] at hj; exact .inr hj
        refine ⟨⟨fun q hq => ?_, ?_⟩, fun q hq => ?_, fun q hq => ?_, fun n => ?_⟩
        · rcases List.mem_append.1 hq with hq | hq
          · exact ho.1 q (by simp [hq])
          · simp at hq; subst hq; simp only; split <;> omega
        · refine List.pairwise_append.2 ⟨hpw.1, by simp, fun a ha b hb => ?_⟩
          simp at hb; subst hb
          exact hpw.2.2 a ha p (by simp)
        · rcases List.mem_append.1 hq with hq | hq
          · exact h64 q (by simp [hq])
          · simp at hq; subst hq; unfold in64; simp only; split <;> omega
        · rcases List.mem_append.1 hq with hq | hq
          · exact hlo q (by simp [hq])
          · simp at hq; subst hq; exact hplo
        · rw [inR_append, inR_append, inR_cons, inR_cons]
          simp only [inR_nil, or_false]
          constructor
          · rintro (h | h)
            · exact .inl (.inl h)
            · split at h
              · by_cases hn : n ≤ p.2
                · exact .inl (.inr ⟨h.1, hn⟩)
                · exact .inr ⟨by omega, h.2⟩
              · exact .inl (.inr h)
          · rintro ((h | h) | h)
            · exact .inl h
            · refine .inr ?_; split <;> omega
            · refine .inr ?_; split <;> omega
      · rename_i hj
        have hj : p.2 + 1 < r.1 := by
          simp only [Bool.or_eq_true, beq_iff_eq, decide_eq_true_eq, not_or] at hj
          have h1 := hj.1
          have h2 := hj.2
          rw [IntWalk.i64_in _ (by omega)] at h2
          omega
        have hall : ∀ a ∈ o' ++ [p], a.2 + 1 < r.1 := by
          intro a ha
          rcases List.mem_append.1 ha with ha | ha
          · have h1 := hpw.2.2 a ha p (by simp)
            omega
          · simp at ha; subst ha; exact hj
        refine ⟨⟨fun q hq => ?_, ?_⟩, fun q hq => ?_, fun q hq => ?_, fun n => ?_⟩
        · rcases List.mem_append.1 hq with hq | hq
          · exact ho.1 q hq
          · simp at hq; subst hq; omega
        · refine List.pairwise_append.2 ⟨ho.2, by simp, fun a ha b hb => ?_⟩
          simp at hb; subst hb
          exact hall a ha
        · rcases List.mem_append.1 hq with hq | hq
          · exact h64 q hq
          · simp at hq; subst hq; exact hr
        · rcases List.mem_append.1 hq with hq | hq
          · exact hlo q hq
          · simp at hq; subst hq; omega
        · rw [inR_append, inR_cons]
          simp only [inR_nil, or_false]

theorem foldR_all : ∀ (l o : List (Int × Int)), normal o → in64s o → in64s l → l.Pairwise (fun a b => a.1 ≤ b.1) → (∀ p ∈ o, ∀ r ∈ l, p.1 ≤ r.1) →
    normal (l.foldl addR o) ∧ in64s (l.foldl addR o) ∧ ∀ n, inR (l.foldl addR o) n ↔ inR o n ∨ inR l n
  | [], o, ho, h64, _, _, _ => ⟨ho, h64, fun n => by simp [inR_nil]⟩
  | r :: l, o, ho, h64, hl, hs, hlo => by
    obtain ⟨h1, h2, h3, h4⟩ := addR_step ho h64 (hl r (List.mem_cons_self ..)) fun p hp => hlo p hp r (List.mem_cons_self ..)
    rw [List.pairwise_cons] at hs
    obtain ⟨k1, k2, k3⟩ := foldR_all l (addR o r) h1 h2 (fun p hp => hl p (List.mem_cons_of_mem _ hp)) hs.2 fun p hp q hq => Int.le_trans (h3 p hp) (hs.1 q hq)
    refine ⟨k1, k2, fun n => ?_⟩
    rw [List.foldl_cons, k3, h4, inR_cons, or_assoc]

theorem weakR : Weak ltR := by
  constructor
  · intro a b
    unfold ltR cmpI
    simp only [decide_eq_true_eq, decide_eq_false_iff_not]
    split <;> split <;> (try split) <;> omega
  · intro a b c
    unfold ltR cmpI
    simp only [decide_eq_false_iff_not]
    split <;> split <;> split <;> (try split) <;> (try split) <;> (try split) <;> omega
theorem ltR_false {a b : Int × Int} (h : ltR b a = false) : a.1 ≤ b.1 := by
  unfold ltR cmpI at h
  simp only [decide_eq_false_iff_not] at h
  split at h
  · omega
  · omega

theorem normR_all {l : List (Int × Int)} (hl : in64s l) : normal (normR l) ∧ in64s (normR l) ∧ ∀ n, inR (normR l) n ↔ inR l n := by
  have hm : in64s (isort ltR l) := fun p hp => hl p (isort_mem.1 hp)
  obtain ⟨h1, h2, h3⟩ := foldR_all (isort ltR l) [] ⟨fun p hp => (by cases hp), List.Pairwise.nil⟩ (fun p hp => (by cases hp)) hm ((isort_asc weakR l).imp fun h => ltR_false h) (fun p hp => (by cases hp))
  refine ⟨h1, h2, fun n => ?_⟩
  unfold normR
  rw [h3]
  simp [inR, isort_mem]
theorem normR_swap {a b : List (Int × Int)} (ha : in64s a) (hb : in64s b) : normR (a ++ b) = normR (b ++ a) := by
  have h1 : in64s (a ++ b) := fun p hp => (List.mem_append.1 hp).elim (ha p) (hb p)
  have h2 : in64s (b ++ a) := fun p hp => (List.mem_append.1 hp).elim (hb p) (ha p)
  obtain ⟨n1, -, m1⟩ := normR_all h1
  obtain ⟨n2, -, m2⟩ := normR_all h2
  refine normal_one n1 n2 fun n => ?_
  rw [m1, m2, inR_append, inR_append, or_comm]
end Arb

/-
  RISING LISTS OF STRINGS; THE UNION OF TWO SETS HAS THE VALUES OF BOTH.
-/
set_option linter.unusedSimpArgs false
namespace Arb
open Go

theorem u8_lt {a b : UInt8} : a < b ↔ a.toNat < b.toNat := UInt8.lt_iff_toNat_lt
theorem u8_eq {a b : UInt8} : a = b ↔ a.toNat = b.toNat := UInt8.toNat_inj.symm
theorem bl_cons {a b : UInt8} {x y : List UInt8} : Op.bytesLess (a :: x) (b :: y) = true ↔ a.toNat < b.toNat ∨ (a.toNat = b.toNat ∧ Op.bytesLess x y = true) := by
  simp only [Op.bytesLess, Bool.or_eq_true, decide_eq_true_eq, Bool.and_eq_true, beq_iff_eq, u8_lt, u8_eq]
theorem bl_irr : ∀ x : List UInt8, ¬ Op.bytesLess x x = true
  | [] => by simp [Op.bytesLess]
  | a :: x => by rw [bl_cons]; exact fun h => h.elim (Nat.lt_irrefl _) fun h => bl_irr x h.2
theorem bl_trans : ∀ x y z : List UInt8, Op.bytesLess x y = true → Op.bytesLess y z = true → Op.bytesLess x z = true
  | _, [], _, h, _ => by simp [Op.bytesLess] at h
  | _, _ :: _, [], _, h => by simp [Op.bytesLess] at h
  | [], _ :: _, _ :: _, _, _ => by simp [Op.bytesLess]
  | a :: x, b :: y, c :: z, h, k => by
    rw [bl_cons] at h k ⊢
    rcases h with h | ⟨h, h'⟩ <;> rcases k with k | ⟨k, k'⟩
    · exact .inl (by omega)
    · exact .inl (by omega)
    · exact .inl (by omega)
    · exact .inr ⟨by omega, bl_trans x y z h' k'⟩
theorem bl_tri : ∀ x y : List UInt8, ¬ Op.bytesLess x y = true → ¬ Op.bytesLess y x = true → x = y
  | [], [], _, _ => rfl
  | [], _ :: _, h, _ => by simp [Op.bytesLess] at h
  | _ :: _, [], _, h => by simp [Op.bytesLess] at h
  | a :: x, b :: y, h, k => by
    rw [bl_cons] at h k
    have e : a.toNat = b.toNat := by omega
    rw [u8_eq.2 e, bl_tri x y (fun h' => h (.inr ⟨e, h'⟩)) (fun h' => k (.inr ⟨e.symm, h'⟩))]

theorem sless_irr (x : ByteArray) : ¬ sless x x = true := bl_irr _
theorem sless_trans {x y z : ByteArray} (h : sless x y = true) (k : sless y z = true) : sless x z = true := bl_trans _ _ _ h k
theorem sless_tri {x y : ByteArray} (h : ¬ sless x y = true) (k : ¬ sless y x = true) : x = y := by
  have := bl_tri _ _ h k
  rw [ByteArray.toList_eq, ByteArray.toList_eq] at this
  cases x; cases y
  simp only [Array.toList_inj] at this
  rw [this]
theorem sless_asymm {x y : ByteArray} (h : sless x y = true) : ¬ sless y x = true := fun k => sless_irr x (sless_trans h k)
theorem weakT : Weak ltT := by
  constructor
  · intro a b h
    exact Bool.eq_false_iff.2 (sless_asymm h)
  · intro a b c h k
    have h := Bool.eq_false_iff.1 h
    have k := Bool.eq_false_iff.1 k
    refine Bool.eq_false_iff.2 fun hac => ?_
    by_cases hba : sless b a = true
    · exact k (sless_trans hba hac)
    · have := sless_tri h hba
      subst this
      exact k hac

def rise (l : List ByteArray) : Prop := l.Pairwise fun a b => sless a b = true
theorem rise_one : ∀ {l t : List ByteArray}, rise l → rise t → (∀ s, s ∈ l ↔ s ∈ t) → l = t
  | [], [], _, _, _ => rfl
  | [], q :: t, _, _, h => by have := (h q).2 (List.mem_cons_self ..); cases this
  | p :: l, [], _, _, h => by have := (h p).1 (List.mem_cons_self ..); cases this
  | p :: l, q :: t, hl, ht, h => by
    have hl' := List.pairwise_cons.1 hl
    have ht' := List.pairwise_cons.1 ht
    have e : p = q := by
      rcases List.mem_cons.1 ((h p).1 (List.mem_cons_self ..)) with h1 | h1
      · exact h1
      · rcases List.mem_cons.1 ((h q).2 (List.mem_cons_self ..)) with h2 | h2
        · exact h2.symm
        · exact (sless_asymm (ht'.1 p h1) (hl'.1 q h2)).elim
    subst e
    rw [rise_one hl'.2 ht'.2 fun s => ?_]
    constructor
    · intro hs
      rcases List.mem_cons.1 ((h s).1 (List.mem_cons_of_mem _ hs)) with h1 | h1
      · subst h1; exact (sless_irr _ (hl'.1 _ hs)).elim
      · exact h1
    · intro hs
      rcases List.mem_cons.1 ((h s).2 (List.mem_cons_of_mem _ hs)) with h1 | h1
      · subst h1; exact (sless_irr _ (ht'.1 _ hs)).elim
      · exact h1

theorem compTo_all {l : List ByteArray} (hs : l.Pairwise fun a b => ltT b a = false) : ∀ j, j ≤ l.length → rise (compTo l j) ∧ ∀ s, s ∈ compTo l j ↔ s ∈ l.take j
  | 0, _ => ⟨List.Pairwise.nil, fun s => by simp [compTo]⟩
  | j + 1, hj => by
    obtain ⟨h1, h2⟩ := compTo_all hs j (by omega)
    obtain ⟨x, hx⟩ : ∃ x, l[j]? = some x := ⟨_, List.getElem?_eq_getElem hj⟩
    have hxj := (List.getElem?_eq_some_iff.1 hx).2
    rw [compTo, hx, List.take_add_one, hx]
    simp only [Option.toList_some]
    have hget := List.pairwise_iff_getElem.1 hs
    split
    · rename_i hc
      refine ⟨h1, fun s => ?_⟩
      rw [h2, List.mem_append, List.mem_singleton]
      refine ⟨.inl, fun h => h.elim id fun h => ?_⟩
      subst h
      have := List.getElem?_eq_some_iff.1 hc.2
      obtain ⟨hlt, he⟩ := this
      rw [← he]
      exact List.mem_take_iff_getElem.2 ⟨j - 1, by omega, rfl⟩
    · rename_i hc
      refine ⟨List.pairwise_append.2 ⟨h1, by simp, fun a ha b hb => ?_⟩, fun s => ?_⟩
      · rw [List.mem_singleton] at hb
        subst hb
        obtain ⟨k, hk, hka⟩ := List.mem_take_iff_getElem.1 ((h2 a).1 ha)
        have hkj : k < j := by omega
        have g1 := hget k j (by omega) hj hkj
        rw [hka, hxj] at g1
        have g1 := Bool.eq_false_iff.1 g1
        refine Classical.byContradiction fun hno => ?_
        have e : a = b := sless_tri hno g1
        subst e
        refine hc ⟨by omega, ?_⟩
        rw [List.getElem?_eq_getElem (by omega), Option.some.injEq]
        by_cases hk1 : k = j - 1
        · subst hk1; exact hka
        · have g2 := Bool.eq_false_iff.1 (hget k (j - 1) (by omega) (by omega) (by omega))
          have g3 := Bool.eq_false_iff.1 (hget (j - 1) j (by omega) hj (by omega))
          rw [hka] at g2
          rw [hxj] at g3
          exact sless_tri g2 g3
      · rw [List.mem_append, List.mem_append, h2]
theorem comp_all {l : List ByteArray} (hs : l.Pairwise fun a b => ltT b a = false) : rise (comp l) ∧ ∀ s, s ∈ comp l ↔ s ∈ l := by
  have := compTo_all hs l.length (Nat.le_refl _)
  rw [List.take_length] at this
  exact this
theorem joinT_all (a b : List ByteArray) : rise (joinT a b) ∧ ∀ s, s ∈ joinT a b ↔ s ∈ a ∨ s ∈ b := by
  obtain ⟨h1, h2⟩ := comp_all (isort_asc weakT (a ++ b))
  refine ⟨h1, fun s => ?_⟩
  unfold joinT
  rw [h2, isort_mem, List.mem_append]

theorem hasT_iff {l : List ByteArray} {t : ByteArray} : hasT l t = true ↔ t ∈ l := by rw [hasT, decide_eq_true_eq, idxFrom_mem]
theorem pickS_mem {a b : List ByteArray} {i : Bool} {s : ByteArray} : s ∈ pickS a b i ↔ s ∈ a ∧ (hasT b s == i) = true := by
  unfold pickS; rw [List.mem_filter]
theorem pickS_rise {a b : List ByteArray} {i : Bool} (h : rise a) : rise (pickS a b i) := List.Pairwise.filter _ h

/-- is a string in a set? -/
def hasStr (x : S) (t : ByteArray) : Bool := hasT x.s t != x.c
theorem orT_rise {x y : S} (hx : rise x.s) (hy : rise y.s) : rise (orT x y) := by
  unfold orT
  split
  · exact pickS_rise hx
  · split
    · exact pickS_rise hx
    · split
      · exact pickS_rise hy
      · exact (joinT_all _ _).1
theorem or_str (x y : S) (t : ByteArray) : hasStr (orS x y) t = (hasStr x t || hasStr y t) := by
  have e : hasT (orT x y) t = if x.c && y.c then hasT x.s t && hasT y.s t else if x.c then hasT x.s t && !hasT y.s t else if y.c then hasT y.s t && !hasT x.s t else hasT x.s t || hasT y.s t := by
    rw [Bool.eq_iff_iff, hasT_iff]
    unfold orT
    split
    · rw [pickS_mem, Bool.and_eq_true, hasT_iff]; simp
    · split
      · rw [pickS_mem, Bool.and_eq_true, hasT_iff]; simp
      · split
        · rw [pickS_mem, Bool.and_eq_true, hasT_iff]; simp
        · rw [(joinT_all _ _).2, Bool.or_eq_true, hasT_iff, hasT_iff]
  unfold hasStr
  rw [show (orS x y).s = orT x y from rfl, show (orS x y).c = (x.c || y.c) from rfl, e]
  cases x.c <;> cases y.c <;> cases hasT x.s t <;> cases hasT y.s t <;> rfl
theorem orT_swap {x y : S} (hx : rise x.s) (hy : rise y.s) : orT x y = orT y x := by
  refine rise_one (orT_rise hx hy) (orT_rise hy hx) fun t => ?_
  rw [← hasT_iff, ← hasT_iff, ← Bool.eq_iff_iff]
  have h1 := or_str x y t
  have h2 := or_str y x t
  rw [Bool.or_comm, ← h1] at h2
  unfold hasStr at h2
  rw [show (orS x y).s = orT x y from rfl, show (orS x y).c = (x.c || y.c) from rfl, show (orS y x).s = orT y x from rfl, show (orS y x).c = (y.c || x.c) from rfl, Bool.or_comm y.c] at h2
  revert h2
  cases hasT (orT x y) t <;> cases hasT (orT y x) t <;> cases x.c <;> cases y.c <;> decide
theorem orS_swap {x y : S} (hx : rise x.s) (hy : rise y.s) (kx : in64s x.i) (ky : in64s y.i) : orS x y = orS y x := by
  unfold orS
  rw [orT_swap hx hy, normR_swap kx ky, Bool.or_comm x.a, Bool.or_comm x.c]
end Arb

/-
  RIGHT SETS; MERGERS OF TWO, WHICHEVER IS THE FIRST.
-/
set_option linter.unusedSimpArgs false
namespace Arb
open Go

theorem normal_adj : ∀ {l : List (Int × Int)}, (∀ (i : Nat) p, l[i]? = some p → p.1 ≤ p.2) → (∀ (i : Nat) p r, l[i]? = some p → l[i + 1]? = some r → p.2 + 1 < r.1) → normal l
  | [], _, _ => ⟨fun p hp => (by cases hp), List.Pairwise.nil⟩
  | p :: l, h1, h2 => by
    have ih : normal l := normal_adj (fun i q h => h1 (i + 1) q (by simpa using h)) fun i q r h h' => h2 (i + 1) q r (by simpa using h) (by simpa using h')
    refine ⟨fun q hq => ?_, List.pairwise_cons.2 ⟨fun q hq => ?_, ih.2⟩⟩
    · rcases List.mem_cons.1 hq with rfl | hq
      · exact h1 0 q rfl
      · exact ih.1 q hq
    · match l, hq, ih with
      | r :: l', hq, ih =>
        have h3 := h2 0 p r rfl rfl
        rcases List.mem_cons.1 hq with rfl | hq
        · exact h3
        · have := (List.pairwise_cons.1 ih.2).1 q hq
          have := ih.1 r (List.mem_cons_self ..)
          omega
theorem rise_adj : ∀ {l : List ByteArray}, (∀ (i : Nat) p r, l[i]? = some p → l[i + 1]? = some r → sless p r = true) → rise l
  | [], _ => List.Pairwise.nil
  | p :: l, h2 => by
    have ih : rise l := rise_adj fun i q r h h' => h2 (i + 1) q r (by simpa using h) (by simpa using h')
    refine List.pairwise_cons.2 ⟨fun q hq => ?_, ih⟩
    match l, hq, ih with
    | r :: l', hq, ih =>
      have h3 := h2 0 p r rfl rfl
      rcases List.mem_cons.1 hq with rfl | hq
      · exact h3
      · exact sless_trans h3 ((List.pairwise_cons.1 ih).1 q hq)

structure S.fine (x : S) : Prop where
  i : normal x.i
  s : rise x.s
  len : ∀ t ∈ x.s, t.size ≤ 8
theorem pair_get {α : Type} {R : α → α → Prop} {l : List α} (h : l.Pairwise R) {i : Nat} {p r : α} (hp : l[i]? = some p) (hr : l[i + 1]? = some r) : R p r := by
  obtain ⟨h1, rfl⟩ := List.getElem?_eq_some_iff.1 hp
  obtain ⟨h2, rfl⟩ := List.getElem?_eq_some_iff.1 hr
  exact List.pairwise_iff_getElem.1 h _ _ _ _ (Nat.lt_succ_self i)
theorem rightS_iff {x : S} (h64 : in64s x.i) : rightS x = true ↔ x.fine := by
  unfold rightS
  simp only [Bool.and_eq_true, List.all_eq_true, List.mem_range, Bool.not_eq_true']
  constructor
  · rintro ⟨h1, h2⟩
    have hlt : ∀ {α : Type} {l : List α} {i : Nat} {p : α}, l[i]? = some p → i < l.length := fun h => (List.getElem?_eq_some_iff.1 h).1
    refine ⟨normal_adj (fun i p hp => ?_) (fun i p r hp hr => ?_), rise_adj (fun i p r hp hr => ?_), fun t ht => ?_⟩
    · have := h1 i (hlt hp)
      cases i with
      | zero => simp only [badR, hp, decide_eq_false_iff_not] at this; omega
      | succ j =>
        obtain ⟨q, hq⟩ : ∃ q, x.i[j]? = some q := ⟨_, List.getElem?_eq_getElem (by have := hlt hp; omega)⟩
        simp only [badR, hp, hq, Bool.or_eq_false_iff, decide_eq_false_iff_not] at this
        omega
    · have := h1 (i + 1) (hlt hr)
      simp only [badR, hp, hr, Bool.or_eq_false_iff, decide_eq_false_iff_not] at this
      have h3 := h64 p (List.mem_of_getElem? hp)
      have h4 := h64 r (List.mem_of_getElem? hr)
      unfold in64 at h3 h4
      have h5 := this.2.2
      rw [IntWalk.i64_in _ (by omega)] at h5
      have h5 : r.1 - 1 ≠ p.2 := by simpa using h5
      omega
    · have := h2 (i + 1) (hlt hr)
      simp only [badT, hp, hr, Bool.or_eq_false_iff, Bool.not_eq_false'] at this
      exact this.2
    · obtain ⟨i, hi, he⟩ := List.getElem_of_mem ht
      have ht' : x.s[i]? = some t := by rw [List.getElem?_eq_getElem hi, he]
      have := h2 i hi
      cases i with
      | zero => simp only [badT, ht', decide_eq_false_iff_not] at this; omega
      | succ j =>
        obtain ⟨q, hq⟩ : ∃ q, x.s[j]? = some q := ⟨_, List.getElem?_eq_getElem (by omega)⟩
        simp only [badT, ht', hq, Bool.or_eq_false_iff, decide_eq_false_iff_not] at this
        omega
  · rintro ⟨hn, hr, hl⟩
    refine ⟨fun i hi => ?_, fun i hi => ?_⟩
    · obtain ⟨r, hr⟩ : ∃ q, x.i[i]? = some q := ⟨_, List.getElem?_eq_getElem hi⟩
      have h1 := hn.1 r (List.mem_of_getElem? hr)
      cases i with
      | zero => simp only [badR, hr, decide_eq_false_iff_not]; omega
      | succ j =>
        obtain ⟨q, hq⟩ : ∃ q, x.i[j]? = some q := ⟨_, List.getElem?_eq_getElem (by omega)⟩
        have h2 := pair_get hn.2 hq hr
        have h3 := h64 q (List.mem_of_getElem? hq)
        have h4 := h64 r (List.mem_of_getElem? hr)
        unfold in64 at h3 h4
        simp only [badR, hr, hq, Bool.or_eq_false_iff, decide_eq_false_iff_not]
        rw [IntWalk.i64_in _ (by omega)]
        refine ⟨by omega, by omega, ?_⟩
        simp; omega
    · obtain ⟨r, hr'⟩ : ∃ q, x.s[i]? = some q := ⟨_, List.getElem?_eq_getElem hi⟩
      have h1 := hl r (List.mem_of_getElem? hr')
      cases i with
      | zero => simp only [badT, hr', decide_eq_false_iff_not]; omega
      | succ j =>
        obtain ⟨q, hq⟩ : ∃ q, x.s[j]? = some q := ⟨_, List.getElem?_eq_getElem (by omega)⟩
        have h2 := pair_get hr hq hr'
        simp only [badT, hr', hq, Bool.or_eq_false_iff, decide_eq_false_iff_not, Bool.not_eq_false']
        exact ⟨by omega, h2⟩
theorem right1_fine {b : B} (hb : b.ok) (h : right1 b = true) {i : Nat} (hi : i < 4) : (b.get i).fine := by
  have hk := (hb.at hi).ri
  refine (rightS_iff hk).1 ?_
  simp only [right1, allB, Bool.and_eq_true] at h
  match i, hi with
  | 0, _ => exact h.1.1
  | 1, _ => exact h.1.2.1
  | 2, _ => exact h.1.2.2.1
  | 3, _ => exact h.1.2.2.2
theorem or_fine {x y : S} (hx : x.fine) (hy : y.fine) (kx : in64s x.i) (ky : in64s y.i) : (orS x y).fine ∧ in64s (orS x y).i ∧ ∀ n, inR (orS x y).i n ↔ inR x.i n ∨ inR y.i n := by
  have hk : in64s (x.i ++ y.i) := fun p hp => (List.mem_append.1 hp).elim (kx p) (ky p)
  obtain ⟨h1, h2, h3⟩ := normR_all hk
  refine ⟨⟨h1, orT_rise hx.s hy.s, fun t ht => ?_⟩, h2, fun n => by rw [← inR_append]; exact h3 n⟩
  have : t ∈ x.s ∨ t ∈ y.s := by
    replace ht : t ∈ orT x y := ht
    unfold orT at ht
    split at ht
    · exact .inl (pickS_mem.1 ht).1
    · split at ht
      · exact .inl (pickS_mem.1 ht).1
      · split at ht
        · exact .inr (pickS_mem.1 ht).1
        · exact ((joinT_all _ _).2 t).1 ht
  exact this.elim (hx.len t) (hy.len t)

/-! ### whichever is the first -/
theorem sameS_comm (x y : S) : sameS x y = sameS y x := by
  rw [Bool.eq_iff_iff, sameS_iff, sameS_iff]; exact ⟨Eq.symm, Eq.symm⟩
theorem diffTo_comm (x y : B) : ∀ n, diffTo x y n = diffTo y x n
  | 0 => rfl
  | n + 1 => by simp only [diffTo, sameS_comm (x.get n), diffTo_comm x y n]
theorem sole_swap {a b : List B} {x y : B} {i : Nat} (h : sole a b = some (x, y, i)) : sole b a = some (y, x, i) := by
  unfold sole at h ⊢
  split at h
  · rename_i x' y'
    split at h
    · rename_i hc
      simp only [Option.some.injEq, Prod.mk.injEq] at h
      obtain ⟨rfl, rfl, rfl⟩ := h
      rw [diffTo_comm, Bool.and_comm (right1 _)] at hc
      rw [if_pos hc, diffTo_comm]
    · cases h
  · cases h
theorem sole_swap_none {a b : List B} (h : sole a b = none) : sole b a = none := by
  cases h' : sole b a with
  | none => rfl
  | some q =>
    obtain ⟨y, x, i⟩ := q
    rw [sole_swap h'] at h; cases h
theorem put_same {x y : B} {i : Nat} (hi : i < 4) (h : ∀ j, j < 4 → j ≠ i → sameS (x.get j) (y.get j) = true) (s : S) : x.put i s = y.put i s := by
  have e0 : (0 : Nat) ≠ i → x.s0 = y.s0 := fun hn => sameS_iff.1 (h 0 (by omega) hn)
  have e1 : (1 : Nat) ≠ i → x.s1 = y.s1 := fun hn => sameS_iff.1 (h 1 (by omega) hn)
  have e2 : (2 : Nat) ≠ i → x.s2 = y.s2 := fun hn => sameS_iff.1 (h 2 (by omega) hn)
  have e3 : (3 : Nat) ≠ i → x.s3 = y.s3 := fun hn => sameS_iff.1 (h 3 (by omega) hn)
  match i, hi with
  | 0, _ => simp [B.put, e1, e2, e3]
  | 1, _ => simp [B.put, e0, e2, e3]
  | 2, _ => simp [B.put, e0, e1, e3]
  | 3, _ => simp [B.put, e0, e1, e2]
theorem grew_swap (x y s : S) : grew x y s = grew y x s := by
  unfold grew
  refine decide_eq_decide.2 ?_
  split <;> split <;> omega
theorem perfF_swap {a b : List B} (ha : ∀ x ∈ a, x.ok) (hb : ∀ x ∈ b, x.ok) : perfF a b = perfF b a := by
  unfold perfF
  cases h : sole a b with
  | none => rw [sole_swap_none h]
  | some q =>
    obtain ⟨x, y, i⟩ := q
    rw [sole_swap h]
    obtain ⟨rfl, rfl, h1, h2, hi, -, -, hs⟩ := sole_some h
    have kx := ha x (by simp)
    have ky := hb y (by simp)
    have fx := right1_fine kx h1 hi
    have fy := right1_fine ky h2 hi
    simp only
    rw [orS_swap fx.s fy.s (kx.at hi).ri (ky.at hi).ri, grew_swap, put_same hi hs]
theorem between_bad {p q : Int × Int} (hp : p.1 ≤ p.2) (h : q.1 ≤ p.1) : (between p q).2 = false := by
  unfold between
  rw [if_pos]
  simp only [Bool.or_eq_true, decide_eq_true_eq]
  right; right; omega
theorem hull2_bad {x : B} {s : S} {i : Nat} {p q : Int × Int} (hp : p.1 ≤ p.2) (h : q.1 ≤ p.1) : hull2 x s i p q = ([], 0, false) := by
  unfold hull2; rw [between_bad hp h]; rfl
theorem hull1_swap {x y : B} {i : Nat} (hi : i < 4) (h : ∀ j, j < 4 → j ≠ i → sameS (x.get j) (y.get j) = true) (hx : (x.get i).fine) (hy : (y.get i).fine) : hull1 x (x.get i) (y.get i) i = hull1 y (y.get i) (x.get i) i := by
  generalize hs : x.get i = s at hx
  generalize ht : y.get i = t at hy
  by_cases hn : s.i.length ≠ 1 ∨ t.i.length ≠ 1
  · rw [hull1_ne hn, hull1_ne hn.symm]
  · obtain ⟨p, hp⟩ : ∃ p, s.i = [p] := List.length_eq_one_iff.1 (by omega)
    obtain ⟨q, hq⟩ : ∃ q, t.i = [q] := List.length_eq_one_iff.1 (by omega)
    have hpp := hx.i.1 p (by rw [hp]; simp)
    have hqq := hy.i.1 q (by rw [hq]; simp)
    unfold hull1
    rw [hp, hq]
    simp only
    obtain ⟨sa, si, sc, ss⟩ := s
    obtain ⟨ta, ti, tc, ts⟩ := t
    simp only at hp hq
    subst hp hq
    by_cases hsm : sameS ⟨sa, [p], sc, ss⟩ ⟨ta, [p], tc, ts⟩ = true
    · have e := sameS_iff.1 hsm
      simp only [S.mk.injEq, true_and] at e
      obtain ⟨rfl, rfl, rfl⟩ := e
      rw [sameS_iff.2 rfl, sameS_iff.2 rfl]
      simp only [Bool.not_true, Bool.false_eq_true, if_false]
      have e2 : ∀ p' q', hull2 x ⟨sa, [p], sc, ss⟩ i p' q' = hull2 y ⟨sa, [q], sc, ss⟩ i p' q' := by
        intro p' q'
        unfold hull2
        rw [put_same hi h]
      by_cases h1 : q.1 < p.1
      · rw [decide_eq_true h1, if_pos rfl, decide_eq_false (by omega), if_neg Bool.false_ne_true, e2]
      · rw [decide_eq_false h1, if_neg Bool.false_ne_true]
        by_cases h2 : p.1 < q.1
        · rw [decide_eq_true h2, if_pos rfl, e2]
        · rw [decide_eq_false h2, if_neg Bool.false_ne_true, hull2_bad hpp (by omega), hull2_bad hqq (by omega)]
    · have hsm' : ¬ sameS ⟨ta, [q], tc, ts⟩ ⟨sa, [q], sc, ss⟩ = true := by
        intro h'
        have e := sameS_iff.1 h'
        simp only [S.mk.injEq, true_and] at e
        obtain ⟨rfl, rfl, rfl⟩ := e
        exact hsm (sameS_iff.2 rfl)
      rw [Bool.eq_false_iff.2 hsm, Bool.eq_false_iff.2 hsm']
      rfl
theorem hullF_swap {a b : List B} (ha : ∀ x ∈ a, x.ok) (hb : ∀ x ∈ b, x.ok) : hullF a b = hullF b a := by
  unfold hullF
  cases h : sole a b with
  | none => rw [sole_swap_none h]
  | some q =>
    obtain ⟨x, y, i⟩ := q
    rw [sole_swap h]
    obtain ⟨rfl, rfl, h1, h2, hi, -, -, hs⟩ := sole_some h
    exact hull1_swap hi hs (right1_fine (ha x (by simp)) h1 hi) (right1_fine (hb y (by simp)) h2 hi)
end Arb

/-
  WHAT MERGERS THERE ARE; never both.
-/
set_option linter.unusedSimpArgs false
namespace Arb
open Go

theorem perfF_some {a b : List B} (h : (perfF a b).2 = true) : ∃ x y i, sole a b = some (x, y, i) ∧ smallS (orS (x.get i) (y.get i)) = true ∧ grew (x.get i) (y.get i) (orS (x.get i) (y.get i)) = false ∧ perfF a b = ([x.put i (orS (x.get i) (y.get i))], true) := by
  cases hs : sole a b with
  | none => simp [perfF, hs] at h
  | some q =>
    obtain ⟨x, y, i⟩ := q
    refine ⟨x, y, i, rfl, ?_⟩
    unfold perfF at h ⊢
    rw [hs] at h ⊢
    simp only at h ⊢
    split at h
    · cases h
    · rename_i hc
      rw [if_neg hc]
      simp only [Bool.or_eq_true, Bool.not_eq_true', not_or, Bool.not_eq_false, Bool.not_eq_true] at hc
      exact ⟨hc.1, hc.2, rfl⟩
theorem perfF_no {a b : List B} (h : (perfF a b).2 = false) : perfF a b = ([], false) := by
  cases hs : sole a b with
  | none => simp [perfF, hs]
  | some q =>
    obtain ⟨x, y, i⟩ := q
    unfold perfF at h ⊢
    rw [hs] at h ⊢
    simp only at h ⊢
    split at h
    · rename_i hc; rw [if_pos hc]
    · cases h
theorem hull2_no {x : B} {s : S} {i : Nat} {p q : Int × Int} (h : (hull2 x s i p q).2.2 = false) : hull2 x s i p q = ([], 0, false) := by
  unfold hull2 at h ⊢
  split at h
  · rename_i hc; rw [if_pos hc]
  · cases h
theorem hullF_no {a b : List B} (h : (hullF a b).2.2 = false) : hullF a b = ([], 0, false) := by
  cases hs : sole a b with
  | none => simp [hullF, hs]
  | some q =>
    obtain ⟨x, y, i⟩ := q
    unfold hullF at h ⊢
    rw [hs] at h ⊢
    simp only at h ⊢
    unfold hull1 at h ⊢
    split
    · split at h
      · rename_i hp hq _ _ _ _ hp' hq'
        rw [hp] at hp'
        rw [hq] at hq'
        cases hp'
        cases hq'
        split at h
        · rename_i hc; rw [if_pos hc]
        · rename_i hc
          rw [if_neg hc]
          split at h
          · rename_i hd; rw [if_pos hd]; exact hull2_no h
          · rename_i hd; rw [if_neg hd]; exact hull2_no h
      · rename_i hno
        rename_i hp hq _ _
        exact (hno _ _ hp hq).elim
    · rfl
theorem hull2_some {x : B} {s : S} {i : Nat} {p q : Int × Int} (h : (hull2 x s i p q).2.2 = true) : (between p q).2 = true ∧ IntKind.wrap .i64 (p.2 + 1) ≠ q.1 ∧ hull2 x s i p q = ([x.put i ⟨s.a, [(p.1, q.2)], s.c, s.s⟩], (between p q).1, true) := by
  unfold hull2 at h ⊢
  split at h
  · cases h
  · rename_i hc
    rw [if_neg hc]
    simp only [Bool.or_eq_true, Bool.not_eq_true', beq_iff_eq, not_or, Bool.not_eq_false] at hc
    exact ⟨hc.1, hc.2, rfl⟩
/-- the hull of two boxes: p is the lower range -/
structure Hulls (a b : List B) (x y : B) (i : Nat) (p q : Int × Int) : Prop where
  sole : Arb.sole a b = some (x, y, i)
  at' : (x.get i).i = [p] ∧ (y.get i).i = [q] ∨ (x.get i).i = [q] ∧ (y.get i).i = [p]
  ea : (x.get i).a = (y.get i).a
  ec : (x.get i).c = (y.get i).c
  es : (x.get i).s = (y.get i).s
  ok : (between p q).2 = true
  far : IntKind.wrap .i64 (p.2 + 1) ≠ q.1
  eq : hullF a b = ([x.put i ⟨(x.get i).a, [(p.1, q.2)], (x.get i).c, (x.get i).s⟩], (between p q).1, true)
theorem hullF_some {a b : List B} (h : (hullF a b).2.2 = true) : ∃ x y i p q, Hulls a b x y i p q := by
  cases hs : sole a b with
  | none => simp [hullF, hs] at h
  | some q =>
    obtain ⟨x, y, i⟩ := q
    have he : hullF a b = hull1 x (x.get i) (y.get i) i := by unfold hullF; rw [hs]
    rw [he] at h
    by_cases hn : (x.get i).i.length ≠ 1 ∨ (y.get i).i.length ≠ 1
    · rw [hull1_ne hn] at h; cases h
    · obtain ⟨p, hp⟩ : ∃ p, (x.get i).i = [p] := List.length_eq_one_iff.1 (by omega)
      obtain ⟨q, hq⟩ : ∃ q, (y.get i).i = [q] := List.length_eq_one_iff.1 (by omega)
      have he2 : hull1 x (x.get i) (y.get i) i = if !sameS (x.get i) ⟨(y.get i).a, [p], (y.get i).c, (y.get i).s⟩ then ([], 0, false) else if decide (q.1 < p.1) then hull2 x (x.get i) i q p else hull2 x (x.get i) i p q := by unfold hull1; rw [hp, hq]
      rw [he2] at h he
      split at h
      · cases h
      · rename_i hc
        rw [if_neg hc] at he
        have e : x.get i = ⟨(y.get i).a, [p], (y.get i).c, (y.get i).s⟩ := sameS_iff.1 (by simpa using hc)
        split at h
        · rename_i hd
          rw [if_pos hd] at he
          obtain ⟨h1, h2, h3⟩ := hull2_some h
          exact ⟨x, y, i, q, p, hs, .inr ⟨hp, hq⟩, by rw [e], by rw [e], by rw [e], h1, h2, by rw [he, h3]⟩
        · rename_i hd
          rw [if_neg hd] at he
          obtain ⟨h1, h2, h3⟩ := hull2_some h
          exact ⟨x, y, i, p, q, hs, .inl ⟨hp, hq⟩, by rw [e], by rw [e], by rw [e], h1, h2, by rw [he, h3]⟩
theorem between_true {p q : Int × Int} (h : (between p q).2 = true) : p.1 ≤ p.2 ∧ q.1 ≤ q.2 ∧ p.2 < q.1 := by
  unfold between at h
  split at h
  · cases h
  · rename_i hc
    simp only [Bool.or_eq_true, decide_eq_true_eq, not_or] at hc
    omega
theorem not_both {a b : List B} (ha : ∀ x ∈ a, x.ok) (hb : ∀ x ∈ b, x.ok) : ((perfF a b).2 && (hullF a b).2.2) = false := by
  cases hh : (hullF a b).2.2 with
  | false => rw [Bool.and_false]
  | true =>
    rw [Bool.and_true]
    refine Bool.eq_false_iff.2 fun hp => ?_
    obtain ⟨x, y, i, p, q, H⟩ := hullF_some hh
    obtain ⟨x', y', i', hs, -, hg, -⟩ := perfF_some hp
    rw [H.sole] at hs
    cases hs
    obtain ⟨rfl, rfl, h1, h2, hi, -, -, -⟩ := sole_some H.sole
    have kx := ((ha x (by simp)).at hi).ri
    have ky := ((hb y (by simp)).at hi).ri
    obtain ⟨b1, b2, b3⟩ := between_true H.ok
    have hpq : in64s [p, q] := by
      intro r hr
      rcases H.at' with ⟨e1, e2⟩ | ⟨e1, e2⟩
      · rw [e1] at kx; rw [e2] at ky
        simp at hr
        rcases hr with rfl | rfl
        · exact kx _ (by simp)
        · exact ky _ (by simp)
      · rw [e1] at kx; rw [e2] at ky
        simp at hr
        rcases hr with rfl | rfl
        · exact ky _ (by simp)
        · exact kx _ (by simp)
    have hp64 := hpq p (by simp)
    have hq64 := hpq q (by simp)
    unfold in64 at hp64 hq64
    have hfar := H.far
    rw [IntWalk.i64_in _ (by omega)] at hfar
    have hnorm : normal [p, q] := ⟨fun r hr => by simp at hr; rcases hr with rfl | rfl <;> omega, by simp; omega⟩
    have hk : in64s ((x.get i).i ++ (y.get i).i) := fun r hr => (List.mem_append.1 hr).elim (kx r) (ky r)
    obtain ⟨n1, -, n3⟩ := normR_all hk
    have e : normR ((x.get i).i ++ (y.get i).i) = [p, q] := by
      refine normal_one n1 hnorm fun n => ?_
      rw [n3]
      rcases H.at' with ⟨e1, e2⟩ | ⟨e1, e2⟩
      · rw [e1, e2]; rfl
      · rw [e1, e2, inR_append, Or.comm, ← inR_append]; rfl
    have hl1 : (x.get i).i.length = 1 := by rcases H.at' with ⟨e1, e2⟩ | ⟨e1, e2⟩ <;> rw [e1] <;> rfl
    have hl2 : (y.get i).i.length = 1 := by rcases H.at' with ⟨e1, e2⟩ | ⟨e1, e2⟩ <;> rw [e2] <;> rfl
    have hl3 : (orS (x.get i) (y.get i)).i.length = 2 := by show (normR _).length = 2; rw [e]; rfl
    unfold grew at hg
    rw [hl1, hl2, hl3] at hg
    revert hg
    decide
theorem hullF_fits {a b : List B} (ha : ∀ x ∈ a, x.fits) : (hullF a b).1.length ≤ maxLen ∧ ∀ z ∈ (hullF a b).1, z.fits := by
  cases h : (hullF a b).2.2 with
  | false => rw [hullF_no h]; exact ⟨Nat.zero_le _, fun z h => by cases h⟩
  | true =>
    obtain ⟨x, y, i, p, q, H⟩ := hullF_some h
    rw [H.eq]
    obtain ⟨rfl, rfl, -, -, hi, -, -, -⟩ := sole_some H.sole
    refine ⟨by simp [maxLen], fun z hz => ?_⟩
    rw [List.mem_singleton] at hz
    subst hz
    intro j hj
    have hx := ha x (by simp) j hj
    have hs : ((⟨(x.get i).a, [(p.1, q.2)], (x.get i).c, (x.get i).s⟩ : S)).i.length ≤ maxLen ∧ ((⟨(x.get i).a, [(p.1, q.2)], (x.get i).c, (x.get i).s⟩ : S)).s.length ≤ maxLen := ⟨by simp [maxLen], (ha x (by simp) i hi).2⟩
    match i, hi, j, hj with
    | 0, _, 0, _ => exact hs
    | 0, _, 1, _ => exact hx
    | 0, _, 2, _ => exact hx
    | 0, _, 3, _ => exact hx
    | 1, _, 0, _ => exact hx
    | 1, _, 1, _ => exact hs
    | 1, _, 2, _ => exact hx
    | 1, _, 3, _ => exact hx
    | 2, _, 0, _ => exact hx
    | 2, _, 1, _ => exact hx
    | 2, _, 2, _ => exact hs
    | 2, _, 3, _ => exact hx
    | 3, _, 0, _ => exact hx
    | 3, _, 1, _ => exact hx
    | 3, _, 2, _ => exact hx
    | 3, _, 3, _ => exact hs

section
variable {prog : Nat → Option IFn}

set_option maxHeartbeats 4000000 in
theorem p_turns (H : Lib7 prog) (hA : Ans prog 4 [] (.iv (.bool true))) (h2 : prog 2 = some F2) (a b : List B) (la : a.length ≤ maxLen) (lb : b.length ≤ maxLen) (ha : ∀ x ∈ a, x.ok) (hb : ∀ x ∈ b, x.ok) :
    ∃ p : AV × Hp, p.1 = .iv (.bool true) ∧ Ev prog 2 [filt a, filt b] [] p := by
  obtain ⟨KA, hKA⟩ := hA
  obtain ⟨K1, hK1⟩ := p_few6 H.h27 H.h14 H.h5 a la
  obtain ⟨K2, hK2⟩ := p_few6 H.h27 H.h14 H.h5 b lb
  obtain ⟨K3, hK3⟩ := p_perfect H.toLib4 a b (fun x h => (ha x h).fits) (fun x h => (hb x h).fits)
  obtain ⟨K4, hK4⟩ := p_perfect H.toLib4 b a (fun x h => (hb x h).fits) (fun x h => (ha x h).fits)
  obtain ⟨K5, hK5⟩ := p_hull H.toLib5 a b (fun x h => (ha x h).fits) (fun x h => (hb x h).fits)
  obtain ⟨K6, hK6⟩ := p_hull H.toLib5 b a (fun x h => (hb x h).fits) (fun x h => (ha x h).fits)
  rw [← perfF_swap ha hb] at hK4
  rw [← hullF_swap ha hb] at hK6
  obtain ⟨lf, hf⟩ := perfF_fits (a := a) (b := b) (fun x h => (ha x h).fits)
  obtain ⟨lg, hg⟩ := hullF_fits (a := a) (b := b) (fun x h => (ha x h).fits)
  have hnb := not_both ha hb
  generalize perfF a b = f at hK3 hK4 lf hf hnb
  generalize hullF a b = g at hK5 hK6 lg hg hnb
  obtain ⟨K7, hK7⟩ := p_same6 H.h41 H.h25 H.h11 f.1 f.1 lf hf
  obtain ⟨K8, hK8⟩ := p_same6 H.h41 H.h25 H.h11 g.1 g.1 lg hg
  rw [sameF_iff.2 rfl] at hK7 hK8
  refine Ev.ofx h2 rfl rfl _ (Wp.seq ?_)
  refine Wp.rgn (K := 0) (fun n _ => by simp [evalRgn, Option.map_some, evalOps, step, wants, osem, M.run_bind, M.mapL, M.run, M.ok, M.fresh, M.write, M.look, M.lift, putD, Arb.set, ev, Arb.get, keepFr, bin, intBin, strBin, mk, params, cellsM, load, obRead, fadr, fld, isl, iarr, xarr, idx, len, valid, slc, bound, store, splice, nilc, un, eqs, eq0, evalFeet, footOf, M.foot, orderOk, apartAll, apart1, clash, meets, callM, fcallM, callee, fz1, fzC, fz, flat, flat1, flat0, flatI, Option.bind_some, putAll, M.bind]; rfl) ?_
  refine Wp.seq (Wp.seq ?_)
  refine Wp.rgn (K := max KA (max K1 K2)) (s' := ⟨[(0, filt a), (1, filt b), (26, .iv (.bool (!few a || !few b)))], [], 1832⟩) (fun n hn => by
    have e0 := hKA n (by omega)
    have e1 := hK1 n (by omega)
    have e2 := hK2 n (by omega)
    simp only [filt] at e1 e2
    generalize evalF prog n = g at e0 e1 e2
    cases h1 : few a <;> rw [h1] at e1 <;> simp [evalRgn, Option.map_some, evalOps, step, wants, osem, M.run_bind, M.mapL, M.run, M.ok, M.fresh, M.write, M.look, M.lift, putD, Arb.set, ev, Arb.get, keepFr, bin, intBin, strBin, mk, params, cellsM, load, obRead, fadr, fld, isl, iarr, xarr, idx, len, valid, slc, bound, store, splice, nilc, un, eqs, eq0, evalFeet, footOf, M.foot, orderOk, apartAll, apart1, clash, meets, callM, fcallM, callee, fz1, fzC, fz, flat, flat1, flat0, flatI, Option.bind_some, putAll, M.bind, filt, e0, e1, e2]) ?_
  refine Wp.cond rfl ?_
  cases hc : !few a || !few b with
  | true =>
    refine Wp.seq ?_
    refine Wp.rgn (K := KA) (fun n hn => by
      have e0 := hKA n hn
      generalize evalF prog n = g at e0
      simp [evalRgn, Option.map_some, evalOps, step, wants, osem, M.run_bind, M.mapL, M.run, M.ok, M.fresh, M.write, M.look, M.lift, putD, Arb.set, ev, Arb.get, keepFr, bin, intBin, strBin, mk, params, cellsM, load, obRead, fadr, fld, isl, iarr, xarr, idx, len, valid, slc, bound, store, splice, nilc, un, eqs, eq0, evalFeet, footOf, M.foot, orderOk, apartAll, apart1, clash, meets, callM, fcallM, callee, fz1, fzC, fz, flat, flat1, flat0, flatI, Option.bind_some, putAll, M.bind, e0]; rfl) ?_
    exact Wp.ret ⟨(.iv (.bool true), []), rfl, rfl⟩
  | false =>
    refine Wp.skip (Wp.seq ?_)
    refine Wp.rgn (K := K3) (s' := ⟨[(0, filt a), (1, filt b), (5, filt f.1), (6, .iv (.bool f.2))], [], 2344⟩) (fun n hn => by
      have e0 := hK3 n hn
      simp only [filt] at e0
      generalize evalF prog n = g at e0
      simp [evalRgn, Option.map_some, evalOps, step, wants, osem, M.run_bind, M.mapL, M.run, M.ok, M.fresh, M.write, M.look, M.lift, putD, Arb.set, ev, Arb.get, keepFr, bin, intBin, strBin, mk, params, cellsM, load, obRead, fadr, fld, isl, iarr, xarr, idx, len, valid, slc, bound, store, splice, nilc, un, eqs, eq0, evalFeet, footOf, M.foot, orderOk, apartAll, apart1, clash, meets, callM, fcallM, callee, fz1, fzC, fz, flat, flat1, flat0, flatI, Option.bind_some, putAll, M.bind, filt, e0]) ?_
    refine Wp.seq ?_
    refine Wp.rgn (K := K4) (s' := ⟨[(0, filt a), (1, filt b), (5, filt f.1), (6, .iv (.bool f.2)), (7, filt f.1), (8, .iv (.bool f.2))], [], 2856⟩) (fun n hn => by
      have e0 := hK4 n hn
      simp only [filt] at e0
      generalize evalF prog n = g at e0
      simp [evalRgn, Option.map_some, evalOps, step, wants, osem, M.run_bind, M.mapL, M.run, M.ok, M.fresh, M.write, M.look, M.lift, putD, Arb.set, ev, Arb.get, keepFr, bin, intBin, strBin, mk, params, cellsM, load, obRead, fadr, fld, isl, iarr, xarr, idx, len, valid, slc, bound, store, splice, nilc, un, eqs, eq0, evalFeet, footOf, M.foot, orderOk, apartAll, apart1, clash, meets, callM, fcallM, callee, fz1, fzC, fz, flat, flat1, flat0, flatI, Option.bind_some, putAll, M.bind, filt, e0]) ?_
    refine Wp.seq ?_
    refine Wp.rgn (K := K5) (s' := ⟨[(0, filt a), (1, filt b), (5, filt f.1), (6, .iv (.bool f.2)), (7, filt f.1), (8, .iv (.bool f.2)), (9, filt g.1), (10, .iv (.int .u64 g.2.1)), (11, .iv (.bool g.2.2))], [], 3496⟩) (fun n hn => by
      have e0 := hK5 n hn
      simp only [filt] at e0
      generalize evalF prog n = g at e0
      simp [evalRgn, Option.map_some, evalOps, step, wants, osem, M.run_bind, M.mapL, M.run, M.ok, M.fresh, M.write, M.look, M.lift, putD, Arb.set, ev, Arb.get, keepFr, bin, intBin, strBin, mk, params, cellsM, load, obRead, fadr, fld, isl, iarr, xarr, idx, len, valid, slc, bound, store, splice, nilc, un, eqs, eq0, evalFeet, footOf, M.foot, orderOk, apartAll, apart1, clash, meets, callM, fcallM, callee, fz1, fzC, fz, flat, flat1, flat0, flatI, Option.bind_some, putAll, M.bind, filt, e0]) ?_
    refine Wp.seq ?_
    refine Wp.rgn (K := K6) (s' := ⟨[(5, filt f.1), (6, .iv (.bool f.2)), (7, filt f.1), (8, .iv (.bool f.2)), (9, filt g.1), (10, .iv (.int .u64 g.2.1)), (11, .iv (.bool g.2.2)), (12, filt g.1), (13, .iv (.int .u64 g.2.1)), (14, .iv (.bool g.2.2))], [], 4136⟩) (fun n hn => by
      have e0 := hK6 n hn
      simp only [filt] at e0
      generalize evalF prog n = g at e0
      simp [evalRgn, Option.map_some, evalOps, step, wants, osem, M.run_bind, M.mapL, M.run, M.ok, M.fresh, M.write, M.look, M.lift, putD, Arb.set, ev, Arb.get, keepFr, bin, intBin, strBin, mk, params, cellsM, load, obRead, fadr, fld, isl, iarr, xarr, idx, len, valid, slc, bound, store, splice, nilc, un, eqs, eq0, evalFeet, footOf, M.foot, orderOk, apartAll, apart1, clash, meets, callM, fcallM, callee, fz1, fzC, fz, flat, flat1, flat0, flatI, Option.bind_some, putAll, M.bind, filt, e0]) ?_
    refine Wp.seq ?_
    refine Wp.rgn (K := max K7 K8) (s' := ⟨[(4, .iv (.bool true))], [], 6120⟩) (fun n hn => by
      have e0 := hK7 n (by omega)
      have e1 := hK8 n (by omega)
      simp only [filt] at e0 e1
      generalize evalF prog n = gg at e0 e1
      cases h1 : f.2 <;> cases h2 : g.2.2 <;> rw [h1, h2] at hnb
      case true.true => cases hnb
      all_goals simp [evalRgn, Option.map_some, evalOps, step, wants, osem, M.run_bind, M.mapL, M.run, M.ok, M.fresh, M.write, M.look, M.lift, putD, Arb.set, ev, Arb.get, keepFr, bin, intBin, strBin, mk, params, cellsM, load, obRead, fadr, fld, isl, iarr, xarr, idx, len, valid, slc, bound, store, splice, nilc, un, eqs, eq0, evalFeet, footOf, M.foot, orderOk, apartAll, apart1, clash, meets, callM, fcallM, callee, fz1, fzC, fz, flat, flat1, flat0, flatI, Option.bind_some, putAll, M.bind, filt, e0, e1, h1, h2]) ?_
    exact Wp.ret ⟨(.iv (.bool true), []), rfl, rfl⟩
end
end Arb

/-
  MergeTurns, plain.
-/
set_option linter.unusedSimpArgs false
namespace Arb
open Go

theorem mergeTurns_law {x0 x1 : AV} (h0 : ArgIs false shFilter x0) (h1 : ArgIs false shFilter x1) : ∃ n hp', evalF (get Tied.fns) n 2 [x0, x1] [] = some (.iv (.bool true), hp') := by
  obtain ⟨a, rfl, la, ha⟩ := arg_filter h0
  obtain ⟨b, rfl, lb, hb⟩ := arg_filter h1
  obtain ⟨p, hp, h⟩ := p_turns lib7 awake_true rfl a b la lb ha hb
  exact h.run hp
end Arb
