/-
  THE FUNCTIONS THAT THE PLAIN PROOFS NAME ARE THE PROGRAM'S; awake() is true.
-/
import Derived.Test.YtiggikalagohaaaArbA
import Derived.Test.YtiggikalagohaaaArbB
import Derived.Test.YtiggikalagohaaaArbC
import Derived.Test.YtiggikalagohaaaArbD
import Derived.Test.YtiggikalagohaaaArbE
import Derived.Test.YtiggikalagohaaaArbF
set_option linter.unusedSimpArgs false
namespace Arb
open Go

theorem lib1 : Lib1 (get Tied.fns) := ⟨rfl, rfl, rfl, rfl, rfl, rfl, rfl, rfl, rfl, rfl, rfl, rfl⟩
theorem lib2 : Lib2 (get Tied.fns) := ⟨rfl, rfl, rfl, rfl, rfl, rfl, rfl, rfl, rfl, rfl, rfl, rfl, rfl⟩
theorem lib3 : Lib3 (get Tied.fns) := ⟨lib2, rfl, rfl, rfl, rfl, rfl, rfl, rfl, rfl, rfl⟩
theorem lib4 : Lib4 (get Tied.fns) := ⟨lib1, lib3, rfl, rfl, rfl⟩
theorem lib5 : Lib5 (get Tied.fns) := ⟨lib4, rfl, rfl⟩
theorem lib6 : Lib6 (get Tied.fns) := ⟨lib5, rfl, rfl, rfl, rfl⟩
theorem lib7 : Lib7 (get Tied.fns) := ⟨lib6, rfl, rfl, rfl, rfl, rfl, rfl⟩

def isT : Option AV → Bool
  | some (.iv (.bool true)) => true
  | _ => false
theorem isT_eq {x : Option AV} (h : isT x = true) : x = some (.iv (.bool true)) := by
  unfold isT at h
  split at h
  · rfl
  · cases h
theorem awake_run : isT ((evalF (get Tied.fns) 60 4 [] []).bind shut) = true := by kernel_rfl
theorem awake_true : Ans (get Tied.fns) 4 [] (.iv (.bool true)) := by
  have h := isT_eq awake_run
  cases he : evalF (get Tied.fns) 60 4 [] [] with
  | none => rw [he] at h; cases h
  | some p =>
    rw [he] at h
    exact (Ev.at he).ans h
end Arb

/-
  MergeZero, plain.
-/
set_option linter.unusedSimpArgs false
namespace Arb
open Go

theorem mergeZero_law {x0 x1 : AV} (h0 : ArgIs false shFilter x0) (h1 : ArgIs false shFilter x1) : ∃ n hp', evalF (get Tied.fns) n 3 [x0, x1] [] = some (.iv (.bool true), hp') := by
  obtain ⟨a, rfl, la, ha⟩ := arg_filter h0
  obtain ⟨b, rfl, lb, hb⟩ := arg_filter h1
  obtain ⟨p, hp, h⟩ := p_zero lib7 awake_true rfl a b la lb ha hb
  exact h.run hp
end Arb
