/-
  THE FUNCTIONS THAT THE PLAIN PROOFS NAME ARE THE PROGRAM'S; awake() is true.
-/
import Derived.Test.YtiggikalagohaaaGreatArbA
import Derived.Test.YtiggikalagohaaaGreatArbB
import Derived.Test.YtiggikalagohaaaGreatArbC
import Derived.Test.YtiggikalagohaaaGreatArbD
import Derived.Test.YtiggikalagohaaaGreatArbE
import Derived.Test.YtiggikalagohaaaGreatArbF
import Derived.Test.YtiggikalagohaaaGreatArbG
import Derived.Test.YtiggikalagohaaaGreatArbH
import Derived.Test.YtiggikalagohaaaGreatArbI
set_option linter.unusedSimpArgs false
namespace Arb
open Go

theorem lib1 : Lib1 (get Tied.fns) := ⟨rfl, rfl, rfl, rfl, rfl, rfl, rfl, rfl, rfl, rfl, rfl, rfl⟩
theorem lib2 : Lib2 (get Tied.fns) := ⟨rfl, rfl, rfl, rfl, rfl, rfl, rfl, rfl, rfl, rfl, rfl, rfl, rfl⟩
theorem lib3 : Lib3 (get Tied.fns) := ⟨lib2, rfl, rfl, rfl, rfl, rfl, rfl, rfl, rfl, rfl⟩
theorem lib4 : Lib4 (get Tied.fns) := ⟨lib1, lib3, rfl, rfl, rfl⟩
theorem lib5 : Lib5 (get Tied.fns) := ⟨lib4, rfl, rfl⟩
theorem lib6 : Lib6 (get Tied.fns) := ⟨lib5, rfl, rfl, rfl, rfl⟩
theorem lib7 : Lib7 (get Tied.fns) := ⟨lib6, rfl, rfl, rfl, rfl, rfl, rfl⟩

def isT : Option AV → Bool
  | some (.iv (.bool true)) => true
  | _ => false
theorem isT_eq {x : Option AV} (h : isT x = true) : x = some (.iv (.bool true)) := by
  unfold isT at h
  split at h
  · rfl
  · cases h
theorem awake_run : isT ((evalF (get Tied.fns) 60 4 [] []).bind shut) = true := by kernel_rfl
theorem awake_true : Ans (get Tied.fns) 4 [] (.iv (.bool true)) := by
  have h := isT_eq awake_run
  cases he : evalF (get Tied.fns) 60 4 [] [] with
  | none => rw [he] at h; cases h
  | some p =>
    rw [he] at h
    exact (Ev.at he).ans h
end Arb

/-
  MergePerfect, plain.
-/
set_option linter.unusedSimpArgs false
namespace Arb
open Go

theorem mergePerfect_law {x0 x1 x2 : AV} (h0 : ArgIs false shFilter x0) (h1 : ArgIs false shFilter x1) (h2 : ArgIs true shEvent x2) : ∃ n hp', evalF (get Tied.fns) n 90 [x0, x1, x2] [] = some (.iv (.bool true), hp') := by
  obtain ⟨a, rfl, la, ha⟩ := arg_filter h0
  obtain ⟨b, rfl, lb, hb⟩ := arg_filter h1
  obtain ⟨e, rfl, -⟩ := arg_event h2
  obtain ⟨p, hp, h⟩ := p_perfectLaw lib7 ⟨rfl, rfl, rfl, rfl⟩ rfl rfl rfl ⟨rfl, rfl, rfl, rfl, rfl, rfl, rfl, rfl⟩ awake_true rfl a b e la lb ha hb
  exact h.run hp
end Arb
