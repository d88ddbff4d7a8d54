/- The plain statement of the law FnExactRootedTrees holds for every input. -/
import Derived.Test.YtcclnblabaoofaaF1
import Derived.Test.YtcclnblabaoofaaF2
set_option linter.unusedVariables false
set_option linter.unusedSimpArgs false
namespace Go.Proofs.Ytcclnblabaoofaa.Sm
open List
end Go.Proofs.Ytcclnblabaoofaa.Sm
namespace Go.Proofs.Ytcclnblabaoofaa.R
open Go.RowKit Go.Proofs.YtcclnblabaoofaaW.PrintWords Go.Proofs.YtcclnblabaoofaaW.PrintLast Go.Proofs.YtcclnblabaoofaaW.PrintMore Go.Proofs.Ytcclnblabaoofaa.F Go.Proofs.Ytcclnblabaoofaa.Sm
theorem trees_eq {a : Nat} (h : a < 13) : laws_FnExactRootedTrees.f 40 (a : Int) = some true := by
  have : ∀ a : Fin 13, laws_FnExactRootedTrees.f 40 ((a.val : Nat) : Int) = some true := by decide +kernel
  exact this ⟨a, h⟩

theorem FnExactRootedTrees : laws_FnExactRootedTrees.Pure := by
  intro a _
  by_cases h : 0 ≤ a ∧ a ≤ 12
  · obtain ⟨m, rfl⟩ : ∃ m : Nat, a = m := ⟨a.toNat, by omega⟩
    exact ⟨40, trees_eq (by omega)⟩
  · refine ⟨1, ?_⟩
    unfold laws_FnExactRootedTrees.f
    have e1 : spec_RootedTrees.f 1 a = some (-1) := by
      unfold spec_RootedTrees.f spec_l6In.f
      by_cases c : a ≥ 0
      · rw [if_pos c, decide_eq_false (by omega)]; rfl
      · rw [if_neg c]; rfl
    have e2 : impl_RootedTrees.f 1 a = some (-1) := by
      unfold impl_RootedTrees.f
      by_cases c : a < 0
      · rw [if_pos c]
      · rw [if_neg c, if_pos (by omega)]
    rw [e1, e2]; rfl
end Go.Proofs.Ytcclnblabaoofaa.R
namespace Go.Proofs.Ytcclnblabaoofaa.Pure
theorem FnExactRootedTrees : Go.Proofs.Ytcclnblabaoofaa.F.laws_FnExactRootedTrees.Pure := Go.Proofs.Ytcclnblabaoofaa.R.FnExactRootedTrees
end Go.Proofs.Ytcclnblabaoofaa.Pure
