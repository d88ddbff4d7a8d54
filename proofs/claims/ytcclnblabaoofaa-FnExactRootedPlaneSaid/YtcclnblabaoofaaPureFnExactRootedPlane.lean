/- The plain statement of the law FnExactRootedPlane holds for every input. -/
import Derived.Test.YtcclnblabaoofaaF1
import Derived.Test.YtcclnblabaoofaaF3
import Derived.Test.YtcclnblabaoofaaF4
set_option linter.unusedVariables false
set_option linter.unusedSimpArgs false
namespace Go.Proofs.Ytcclnblabaoofaa.Sm
open List
end Go.Proofs.Ytcclnblabaoofaa.Sm
namespace Go.Proofs.Ytcclnblabaoofaa.R
open Go.RowKit Go.Proofs.YtcclnblabaoofaaW.PrintWords Go.Proofs.YtcclnblabaoofaaW.PrintLast Go.Proofs.YtcclnblabaoofaaW.PrintMore Go.Proofs.Ytcclnblabaoofaa.F Go.Proofs.Ytcclnblabaoofaa.Sm
theorem plane_eq {a : Nat} (h : a < 10) : laws_FnExactRootedPlane.f 60 (a : Int) = some true := by
  have : ∀ a : Fin 10, laws_FnExactRootedPlane.f 60 ((a.val : Nat) : Int) = some true := by decide +kernel
  exact this ⟨a, h⟩

theorem FnExactRootedPlane : laws_FnExactRootedPlane.Pure := by
  intro a _
  by_cases h : 0 ≤ a ∧ a ≤ 9
  · obtain ⟨m, rfl⟩ : ∃ m : Nat, a = m := ⟨a.toNat, by omega⟩
    exact ⟨60, plane_eq (by omega)⟩
  · refine ⟨1, ?_⟩
    unfold laws_FnExactRootedPlane.f
    have e1 : spec_RootedPlane.f 1 a = some (-1) := by
      unfold spec_RootedPlane.f spec_l6In.f
      by_cases c : a ≥ 0
      · rw [if_pos c, decide_eq_false (by omega)]; rfl
      · rw [if_neg c]; rfl
    have e2 : impl_RootedPlane.f 1 a = some (-1) := by
      unfold impl_RootedPlane.f
      by_cases c : a < 0
      · rw [if_pos c, impl_RootedPlane.j0, if_pos rfl]
      · rw [if_neg c, decide_eq_true (by omega), impl_RootedPlane.j0, if_pos rfl]
    rw [e1, e2]; rfl
end Go.Proofs.Ytcclnblabaoofaa.R
namespace Go.Proofs.Ytcclnblabaoofaa.Pure
theorem FnExactRootedPlane : Go.Proofs.Ytcclnblabaoofaa.F.laws_FnExactRootedPlane.Pure := Go.Proofs.Ytcclnblabaoofaa.R.FnExactRootedPlane
end Go.Proofs.Ytcclnblabaoofaa.Pure
