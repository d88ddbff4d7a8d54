/- The plain statement of the law FnExactMapFar, and what follows from it for the call. -/
import Derived.Test.YtajmkjeiegdpcaaF25
set_option linter.unusedVariables false
namespace Go.Proofs.Ytajmkjeiegdpcaa.F
open Go.RowKit Go.Proofs.YtajmkjeiegdpcaaW.PrintWords Go.Proofs.YtajmkjeiegdpcaaW.PrintLast Go.Proofs.YtajmkjeiegdpcaaW.PrintMore
/-- THE ONE PURE STATEMENT of laws_FnExactMapFar. -/
def laws_FnExactMapFar.Pure : Prop := ∀ (l0_0 : List Int), l0_0.length ≤ maxLen → (∀ x ∈ l0_0, (Lit.int .i64 x).wf = true) → ∀ (l0_1 : List Int), l0_1.length ≤ maxLen → (∀ x ∈ l0_1, (Lit.int .i64 x).wf = true) → ∀ (a1 : Int), (Lit.int .i64 a1).wf = true → ∀ (a2 : Int), (Lit.int .i64 a2).wf = true → ∃ k, laws_FnExactMapFar.f k l0_0 l0_1 a1 a2 = some true
theorem laws_FnExactMapFar.walk (P : laws_FnExactMapFar.Pure) (a0_0 : Option Addr) (len0_0 cap0_0 : Nat) (z0_0 : List Int) (a0_1 : Option Addr) (len0_1 cap0_1 : Nat) (z0_1 : List Int) (a1 : Int) (a2 : Int) (w : World) (w0_0 : (a0_0 = none ∧ len0_0 = 0 ∧ cap0_0 = 0 ∧ z0_0 = []) ∨ ∃ x, a0_0 = some x ∧ len0_0 ≤ cap0_0 ∧ cap0_0 ≤ maxLen ∧ z0_0.length = cap0_0 ∧ (∀ i, i < z0_0.length → w.cell? (x.add i) = some (.int .i64 (z0_0.getD i 0))) ∧ ∀ n ∈ z0_0, (Lit.int .i64 n).wf = true) (w0_1 : (a0_1 = none ∧ len0_1 = 0 ∧ cap0_1 = 0 ∧ z0_1 = []) ∨ ∃ x, a0_1 = some x ∧ len0_1 ≤ cap0_1 ∧ cap0_1 ≤ maxLen ∧ z0_1.length = cap0_1 ∧ (∀ i, i < z0_1.length → w.cell? (x.add i) = some (.int .i64 (z0_1.getD i 0))) ∧ ∀ n ∈ z0_1, (Lit.int .i64 n).wf = true) (w1 : (Lit.int .i64 a1).wf = true) (w2 : (Lit.int .i64 a2).wf = true) :
    Calls Try.prog 5 #[.agg #[.slice a0_0 len0_0 cap0_0, .slice a0_1 len0_1 cap0_1], .int .i64 a1, .int .i64 a2] w fun e w' => e = .returned (.bool true) ∧ Below w.heap.size w w' := by
  obtain ⟨l0_0, rfl, hr0_0, hm0_0, hw0_0, hc0_0⟩ := ReadsInt.ofRowC w0_0
  obtain ⟨l0_1, rfl, hr0_1, hm0_1, hw0_1, hc0_1⟩ := ReadsInt.ofRowC w0_1
  obtain ⟨k, h⟩ := P l0_0 hm0_0 hw0_0 l0_1 hm0_1 hw0_1 a1 w1 a2 w2
  refine (laws_FnExactMapFar.calls k _ _ l0_0 _ _ l0_1 a1 a2 true w (Kd.C_of_reads (d := (0 : Int)) (h1 := fun _ => rfl) hr0_0) hc0_0 (Kd.C_of_reads (d := (0 : Int)) (h1 := fun _ => rfl) hr0_1) hc0_1 ⟨rfl⟩ h).mono ?_
  rintro e w' ⟨rfl, hd⟩
  exact ⟨rfl, hd⟩
end Go.Proofs.Ytajmkjeiegdpcaa.F
