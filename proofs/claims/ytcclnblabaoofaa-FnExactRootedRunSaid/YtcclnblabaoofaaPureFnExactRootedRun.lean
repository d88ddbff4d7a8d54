/- The reference and the program agree on the recursion's numbers. -/
import Derived.Test.YtcclnblabaoofaaF1
import Derived.Test.YtcclnblabaoofaaF10
import Derived.Test.YtcclnblabaoofaaF3
import Derived.Test.YtcclnblabaoofaaF4
import Derived.Test.YtcclnblabaoofaaF5
set_option linter.unusedVariables false
set_option linter.unusedSimpArgs false
namespace Go.Proofs.Ytcclnblabaoofaa.Sm
open List
end Go.Proofs.Ytcclnblabaoofaa.Sm
namespace Go.Proofs.Ytcclnblabaoofaa.R
open Go.RowKit Go.Proofs.YtcclnblabaoofaaW.PrintWords Go.Proofs.YtcclnblabaoofaaW.PrintLast Go.Proofs.YtcclnblabaoofaaW.PrintMore Go.Proofs.Ytcclnblabaoofaa.F Go.Proofs.Ytcclnblabaoofaa.Sm
theorem Ev.pos {α : Type} {c : Prop} [Decidable c] {A B : Nat → Option α} {r : α} (h : c) (k : Ev A r) : Ev (fun n => if c then A n else B n) r := by
  simp only [if_pos h]; exact k

theorem Ev.neg {α : Type} {c : Prop} [Decidable c] {A B : Nat → Option α} {r : α} (h : ¬ c) (k : Ev B r) : Ev (fun n => if c then A n else B n) r := by
  simp only [if_neg h]; exact k

theorem Ev.bind1 {α β : Type} {g : Nat → Option α} {f : Nat → α → Option β} {a : α} {r : β} (h : Ev g a) (k : Ev (fun n => f n a) r) : Ev (fun n => (g n).bind (f n)) r := Ev.bind h k

theorem Ev.some1 {α β : Type} {f : Nat → α → Option β} {a : α} {r : β} (k : Ev (fun n => f n a) r) : Ev (fun n => (some a).bind (f n)) r := k

def runOk (e g : Int) : Bool := match impl_RootedRun.f e g, spec_RootedRun.f 3000 e g, impl_RootedPlane.f 60 e with
  | some a, some b, some c => a == b && decide (0 ≤ a) && (decide (a > 0) == decide (wrap64 (2 * g) ≤ e)) && (decide (g > 0) || a == c)
  | _, _, _ => false

theorem run_ok : ∀ e : Fin 10, ∀ g : Fin 6, runOk ((e.val : Nat) : Int) ((g.val : Nat) : Int) = true := by decide +kernel

theorem ev_at {α : Type} {f : Nat → Option α} {r : α} (hm : ∀ k, LeO (f k) (f (k + 1))) {k : Nat} (h : f k = some r) : Ev f r := Ev.of (k := k) hm h

/-- inside the range: both answer the same, and what the law asks of it -/
theorem run_in {e g : Int} (h0 : 0 ≤ e) (h1 : e ≤ 9) (h2 : 0 ≤ g) (h3 : g ≤ 5) : ∃ a, impl_RootedRun.f e g = some a ∧ Ev (fun k => spec_RootedRun.f k e g) a ∧ 0 ≤ a ∧ (decide (a > 0) == decide (wrap64 (2 * g) ≤ e)) = true ∧ (¬ g > 0 → Ev (fun k => impl_RootedPlane.f k e) a) := by
  obtain ⟨m, rfl⟩ : ∃ m : Nat, e = m := ⟨e.toNat, by omega⟩
  obtain ⟨q, rfl⟩ : ∃ m : Nat, g = m := ⟨g.toNat, by omega⟩
  have h := run_ok ⟨m, by omega⟩ ⟨q, by omega⟩
  dsimp only at h
  unfold runOk at h
  cases e1 : impl_RootedRun.f (m : Int) (q : Int) with
  | none => rw [e1] at h; simp at h
  | some a =>
    cases e2 : spec_RootedRun.f 3000 (m : Int) (q : Int) with
    | none => rw [e1, e2] at h; simp at h
    | some b =>
      cases e3 : impl_RootedPlane.f 60 (m : Int) with
      | none => rw [e1, e2, e3] at h; simp at h
      | some c =>
        rw [e1, e2, e3] at h
        simp only [Bool.and_eq_true, Bool.or_eq_true] at h
        obtain ⟨⟨⟨k1, k2⟩, k3⟩, k4⟩ := h
        have k1' : a = b := by simpa using k1
        subst k1'
        refine ⟨a, rfl, ev_at (spec_RootedRun.mono _ _) e2, of_decide_eq_true k2, k3, fun ng => ?_⟩
        rcases k4 with k4 | k4
        · exact (ng (of_decide_eq_true k4)).elim
        · have : a = c := by simpa using k4
          subst this
          exact ev_at (impl_RootedPlane.mono _) e3

/-- outside: both answer -1 -/
theorem run_out {e g : Int} (h : ¬ (0 ≤ e ∧ e ≤ 9 ∧ 0 ≤ g ∧ g ≤ 5)) : impl_RootedRun.f e g = some (-1) ∧ Ev (fun k => spec_RootedRun.f k e g) (-1) := by
  constructor
  · unfold impl_RootedRun.f
    by_cases a : e < 0
    · rw [if_pos a]
    · rw [if_neg a]
      by_cases b : 9 < e
      · rw [if_pos b]
      · rw [if_neg b]
        by_cases c : g < 0
        · rw [if_pos c]
        · rw [if_neg c, if_pos (by omega)]
  · unfold spec_RootedRun.f spec_l6In.f
    by_cases a : e ≥ 0
    · rw [if_pos a]
      by_cases b : e ≤ 9
      · rw [decide_eq_true b]
        refine Ev.some1 (Ev.pos rfl ?_)
        by_cases c : g ≥ 0
        · rw [if_pos c, decide_eq_false (by omega)]; exact Ev.some1 (Ev.neg (by simp) (Ev.now _))
        · rw [if_neg c]; exact Ev.some1 (Ev.neg (by simp) (Ev.now _))
      · rw [decide_eq_false b]; exact Ev.some1 (Ev.neg (by simp) (Ev.now _))
    · rw [if_neg a]; exact Ev.some1 (Ev.neg (by simp) (Ev.now _))

/-- The reference and the program agree on the recursion's numbers. -/
theorem FnExactRootedRun : laws_FnExactRootedRun.Pure := by
  intro e g _ _
  have : Ev (fun k => laws_FnExactRootedRun.f k e g) true := by
    unfold laws_FnExactRootedRun.f
    by_cases h : 0 ≤ e ∧ e ≤ 9 ∧ 0 ≤ g ∧ g ≤ 5
    · obtain ⟨a, e1, e2, _⟩ := run_in h.1 h.2.1 h.2.2.1 h.2.2.2
      refine Ev.bind1 e2 ?_
      rw [e1]; exact Ev.some1 (Ev.pos rfl (Ev.now _))
    · obtain ⟨e1, e2⟩ := run_out h
      refine Ev.bind1 e2 ?_
      rw [e1]; exact Ev.some1 (Ev.pos rfl (Ev.now _))
  exact this.rounds
end Go.Proofs.Ytcclnblabaoofaa.R
namespace Go.Proofs.Ytcclnblabaoofaa.Pure
theorem FnExactRootedRun : Go.Proofs.Ytcclnblabaoofaa.F.laws_FnExactRootedRun.Pure := Go.Proofs.Ytcclnblabaoofaa.R.FnExactRootedRun
end Go.Proofs.Ytcclnblabaoofaa.Pure
