/- Contracts: what these Go functions return. -/
import Derived.Test.YtcclnblabaoofaaF0
import Derived.Test.YtcclnblabaoofaaF3
import Derived.Test.YtcclnblabaoofaaF4
namespace Go.Proofs.Ytcclnblabaoofaa.F
open Go.RowKit Go.Proofs.YtcclnblabaoofaaW.PrintWords Go.Proofs.YtcclnblabaoofaaW.PrintLast Go.Proofs.YtcclnblabaoofaaW.PrintMore
attribute [local go_sem] max2_int min2_int max_two min_two max_three min_three max_four min_four
set_option linter.unusedVariables false
set_option linter.unusedSimpArgs false

/-! ### laws_FnExactRootedRun: function 6 -/
def laws_FnExactRootedRun.f (k : Nat) (a0 : Int) (a1 : Int) : Option (Bool) := (spec_RootedRun.f k a0 a1).bind fun t134 => ((impl_RootedRun.f a0 a1).bind fun t135 => (if t135 = t134 then (some true) else (some false)))
theorem laws_FnExactRootedRun.mono : ∀ a0 a1 k, LeO (laws_FnExactRootedRun.f k a0 a1) (laws_FnExactRootedRun.f (k + 1) a0 a1) := by
 intro a0 a1 k
 unfold laws_FnExactRootedRun.f
 repeat' first
  | (with_reducible exact spec_RootedRun.mono _ _ _)
  | (with_reducible exact LeO.refl _)
  | (with_reducible exact LeO.none _)
  | (with_reducible refine LeO.ite ?_ ?_)
  | (with_reducible refine LeO.bind ?_ (fun _ => ?_))
  | exact spec_RootedRun.mono _ _ _
  | exact LeO.none _
  | refine LeO.ite ?_ ?_
  | refine LeO.bind ?_ (fun _ => ?_)
set_option maxHeartbeats 8000000 in
set_option maxRecDepth 100000 in
theorem laws_FnExactRootedRun.calls (k : Nat) (a0 : Int) (a1 : Int) (r : Bool) (w : World) (hr_ : Aside0 (r = true)) (h : laws_FnExactRootedRun.f k a0 a1 = some r) :
 Calls Try.prog 6 #[.int .i64 a0, .int .i64 a1] w fun e w' => e = .returned (.bool r) ∧ Below w.heap.size w w' := by
 have HB := Aside0.mk (Below.refl w.heap.size w)
 have H : ((spec_RootedRun.f k a0 a1).bind fun t134 => ((impl_RootedRun.f a0 a1).bind fun t135 => (if t135 = t134 then (some true) else (some false)))) = some r := h
 clear h
 replace H := Option.bind_eq_some_iff.mp H
 obtain ⟨t134, A30, H⟩ := H
 replace H : ((impl_RootedRun.f a0 a1).bind fun t135 => (if t135 = t134 then (some true) else (some false))) = some r := H
 have A3 := Aside0.mk A30
 clear A30
 replace H := Option.bind_eq_some_iff.mp H
 obtain ⟨t135, A40, H⟩ := H
 replace H : (if t135 = t134 then (some true) else (some false)) = some r := H
 have A4 := Aside0.mk A40
 clear A40
 by_cases c5 : t135 = t134
 ·rw [if_pos c5] at H
  have c5b0 : (t135 == t134) = true := beq_iff_eq.mpr c5
  have c5b1 : (t135 != t134) = false := bne_eq_false_iff_eq.mpr c5
  clear c5
  obtain rfl := Option.some.inj H
  go_enter Try.func6, Try.ntmps6
  go_wp2_with (first | ((with_reducible refine gate_callee (f := 16) rfl ?_); refine gL (some 9) Try.func16 #[.int .i64 a0, .int .i64 a1] ?_; (with_reducible refine (spec_RootedRun.calls k a0 a1 t134 _ A3.out).mono ?_); rintro e w6 ⟨rfl, hb⟩; refine ⟨_, rfl, ?_⟩; replace HB := bS HB hb; (try clear hb); (try clear hb2); (try clear hk); (try clear hi)) | ((with_reducible refine gate_callee (f := 17) rfl ?_); refine gL (some 12) Try.func17 #[.int .i64 a0, .int .i64 a1] ?_; (with_reducible refine (impl_RootedRun.calls a0 a1 t135 _ A4.out).mono ?_); rintro e w7 ⟨rfl, hb⟩; refine ⟨_, rfl, ?_⟩; replace HB := bS HB hb; (try clear hb); (try clear hb2); (try clear hk); (try clear hi)))
  go_ret
  exact ⟨eR, bP HB⟩
 ·rw [if_neg c5] at H
  have c5b0 : (t135 == t134) = false := beq_eq_false_iff_ne.mpr c5
  have c5b1 : (t135 != t134) = true := bne_iff_ne.mpr c5
  exact absurd ((Option.some.inj H).trans hr_.out) (by decide)

/-- THE ONE PURE STATEMENT of laws_FnExactRootedRun: yours. -/
def laws_FnExactRootedRun.Pure : Prop := ∀ (a0 : Int) (a1 : Int), (Lit.int .i64 a0).wf = true → (Lit.int .i64 a1).wf = true → ∃ k, laws_FnExactRootedRun.f k a0 a1 = some true
theorem laws_FnExactRootedRun.walk (P : laws_FnExactRootedRun.Pure) (a0 : Int) (a1 : Int) (w : World) (w0 : (Lit.int .i64 a0).wf = true) (w1 : (Lit.int .i64 a1).wf = true) :
 Calls Try.prog 6 #[.int .i64 a0, .int .i64 a1] w fun e w' => e = .returned (.bool true) ∧ Below w.heap.size w w' := by
 obtain ⟨k, h⟩ := P a0 a1 w0 w1
 refine (laws_FnExactRootedRun.calls k a0 a1 true w ⟨rfl⟩ h).mono ?_
 rintro e w' ⟨rfl, hd⟩
 exact ⟨rfl, hd⟩

end Go.Proofs.Ytcclnblabaoofaa.F
