/- Contracts: what these Go functions return. -/
import Derived.Test.YtcclnblabaoofaaF0
import Derived.Test.YtcclnblabaoofaaF3
import Derived.Test.YtcclnblabaoofaaF4
import Derived.Test.YtcclnblabaoofaaF9
import Derived.Test.YtcclnblabaoofaaF10
import Derived.Test.YtcclnblabaoofaaF11
namespace Go.Proofs.Ytcclnblabaoofaa.F
open Go.RowKit Go.Proofs.YtcclnblabaoofaaW.PrintWords Go.Proofs.YtcclnblabaoofaaW.PrintLast Go.Proofs.YtcclnblabaoofaaW.PrintMore
attribute [local go_sem] max2_int min2_int max_two min_two max_three min_three max_four min_four
set_option linter.unusedVariables false
set_option linter.unusedSimpArgs false

/-! ### laws_FnRun: function 10 -/
def laws_FnRun.f (k : Nat) (l0 : List Int) : Option (Bool) := if (l0.length : Int) > 1048576 then (some true) else ((spec_DrawRootedRun.f k l0).bind fun bt188 => ((impl_RootedRun.f bt188.1 bt188.2).bind fun t190 => ((spec_RootedRun.f k bt188.1 bt188.2).bind fun t191 => (if t190 = t191 then (if t190 < 0 then (some (t190 == t191)) else (if bt188.2 > 0 then (some ((decide (t190 > 0)) == (decide ((wrap64 (2 * bt188.2)) ≤ bt188.1)))) else ((impl_RootedPlane.f k bt188.1).bind fun t192 => (if t190 = t192 then (some ((decide (t190 > 0)) == (decide ((wrap64 (2 * bt188.2)) ≤ bt188.1)))) else (some false))))) else (some (t190 == t191))))))
theorem laws_FnRun.mono : ∀ a0 k, LeO (laws_FnRun.f k a0) (laws_FnRun.f (k + 1) a0) := by
 intro a0 k
 unfold laws_FnRun.f
 repeat' first
  | (with_reducible exact impl_RootedPlane.mono _ _)
  | (with_reducible exact spec_DrawRootedRun.mono _ _)
  | (with_reducible exact spec_RootedRun.mono _ _ _)
  | (with_reducible exact LeO.refl _)
  | (with_reducible exact LeO.none _)
  | (with_reducible refine LeO.ite ?_ ?_)
  | (with_reducible refine LeO.bind ?_ (fun _ => ?_))
  | exact impl_RootedPlane.mono _ _
  | exact spec_DrawRootedRun.mono _ _
  | exact spec_RootedRun.mono _ _ _
  | exact LeO.none _
  | refine LeO.ite ?_ ?_
  | refine LeO.bind ?_ (fun _ => ?_)
set_option maxHeartbeats 8000000 in
set_option maxRecDepth 100000 in
theorem laws_FnRun.calls (k : Nat) (A0 : Option Addr) (c0 : Nat) (l0 : List Int) (r : Bool) (w : World) (hr0 : Kd.C (Kd.int .u8) w A0 l0.length l0) (hc0 : l0.length ≤ c0) (hr_ : Aside0 (r = true)) (h : laws_FnRun.f k l0 = some r) :
 Calls Try.prog 10 #[.slice A0 l0.length c0] w fun e w' => e = .returned (.bool r) ∧ Below w.heap.size w w' := by
 have HR0 := Aside0.mk hr0
 have HC0 := Aside0.mk hc0
 clear hr0 hc0
 have HB := Aside0.mk (Below.refl w.heap.size w)
 have H : (if (l0.length : Int) > 1048576 then (some true) else ((spec_DrawRootedRun.f k l0).bind fun bt188 => ((impl_RootedRun.f bt188.1 bt188.2).bind fun t190 => ((spec_RootedRun.f k bt188.1 bt188.2).bind fun t191 => (if t190 = t191 then (if t190 < 0 then (some (t190 == t191)) else (if bt188.2 > 0 then (some ((decide (t190 > 0)) == (decide ((wrap64 (2 * bt188.2)) ≤ bt188.1)))) else ((impl_RootedPlane.f k bt188.1).bind fun t192 => (if t190 = t192 then (some ((decide (t190 > 0)) == (decide ((wrap64 (2 * bt188.2)) ≤ bt188.1)))) else (some false))))) else (some (t190 == t191))))))) = some r := h
 clear h
 by_cases c2 : (l0.length : Int) > 1048576
 ·rw [if_pos c2] at H
  have c2b0 : decide (1048576 < (l0.length : Int)) = true := decide_eq_true c2
  have c2b1 : decide (1048576 < l0.length) = true := decide_eq_true (by omega)
  clear c2
  obtain rfl := Option.some.inj H
  go_enter Try.func10, Try.ntmps10
  go_wp2
  go_ret
  exact ⟨eR, bP HB⟩
 ·rw [if_neg c2] at H
  have c2b0 : decide (1048576 < (l0.length : Int)) = false := decide_eq_false c2
  have c2b1 : decide (1048576 < l0.length) = false := decide_eq_false (by omega)
  clear c2
  replace H := Option.bind_eq_some_iff.mp H
  obtain ⟨⟨t188, t189⟩, A30, H⟩ := H
  replace H : ((impl_RootedRun.f t188 t189).bind fun t190 => ((spec_RootedRun.f k t188 t189).bind fun t191 => (if t190 = t191 then (if t190 < 0 then (some (t190 == t191)) else (if t189 > 0 then (some ((decide (t190 > 0)) == (decide ((wrap64 (2 * t189)) ≤ t188)))) else ((impl_RootedPlane.f k t188).bind fun t192 => (if t190 = t192 then (some ((decide (t190 > 0)) == (decide ((wrap64 (2 * t189)) ≤ t188)))) else (some false))))) else (some (t190 == t191))))) = some r := H
  have A3 := Aside0.mk A30
  clear A30
  replace H := Option.bind_eq_some_iff.mp H
  obtain ⟨t190, A40, H⟩ := H
  replace H : ((spec_RootedRun.f k t188 t189).bind fun t191 => (if t190 = t191 then (if t190 < 0 then (some (t190 == t191)) else (if t189 > 0 then (some ((decide (t190 > 0)) == (decide ((wrap64 (2 * t189)) ≤ t188)))) else ((impl_RootedPlane.f k t188).bind fun t192 => (if t190 = t192 then (some ((decide (t190 > 0)) == (decide ((wrap64 (2 * t189)) ≤ t188)))) else (some false))))) else (some (t190 == t191)))) = some r := H
  have A4 := Aside0.mk A40
  clear A40
  replace H := Option.bind_eq_some_iff.mp H
  obtain ⟨t191, A50, H⟩ := H
  replace H : (if t190 = t191 then (if t190 < 0 then (some (t190 == t191)) else (if t189 > 0 then (some ((decide (t190 > 0)) == (decide ((wrap64 (2 * t189)) ≤ t188)))) else ((impl_RootedPlane.f k t188).bind fun t192 => (if t190 = t192 then (some ((decide (t190 > 0)) == (decide ((wrap64 (2 * t189)) ≤ t188)))) else (some false))))) else (some (t190 == t191))) = some r := H
  have A5 := Aside0.mk A50
  clear A50
  by_cases c6 : t190 = t191
  ·rw [if_pos c6] at H
   have c6b0 : (t190 == t191) = true := beq_iff_eq.mpr c6
   have c6b1 : (t190 != t191) = false := bne_eq_false_iff_eq.mpr c6
   clear c6
   by_cases c7 : t190 < 0
   ·rw [if_pos c7] at H
    have c7b0 : decide (t190 < 0) = true := decide_eq_true c7
    clear c7
    obtain rfl := Option.some.inj H
    go_enter Try.func10, Try.ntmps10
    go_wp2_with (first | ((with_reducible refine gate_callee (f := 22) rfl ?_); refine gL (some 12) Try.func22 #[.slice A0 l0.length c0] ?_; (with_reducible refine (spec_DrawRootedRun.calls k _ _ l0 t188 t189 _ ?side1 ?side2 A3.out).mono ?_); (case side1 => repeat (first | exact HR0.out | (with_reducible refine Kd.C_alloc ?_ _) | (with_reducible refine Kd.C_drewN ?_ _) | (with_reducible refine Kd.C_drew ?_))); (case side2 => exact HC0.out); rintro e w8 ⟨rfl, hb⟩; refine ⟨_, rfl, ?_⟩; replace HB := bS HB hb; (try clear hb); (try clear hb2); (try clear hk); (try clear hi)) | ((with_reducible refine gate_callee (f := 17) rfl ?_); refine gL (some 17) Try.func17 #[.int .i64 t188, .int .i64 t189] ?_; (with_reducible refine (impl_RootedRun.calls t188 t189 t190 _ A4.out).mono ?_); rintro e w9 ⟨rfl, hb⟩; refine ⟨_, rfl, ?_⟩; replace HB := bS HB hb; (try clear hb); (try clear hb2); (try clear hk); (try clear hi)) | ((with_reducible refine gate_callee (f := 16) rfl ?_); refine gL (some 20) Try.func16 #[.int .i64 t188, .int .i64 t189] ?_; (with_reducible refine (spec_RootedRun.calls k t188 t189 t191 _ A5.out).mono ?_); rintro e w10 ⟨rfl, hb⟩; refine ⟨_, rfl, ?_⟩; replace HB := bS HB hb; (try clear hb); (try clear hb2); (try clear hk); (try clear hi)))
    go_ret
    exact ⟨eR, bP HB⟩
   ·rw [if_neg c7] at H
    have c7b0 : decide (t190 < 0) = false := decide_eq_false c7
    clear c7
    by_cases c11 : t189 > 0
    ·rw [if_pos c11] at H
     have c11b0 : decide (0 < t189) = true := decide_eq_true c11
     clear c11
     obtain rfl := Option.some.inj H
     go_enter Try.func10, Try.ntmps10
     go_wp2_with (first | ((with_reducible refine gate_callee (f := 22) rfl ?_); refine gL (some 12) Try.func22 #[.slice A0 l0.length c0] ?_; (with_reducible refine (spec_DrawRootedRun.calls k _ _ l0 t188 t189 _ ?side1 ?side2 A3.out).mono ?_); (case side1 => repeat (first | exact HR0.out | (with_reducible refine Kd.C_alloc ?_ _) | (with_reducible refine Kd.C_drewN ?_ _) | (with_reducible refine Kd.C_drew ?_))); (case side2 => exact HC0.out); rintro e w12 ⟨rfl, hb⟩; refine ⟨_, rfl, ?_⟩; replace HB := bS HB hb; (try clear hb); (try clear hb2); (try clear hk); (try clear hi)) | ((with_reducible refine gate_callee (f := 17) rfl ?_); refine gL (some 17) Try.func17 #[.int .i64 t188, .int .i64 t189] ?_; (with_reducible refine (impl_RootedRun.calls t188 t189 t190 _ A4.out).mono ?_); rintro e w13 ⟨rfl, hb⟩; refine ⟨_, rfl, ?_⟩; replace HB := bS HB hb; (try clear hb); (try clear hb2); (try clear hk); (try clear hi)) | ((with_reducible refine gate_callee (f := 16) rfl ?_); refine gL (some 20) Try.func16 #[.int .i64 t188, .int .i64 t189] ?_; (with_reducible refine (spec_RootedRun.calls k t188 t189 t191 _ A5.out).mono ?_); rintro e w14 ⟨rfl, hb⟩; refine ⟨_, rfl, ?_⟩; replace HB := bS HB hb; (try clear hb); (try clear hb2); (try clear hk); (try clear hi)))
     go_ret
     exact ⟨eR, bP HB⟩
    ·rw [if_neg c11] at H
     have c11b0 : decide (0 < t189) = false := decide_eq_false c11
     clear c11
     replace H := Option.bind_eq_some_iff.mp H
     obtain ⟨t192, A150, H⟩ := H
     replace H : (if t190 = t192 then (some ((decide (t190 > 0)) == (decide ((wrap64 (2 * t189)) ≤ t188)))) else (some false)) = some r := H
     have A15 := Aside0.mk A150
     clear A150
     by_cases c16 : t190 = t192
     ·rw [if_pos c16] at H
      have c16b0 : (t190 == t192) = true := beq_iff_eq.mpr c16
      have c16b1 : (t190 != t192) = false := bne_eq_false_iff_eq.mpr c16
      clear c16
      obtain rfl := Option.some.inj H
      go_enter Try.func10, Try.ntmps10
      go_wp2_with (first | ((with_reducible refine gate_callee (f := 22) rfl ?_); refine gL (some 12) Try.func22 #[.slice A0 l0.length c0] ?_; (with_reducible refine (spec_DrawRootedRun.calls k _ _ l0 t188 t189 _ ?side1 ?side2 A3.out).mono ?_); (case side1 => repeat (first | exact HR0.out | (with_reducible refine Kd.C_alloc ?_ _) | (with_reducible refine Kd.C_drewN ?_ _) | (with_reducible refine Kd.C_drew ?_))); (case side2 => exact HC0.out); rintro e w17 ⟨rfl, hb⟩; refine ⟨_, rfl, ?_⟩; replace HB := bS HB hb; (try clear hb); (try clear hb2); (try clear hk); (try clear hi)) | ((with_reducible refine gate_callee (f := 17) rfl ?_); refine gL (some 17) Try.func17 #[.int .i64 t188, .int .i64 t189] ?_; (with_reducible refine (impl_RootedRun.calls t188 t189 t190 _ A4.out).mono ?_); rintro e w18 ⟨rfl, hb⟩; refine ⟨_, rfl, ?_⟩; replace HB := bS HB hb; (try clear hb); (try clear hb2); (try clear hk); (try clear hi)) | ((with_reducible refine gate_callee (f := 16) rfl ?_); refine gL (some 20) Try.func16 #[.int .i64 t188, .int .i64 t189] ?_; (with_reducible refine (spec_RootedRun.calls k t188 t189 t191 _ A5.out).mono ?_); rintro e w19 ⟨rfl, hb⟩; refine ⟨_, rfl, ?_⟩; replace HB := bS HB hb; (try clear hb); (try clear hb2); (try clear hk); (try clear hi)) | (go_at_call 15; (with_reducible refine (impl_RootedPlane.calls k t188 t192 _ A15.out).mono ?_); rintro e w' ⟨rfl, ⟨nd, rfl⟩⟩))
      go_ret
      exact ⟨eR, bP HB⟩
     ·rw [if_neg c16] at H
      have c16b0 : (t190 == t192) = false := beq_eq_false_iff_ne.mpr c16
      have c16b1 : (t190 != t192) = true := bne_iff_ne.mpr c16
      exact absurd ((Option.some.inj H).trans hr_.out) (by decide)
  ·rw [if_neg c6] at H
   have c6b0 : (t190 == t191) = false := beq_eq_false_iff_ne.mpr c6
   have c6b1 : (t190 != t191) = true := bne_iff_ne.mpr c6
   obtain rfl := Option.some.inj H
   go_enter Try.func10, Try.ntmps10
   go_wp2_with (first | ((with_reducible refine gate_callee (f := 22) rfl ?_); refine gL (some 12) Try.func22 #[.slice A0 l0.length c0] ?_; (with_reducible refine (spec_DrawRootedRun.calls k _ _ l0 t188 t189 _ ?side1 ?side2 A3.out).mono ?_); (case side1 => repeat (first | exact HR0.out | (with_reducible refine Kd.C_alloc ?_ _) | (with_reducible refine Kd.C_drewN ?_ _) | (with_reducible refine Kd.C_drew ?_))); (case side2 => exact HC0.out); rintro e w20 ⟨rfl, hb⟩; refine ⟨_, rfl, ?_⟩; replace HB := bS HB hb; (try clear hb); (try clear hb2); (try clear hk); (try clear hi)) | ((with_reducible refine gate_callee (f := 17) rfl ?_); refine gL (some 17) Try.func17 #[.int .i64 t188, .int .i64 t189] ?_; (with_reducible refine (impl_RootedRun.calls t188 t189 t190 _ A4.out).mono ?_); rintro e w21 ⟨rfl, hb⟩; refine ⟨_, rfl, ?_⟩; replace HB := bS HB hb; (try clear hb); (try clear hb2); (try clear hk); (try clear hi)) | ((with_reducible refine gate_callee (f := 16) rfl ?_); refine gL (some 20) Try.func16 #[.int .i64 t188, .int .i64 t189] ?_; (with_reducible refine (spec_RootedRun.calls k t188 t189 t191 _ A5.out).mono ?_); rintro e w22 ⟨rfl, hb⟩; refine ⟨_, rfl, ?_⟩; replace HB := bS HB hb; (try clear hb); (try clear hb2); (try clear hk); (try clear hi)))
   go_ret
   exact ⟨eR, bP HB⟩

/-- THE ONE PURE STATEMENT of laws_FnRun: yours. -/
def laws_FnRun.Pure : Prop := ∀ (l0 : List Int), l0.length ≤ maxLen → l0.length * 1 ≤ 140737488351232 → (∀ x ∈ l0, (Lit.int .u8 x).wf = true) → ∃ k, laws_FnRun.f k l0 = some true
theorem laws_FnRun.walk (P : laws_FnRun.Pure) (a0 : Option Addr) (len0 cap0 : Nat) (z0 : List Int) (w : World) (w0 : (a0 = none ∧ len0 = 0 ∧ cap0 = 0 ∧ z0 = []) ∨ ∃ x, a0 = some x ∧ len0 ≤ cap0 ∧ cap0 ≤ maxLen ∧ z0.length = cap0 ∧ (∀ i, i < z0.length → w.cell? (x.add i) = some (.int .u8 (z0.getD i 0))) ∧ ∀ n ∈ z0, (Lit.int .u8 n).wf = true) (y0 : len0 * 1 ≤ 140737488351232) :
 Calls Try.prog 10 #[.slice a0 len0 cap0] w fun e w' => e = .returned (.bool true) ∧ Below w.heap.size w w' := by
 obtain ⟨l0, rfl, hr0, hm0, hw0, hc0⟩ := ReadsInt.ofRowC w0
 obtain ⟨k, h⟩ := P l0 hm0 y0 hw0
 refine (laws_FnRun.calls k _ _ l0 true w (Kd.C_of_reads (d := (0 : Int)) (h1 := fun _ => rfl) hr0) hc0 ⟨rfl⟩ h).mono ?_
 rintro e w' ⟨rfl, hd⟩
 exact ⟨rfl, hd⟩

/-! ### impl_RootedTrees: function 13 -/
def impl_RootedTrees.f (k : Nat) (a0 : Int) : Option (Int) := if a0 < 0 then (some (-1)) else (if a0 > 12 then (some (-1)) else ((impl_choose.f k (wrap64 (2 * a0)) a0).bind fun t193 => (if (wrap64 (a0 + 1)) = 0 then (none) else (some (wrap64 (Int.tdiv t193 (wrap64 (a0 + 1))))))))
theorem impl_RootedTrees.mono : ∀ a0 k, LeO (impl_RootedTrees.f k a0) (impl_RootedTrees.f (k + 1) a0) := by
 intro a0 k
 unfold impl_RootedTrees.f
 repeat' first
  | (with_reducible exact impl_choose.mono _ _ _)
  | (with_reducible exact LeO.refl _)
  | (with_reducible exact LeO.none _)
  | (with_reducible refine LeO.ite ?_ ?_)
  | (with_reducible refine LeO.bind ?_ (fun _ => ?_))
  | exact impl_choose.mono _ _ _
  | exact LeO.none _
  | refine LeO.ite ?_ ?_
  | refine LeO.bind ?_ (fun _ => ?_)
set_option maxHeartbeats 8000000 in
set_option maxRecDepth 100000 in
theorem impl_RootedTrees.calls (k : Nat) (a0 : Int) (r : Int) (w : World) (h : impl_RootedTrees.f k a0 = some r) :
 Calls Try.prog 13 #[.int .i64 a0] w fun e w' => e = .returned (.int .i64 r) ∧ Drawn0 w w' := by
 have H : (if a0 < 0 then (some (-1)) else (if a0 > 12 then (some (-1)) else ((impl_choose.f k (wrap64 (2 * a0)) a0).bind fun t193 => (if (wrap64 (a0 + 1)) = 0 then (none) else (some (wrap64 (Int.tdiv t193 (wrap64 (a0 + 1))))))))) = some r := h
 clear h
 by_cases c2 : a0 < 0
 ·rw [if_pos c2] at H
  have c2b0 : decide (a0 < 0) = true := decide_eq_true c2
  clear c2
  obtain rfl := Option.some.inj H
  go_enter Try.func13, Try.ntmps13
  go_wp2
  go_ret
  exact ⟨by first | rfl | (simp; done) | (simp [*]; done), dP⟩
 ·rw [if_neg c2] at H
  have c2b0 : decide (a0 < 0) = false := decide_eq_false c2
  clear c2
  by_cases c3 : a0 > 12
  ·rw [if_pos c3] at H
   have c3b0 : decide (12 < a0) = true := decide_eq_true c3
   clear c3
   obtain rfl := Option.some.inj H
   go_enter Try.func13, Try.ntmps13
   go_wp2
   go_ret
   exact ⟨by first | rfl | (simp; done) | (simp [*]; done), dP⟩
  ·rw [if_neg c3] at H
   have c3b0 : decide (12 < a0) = false := decide_eq_false c3
   clear c3
   replace H := Option.bind_eq_some_iff.mp H
   obtain ⟨t193, A40, H⟩ := H
   replace H : (if (wrap64 (a0 + 1)) = 0 then (none) else (some (wrap64 (Int.tdiv t193 (wrap64 (a0 + 1)))))) = some r := H
   have A4 := Aside0.mk A40
   clear A40
   by_cases c5 : (wrap64 (a0 + 1)) = 0
   ·rw [if_pos c5] at H
    exact absurd H (by simp)
   ·rw [if_neg c5] at H
    have c5b0 : ((wrap64 (a0 + 1)) == 0) = false := beq_eq_false_iff_ne.mpr c5
    have c5b1 : ((wrap64 (a0 + 1)) != 0) = true := bne_iff_ne.mpr c5
    obtain rfl := Option.some.inj H
    go_enter Try.func13, Try.ntmps13
    go_wp2_with (first | ((with_reducible refine gate_callee (f := 26) rfl ?_); refine gL (some 12) Try.func26 #[.int .i64 (wrap64 (2 * a0)), .int .i64 a0] ?_; (with_reducible refine (impl_choose.calls k (wrap64 (2 * a0)) a0 t193 _ A4.out).mono ?_); rintro e w' ⟨rfl, ⟨nd, rfl⟩⟩; refine ⟨_, rfl, ?_⟩))
    go_ret
    exact ⟨by first | rfl | (simp; done) | (simp [*]; done), dP⟩

end Go.Proofs.Ytcclnblabaoofaa.F
