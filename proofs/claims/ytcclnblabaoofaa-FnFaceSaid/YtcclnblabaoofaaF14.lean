/- Contracts: what these Go functions return. -/
import Derived.Test.YtcclnblabaoofaaF0
import Derived.Test.YtcclnblabaoofaaF7
import Derived.Test.YtcclnblabaoofaaF8
import Derived.Test.YtcclnblabaoofaaF12
import Derived.Test.YtcclnblabaoofaaF13
namespace Go.Proofs.Ytcclnblabaoofaa.F
open Go.RowKit Go.Proofs.YtcclnblabaoofaaW.PrintWords Go.Proofs.YtcclnblabaoofaaW.PrintLast Go.Proofs.YtcclnblabaoofaaW.PrintMore
attribute [local go_sem] max2_int min2_int max_two min_two max_three min_three max_four min_four
set_option linter.unusedVariables false
set_option linter.unusedSimpArgs false

/-! ### laws_FnFace: function 11 -/
def laws_FnFace.f (k : Nat) (l0 : List Int) : Option (Bool) := if (l0.length : Int) > 1048576 then (some true) else ((spec_DrawRootedFace.f k l0).bind fun bt215 => ((impl_RootedFace.f bt215.1 bt215.2).bind fun t217 => ((spec_RootedFace.f k bt215.1 bt215.2).bind fun t218 => (if t217 = t218 then (if t217 < 0 then (some (t217 == t218)) else (if bt215.2 ≤ (wrap64 (2 * bt215.1)) then (if bt215.2 = (wrap64 (2 * bt215.1)) then ((impl_RootedTrees.f k bt215.1).bind fun t219 => (if t217 = t219 then (if bt215.1 > 0 then (some true) else (if bt215.2 > 0 then (some true) else (some (t217 == 1)))) else (some false))) else (if bt215.1 > 0 then (some true) else (if bt215.2 > 0 then (some true) else (some (t217 == 1))))) else (if t217 = 0 then (if bt215.2 = (wrap64 (2 * bt215.1)) then ((impl_RootedTrees.f k bt215.1).bind fun t220 => (if t217 = t220 then (if bt215.1 > 0 then (some true) else (if bt215.2 > 0 then (some true) else (some (t217 == 1)))) else (some false))) else (if bt215.1 > 0 then (some true) else (if bt215.2 > 0 then (some true) else (some (t217 == 1))))) else (some false)))) else (some (t217 == t218))))))
theorem laws_FnFace.mono : ∀ a0 k, LeO (laws_FnFace.f k a0) (laws_FnFace.f (k + 1) a0) := by
 intro a0 k
 unfold laws_FnFace.f
 repeat' first
  | (with_reducible exact impl_RootedTrees.mono _ _)
  | (with_reducible exact spec_DrawRootedFace.mono _ _)
  | (with_reducible exact spec_RootedFace.mono _ _ _)
  | (with_reducible exact LeO.refl _)
  | (with_reducible exact LeO.none _)
  | (with_reducible refine LeO.ite ?_ ?_)
  | (with_reducible refine LeO.bind ?_ (fun _ => ?_))
  | exact impl_RootedTrees.mono _ _
  | exact spec_DrawRootedFace.mono _ _
  | exact spec_RootedFace.mono _ _ _
  | exact LeO.none _
  | refine LeO.ite ?_ ?_
  | refine LeO.bind ?_ (fun _ => ?_)
set_option maxHeartbeats 8000000 in
set_option maxRecDepth 100000 in
theorem laws_FnFace.calls (k : Nat) (A0 : Option Addr) (c0 : Nat) (l0 : List Int) (r : Bool) (w : World) (hr0 : Kd.C (Kd.int .u8) w A0 l0.length l0) (hc0 : l0.length ≤ c0) (hr_ : Aside0 (r = true)) (h : laws_FnFace.f k l0 = some r) :
 Calls Try.prog 11 #[.slice A0 l0.length c0] w fun e w' => e = .returned (.bool r) ∧ Below w.heap.size w w' := by
 have HR0 := Aside0.mk hr0
 have HC0 := Aside0.mk hc0
 clear hr0 hc0
 have HB := Aside0.mk (Below.refl w.heap.size w)
 have H : (if (l0.length : Int) > 1048576 then (some true) else ((spec_DrawRootedFace.f k l0).bind fun bt215 => ((impl_RootedFace.f bt215.1 bt215.2).bind fun t217 => ((spec_RootedFace.f k bt215.1 bt215.2).bind fun t218 => (if t217 = t218 then (if t217 < 0 then (some (t217 == t218)) else (if bt215.2 ≤ (wrap64 (2 * bt215.1)) then (if bt215.2 = (wrap64 (2 * bt215.1)) then ((impl_RootedTrees.f k bt215.1).bind fun t219 => (if t217 = t219 then (if bt215.1 > 0 then (some true) else (if bt215.2 > 0 then (some true) else (some (t217 == 1)))) else (some false))) else (if bt215.1 > 0 then (some true) else (if bt215.2 > 0 then (some true) else (some (t217 == 1))))) else (if t217 = 0 then (if bt215.2 = (wrap64 (2 * bt215.1)) then ((impl_RootedTrees.f k bt215.1).bind fun t220 => (if t217 = t220 then (if bt215.1 > 0 then (some true) else (if bt215.2 > 0 then (some true) else (some (t217 == 1)))) else (some false))) else (if bt215.1 > 0 then (some true) else (if bt215.2 > 0 then (some true) else (some (t217 == 1))))) else (some false)))) else (some (t217 == t218))))))) = some r := h
 clear h
 by_cases c2 : (l0.length : Int) > 1048576
 ·rw [if_pos c2] at H
  have c2b0 : decide (1048576 < (l0.length : Int)) = true := decide_eq_true c2
  have c2b1 : decide (1048576 < l0.length) = true := decide_eq_true (by omega)
  clear c2
  obtain rfl := Option.some.inj H
  go_enter Try.func11, Try.ntmps11
  go_wp2
  go_ret
  exact ⟨eR, bP HB⟩
 ·rw [if_neg c2] at H
  have c2b0 : decide (1048576 < (l0.length : Int)) = false := decide_eq_false c2
  have c2b1 : decide (1048576 < l0.length) = false := decide_eq_false (by omega)
  clear c2
  replace H := Option.bind_eq_some_iff.mp H
  obtain ⟨⟨t215, t216⟩, A30, H⟩ := H
  replace H : ((impl_RootedFace.f t215 t216).bind fun t217 => ((spec_RootedFace.f k t215 t216).bind fun t218 => (if t217 = t218 then (if t217 < 0 then (some (t217 == t218)) else (if t216 ≤ (wrap64 (2 * t215)) then (if t216 = (wrap64 (2 * t215)) then ((impl_RootedTrees.f k t215).bind fun t219 => (if t217 = t219 then (if t215 > 0 then (some true) else (if t216 > 0 then (some true) else (some (t217 == 1)))) else (some false))) else (if t215 > 0 then (some true) else (if t216 > 0 then (some true) else (some (t217 == 1))))) else (if t217 = 0 then (if t216 = (wrap64 (2 * t215)) then ((impl_RootedTrees.f k t215).bind fun t220 => (if t217 = t220 then (if t215 > 0 then (some true) else (if t216 > 0 then (some true) else (some (t217 == 1)))) else (some false))) else (if t215 > 0 then (some true) else (if t216 > 0 then (some true) else (some (t217 == 1))))) else (some false)))) else (some (t217 == t218))))) = some r := H
  have A3 := Aside0.mk A30
  clear A30
  replace H := Option.bind_eq_some_iff.mp H
  obtain ⟨t217, A40, H⟩ := H
  replace H : ((spec_RootedFace.f k t215 t216).bind fun t218 => (if t217 = t218 then (if t217 < 0 then (some (t217 == t218)) else (if t216 ≤ (wrap64 (2 * t215)) then (if t216 = (wrap64 (2 * t215)) then ((impl_RootedTrees.f k t215).bind fun t219 => (if t217 = t219 then (if t215 > 0 then (some true) else (if t216 > 0 then (some true) else (some (t217 == 1)))) else (some false))) else (if t215 > 0 then (some true) else (if t216 > 0 then (some true) else (some (t217 == 1))))) else (if t217 = 0 then (if t216 = (wrap64 (2 * t215)) then ((impl_RootedTrees.f k t215).bind fun t220 => (if t217 = t220 then (if t215 > 0 then (some true) else (if t216 > 0 then (some true) else (some (t217 == 1)))) else (some false))) else (if t215 > 0 then (some true) else (if t216 > 0 then (some true) else (some (t217 == 1))))) else (some false)))) else (some (t217 == t218)))) = some r := H
  have A4 := Aside0.mk A40
  clear A40
  replace H := Option.bind_eq_some_iff.mp H
  obtain ⟨t218, A50, H⟩ := H
  replace H : (if t217 = t218 then (if t217 < 0 then (some (t217 == t218)) else (if t216 ≤ (wrap64 (2 * t215)) then (if t216 = (wrap64 (2 * t215)) then ((impl_RootedTrees.f k t215).bind fun t219 => (if t217 = t219 then (if t215 > 0 then (some true) else (if t216 > 0 then (some true) else (some (t217 == 1)))) else (some false))) else (if t215 > 0 then (some true) else (if t216 > 0 then (some true) else (some (t217 == 1))))) else (if t217 = 0 then (if t216 = (wrap64 (2 * t215)) then ((impl_RootedTrees.f k t215).bind fun t220 => (if t217 = t220 then (if t215 > 0 then (some true) else (if t216 > 0 then (some true) else (some (t217 == 1)))) else (some false))) else (if t215 > 0 then (some true) else (if t216 > 0 then (some true) else (some (t217 == 1))))) else (some false)))) else (some (t217 == t218))) = some r := H
  have A5 := Aside0.mk A50
  clear A50
  by_cases c6 : t217 = t218
  ·rw [if_pos c6] at H
   have c6b0 : (t217 == t218) = true := beq_iff_eq.mpr c6
   have c6b1 : (t217 != t218) = false := bne_eq_false_iff_eq.mpr c6
   clear c6
   by_cases c7 : t217 < 0
   ·rw [if_pos c7] at H
    have c7b0 : decide (t217 < 0) = true := decide_eq_true c7
    clear c7
    obtain rfl := Option.some.inj H
    go_enter Try.func11, Try.ntmps11
    go_wp2_with (first | ((with_reducible refine gate_callee (f := 23) rfl ?_); refine gL (some 12) Try.func23 #[.slice A0 l0.length c0] ?_; (with_reducible refine (spec_DrawRootedFace.calls k _ _ l0 t215 t216 _ ?side1 ?side2 A3.out).mono ?_); (case side1 => repeat (first | exact HR0.out | (with_reducible refine Kd.C_alloc ?_ _) | (with_reducible refine Kd.C_drewN ?_ _) | (with_reducible refine Kd.C_drew ?_))); (case side2 => exact HC0.out); rintro e w8 ⟨rfl, hb⟩; refine ⟨_, rfl, ?_⟩; replace HB := bS HB hb; (try clear hb); (try clear hb2); (try clear hk); (try clear hi)) | ((with_reducible refine gate_callee (f := 19) rfl ?_); refine gL (some 17) Try.func19 #[.int .i64 t215, .int .i64 t216] ?_; (with_reducible refine (impl_RootedFace.calls t215 t216 t217 _ A4.out).mono ?_); rintro e w9 ⟨rfl, hb⟩; refine ⟨_, rfl, ?_⟩; replace HB := bS HB hb; (try clear hb); (try clear hb2); (try clear hk); (try clear hi)) | ((with_reducible refine gate_callee (f := 18) rfl ?_); refine gL (some 20) Try.func18 #[.int .i64 t215, .int .i64 t216] ?_; (with_reducible refine (spec_RootedFace.calls k t215 t216 t218 _ A5.out).mono ?_); rintro e w10 ⟨rfl, hb⟩; refine ⟨_, rfl, ?_⟩; replace HB := bS HB hb; (try clear hb); (try clear hb2); (try clear hk); (try clear hi)))
    go_ret
    exact ⟨eR, bP HB⟩
   ·rw [if_neg c7] at H
    have c7b0 : decide (t217 < 0) = false := decide_eq_false c7
    clear c7
    by_cases c11 : t216 ≤ (wrap64 (2 * t215))
    ·rw [if_pos c11] at H
     have c11b0 : decide (t216 ≤ (wrap64 (2 * t215))) = true := decide_eq_true c11
     clear c11
     by_cases c12 : t216 = (wrap64 (2 * t215))
     ·rw [if_pos c12] at H
      have c12b0 : (t216 == (wrap64 (2 * t215))) = true := beq_iff_eq.mpr c12
      have c12b1 : (t216 != (wrap64 (2 * t215))) = false := bne_eq_false_iff_eq.mpr c12
      clear c12
      replace H := Option.bind_eq_some_iff.mp H
      obtain ⟨t219, A130, H⟩ := H
      replace H : (if t217 = t219 then (if t215 > 0 then (some true) else (if t216 > 0 then (some true) else (some (t217 == 1)))) else (some false)) = some r := H
      have A13 := Aside0.mk A130
      clear A130
      by_cases c14 : t217 = t219
      ·rw [if_pos c14] at H
       have c14b0 : (t217 == t219) = true := beq_iff_eq.mpr c14
       have c14b1 : (t217 != t219) = false := bne_eq_false_iff_eq.mpr c14
       clear c14
       by_cases c15 : t215 > 0
       ·rw [if_pos c15] at H
        have c15b0 : decide (0 < t215) = true := decide_eq_true c15
        clear c15
        obtain rfl := Option.some.inj H
        go_enter Try.func11, Try.ntmps11
        go_wp2_with (first | ((with_reducible refine gate_callee (f := 23) rfl ?_); refine gL (some 12) Try.func23 #[.slice A0 l0.length c0] ?_; (with_reducible refine (spec_DrawRootedFace.calls k _ _ l0 t215 t216 _ ?side1 ?side2 A3.out).mono ?_); (case side1 => repeat (first | exact HR0.out | (with_reducible refine Kd.C_alloc ?_ _) | (with_reducible refine Kd.C_drewN ?_ _) | (with_reducible refine Kd.C_drew ?_))); (case side2 => exact HC0.out); rintro e w16 ⟨rfl, hb⟩; refine ⟨_, rfl, ?_⟩; replace HB := bS HB hb; (try clear hb); (try clear hb2); (try clear hk); (try clear hi)) | ((with_reducible refine gate_callee (f := 19) rfl ?_); refine gL (some 17) Try.func19 #[.int .i64 t215, .int .i64 t216] ?_; (with_reducible refine (impl_RootedFace.calls t215 t216 t217 _ A4.out).mono ?_); rintro e w17 ⟨rfl, hb⟩; refine ⟨_, rfl, ?_⟩; replace HB := bS HB hb; (try clear hb); (try clear hb2); (try clear hk); (try clear hi)) | ((with_reducible refine gate_callee (f := 18) rfl ?_); refine gL (some 20) Try.func18 #[.int .i64 t215, .int .i64 t216] ?_; (with_reducible refine (spec_RootedFace.calls k t215 t216 t218 _ A5.out).mono ?_); rintro e w18 ⟨rfl, hb⟩; refine ⟨_, rfl, ?_⟩; replace HB := bS HB hb; (try clear hb); (try clear hb2); (try clear hk); (try clear hi)) | (go_at_call 13; (with_reducible refine (impl_RootedTrees.calls k t215 t219 _ A13.out).mono ?_); rintro e w' ⟨rfl, ⟨nd, rfl⟩⟩))
        go_ret
        exact ⟨eR, bP HB⟩
       ·rw [if_neg c15] at H
        have c15b0 : decide (0 < t215) = false := decide_eq_false c15
        clear c15
        by_cases c19 : t216 > 0
        ·rw [if_pos c19] at H
         have c19b0 : decide (0 < t216) = true := decide_eq_true c19
         clear c19
         obtain rfl := Option.some.inj H
         go_enter Try.func11, Try.ntmps11
         go_wp2_with (first | ((with_reducible refine gate_callee (f := 23) rfl ?_); refine gL (some 12) Try.func23 #[.slice A0 l0.length c0] ?_; (with_reducible refine (spec_DrawRootedFace.calls k _ _ l0 t215 t216 _ ?side1 ?side2 A3.out).mono ?_); (case side1 => repeat (first | exact HR0.out | (with_reducible refine Kd.C_alloc ?_ _) | (with_reducible refine Kd.C_drewN ?_ _) | (with_reducible refine Kd.C_drew ?_))); (case side2 => exact HC0.out); rintro e w20 ⟨rfl, hb⟩; refine ⟨_, rfl, ?_⟩; replace HB := bS HB hb; (try clear hb); (try clear hb2); (try clear hk); (try clear hi)) | ((with_reducible refine gate_callee (f := 19) rfl ?_); refine gL (some 17) Try.func19 #[.int .i64 t215, .int .i64 t216] ?_; (with_reducible refine (impl_RootedFace.calls t215 t216 t217 _ A4.out).mono ?_); rintro e w21 ⟨rfl, hb⟩; refine ⟨_, rfl, ?_⟩; replace HB := bS HB hb; (try clear hb); (try clear hb2); (try clear hk); (try clear hi)) | ((with_reducible refine gate_callee (f := 18) rfl ?_); refine gL (some 20) Try.func18 #[.int .i64 t215, .int .i64 t216] ?_; (with_reducible refine (spec_RootedFace.calls k t215 t216 t218 _ A5.out).mono ?_); rintro e w22 ⟨rfl, hb⟩; refine ⟨_, rfl, ?_⟩; replace HB := bS HB hb; (try clear hb); (try clear hb2); (try clear hk); (try clear hi)) | (go_at_call 13; (with_reducible refine (impl_RootedTrees.calls k t215 t219 _ A13.out).mono ?_); rintro e w' ⟨rfl, ⟨nd, rfl⟩⟩))
         go_ret
         exact ⟨eR, bP HB⟩
        ·rw [if_neg c19] at H
         have c19b0 : decide (0 < t216) = false := decide_eq_false c19
         clear c19
         obtain rfl := Option.some.inj H
         go_enter Try.func11, Try.ntmps11
         go_wp2_with (first | ((with_reducible refine gate_callee (f := 23) rfl ?_); refine gL (some 12) Try.func23 #[.slice A0 l0.length c0] ?_; (with_reducible refine (spec_DrawRootedFace.calls k _ _ l0 t215 t216 _ ?side1 ?side2 A3.out).mono ?_); (case side1 => repeat (first | exact HR0.out | (with_reducible refine Kd.C_alloc ?_ _) | (with_reducible refine Kd.C_drewN ?_ _) | (with_reducible refine Kd.C_drew ?_))); (case side2 => exact HC0.out); rintro e w23 ⟨rfl, hb⟩; refine ⟨_, rfl, ?_⟩; replace HB := bS HB hb; (try clear hb); (try clear hb2); (try clear hk); (try clear hi)) | ((with_reducible refine gate_callee (f := 19) rfl ?_); refine gL (some 17) Try.func19 #[.int .i64 t215, .int .i64 t216] ?_; (with_reducible refine (impl_RootedFace.calls t215 t216 t217 _ A4.out).mono ?_); rintro e w24 ⟨rfl, hb⟩; refine ⟨_, rfl, ?_⟩; replace HB := bS HB hb; (try clear hb); (try clear hb2); (try clear hk); (try clear hi)) | ((with_reducible refine gate_callee (f := 18) rfl ?_); refine gL (some 20) Try.func18 #[.int .i64 t215, .int .i64 t216] ?_; (with_reducible refine (spec_RootedFace.calls k t215 t216 t218 _ A5.out).mono ?_); rintro e w25 ⟨rfl, hb⟩; refine ⟨_, rfl, ?_⟩; replace HB := bS HB hb; (try clear hb); (try clear hb2); (try clear hk); (try clear hi)) | (go_at_call 13; (with_reducible refine (impl_RootedTrees.calls k t215 t219 _ A13.out).mono ?_); rintro e w' ⟨rfl, ⟨nd, rfl⟩⟩))
         go_ret
         exact ⟨eR, bP HB⟩
      ·rw [if_neg c14] at H
       have c14b0 : (t217 == t219) = false := beq_eq_false_iff_ne.mpr c14
       have c14b1 : (t217 != t219) = true := bne_iff_ne.mpr c14
       exact absurd ((Option.some.inj H).trans hr_.out) (by decide)
     ·rw [if_neg c12] at H
      have c12b0 : (t216 == (wrap64 (2 * t215))) = false := beq_eq_false_iff_ne.mpr c12
      have c12b1 : (t216 != (wrap64 (2 * t215))) = true := bne_iff_ne.mpr c12
      by_cases c26 : t215 > 0
      ·rw [if_pos c26] at H
       have c26b0 : decide (0 < t215) = true := decide_eq_true c26
       clear c26
       obtain rfl := Option.some.inj H
       go_enter Try.func11, Try.ntmps11
       go_wp2_with (first | ((with_reducible refine gate_callee (f := 23) rfl ?_); refine gL (some 12) Try.func23 #[.slice A0 l0.length c0] ?_; (with_reducible refine (spec_DrawRootedFace.calls k _ _ l0 t215 t216 _ ?side1 ?side2 A3.out).mono ?_); (case side1 => repeat (first | exact HR0.out | (with_reducible refine Kd.C_alloc ?_ _) | (with_reducible refine Kd.C_drewN ?_ _) | (with_reducible refine Kd.C_drew ?_))); (case side2 => exact HC0.out); rintro e w27 ⟨rfl, hb⟩; refine ⟨_, rfl, ?_⟩; replace HB := bS HB hb; (try clear hb); (try clear hb2); (try clear hk); (try clear hi)) | ((with_reducible refine gate_callee (f := 19) rfl ?_); refine gL (some 17) Try.func19 #[.int .i64 t215, .int .i64 t216] ?_; (with_reducible refine (impl_RootedFace.calls t215 t216 t217 _ A4.out).mono ?_); rintro e w28 ⟨rfl, hb⟩; refine ⟨_, rfl, ?_⟩; replace HB := bS HB hb; (try clear hb); (try clear hb2); (try clear hk); (try clear hi)) | ((with_reducible refine gate_callee (f := 18) rfl ?_); refine gL (some 20) Try.func18 #[.int .i64 t215, .int .i64 t216] ?_; (with_reducible refine (spec_RootedFace.calls k t215 t216 t218 _ A5.out).mono ?_); rintro e w29 ⟨rfl, hb⟩; refine ⟨_, rfl, ?_⟩; replace HB := bS HB hb; (try clear hb); (try clear hb2); (try clear hk); (try clear hi)))
       go_ret
       exact ⟨eR, bP HB⟩
      ·rw [if_neg c26] at H
       have c26b0 : decide (0 < t215) = false := decide_eq_false c26
       clear c26
       by_cases c30 : t216 > 0
       ·rw [if_pos c30] at H
        have c30b0 : decide (0 < t216) = true := decide_eq_true c30
        clear c30
        obtain rfl := Option.some.inj H
        go_enter Try.func11, Try.ntmps11
        go_wp2_with (first | ((with_reducible refine gate_callee (f := 23) rfl ?_); refine gL (some 12) Try.func23 #[.slice A0 l0.length c0] ?_; (with_reducible refine (spec_DrawRootedFace.calls k _ _ l0 t215 t216 _ ?side1 ?side2 A3.out).mono ?_); (case side1 => repeat (first | exact HR0.out | (with_reducible refine Kd.C_alloc ?_ _) | (with_reducible refine Kd.C_drewN ?_ _) | (with_reducible refine Kd.C_drew ?_))); (case side2 => exact HC0.out); rintro e w31 ⟨rfl, hb⟩; refine ⟨_, rfl, ?_⟩; replace HB := bS HB hb; (try clear hb); (try clear hb2); (try clear hk); (try clear hi)) | ((with_reducible refine gate_callee (f := 19) rfl ?_); refine gL (some 17) Try.func19 #[.int .i64 t215, .int .i64 t216] ?_; (with_reducible refine (impl_RootedFace.calls t215 t216 t217 _ A4.out).mono ?_); rintro e w32 ⟨rfl, hb⟩; refine ⟨_, rfl, ?_⟩; replace HB := bS HB hb; (try clear hb); (try clear hb2); (try clear hk); (try clear hi)) | ((with_reducible refine gate_callee (f := 18) rfl ?_); refine gL (some 20) Try.func18 #[.int .i64 t215, .int .i64 t216] ?_; (with_reducible refine (spec_RootedFace.calls k t215 t216 t218 _ A5.out).mono ?_); rintro e w33 ⟨rfl, hb⟩; refine ⟨_, rfl, ?_⟩; replace HB := bS HB hb; (try clear hb); (try clear hb2); (try clear hk); (try clear hi)))
        go_ret
        exact ⟨eR, bP HB⟩
       ·rw [if_neg c30] at H
        have c30b0 : decide (0 < t216) = false := decide_eq_false c30
        clear c30
        obtain rfl := Option.some.inj H
        go_enter Try.func11, Try.ntmps11
        go_wp2_with (first | ((with_reducible refine gate_callee (f := 23) rfl ?_); refine gL (some 12) Try.func23 #[.slice A0 l0.length c0] ?_; (with_reducible refine (spec_DrawRootedFace.calls k _ _ l0 t215 t216 _ ?side1 ?side2 A3.out).mono ?_); (case side1 => repeat (first | exact HR0.out | (with_reducible refine Kd.C_alloc ?_ _) | (with_reducible refine Kd.C_drewN ?_ _) | (with_reducible refine Kd.C_drew ?_))); (case side2 => exact HC0.out); rintro e w34 ⟨rfl, hb⟩; refine ⟨_, rfl, ?_⟩; replace HB := bS HB hb; (try clear hb); (try clear hb2); (try clear hk); (try clear hi)) | ((with_reducible refine gate_callee (f := 19) rfl ?_); refine gL (some 17) Try.func19 #[.int .i64 t215, .int .i64 t216] ?_; (with_reducible refine (impl_RootedFace.calls t215 t216 t217 _ A4.out).mono ?_); rintro e w35 ⟨rfl, hb⟩; refine ⟨_, rfl, ?_⟩; replace HB := bS HB hb; (try clear hb); (try clear hb2); (try clear hk); (try clear hi)) | ((with_reducible refine gate_callee (f := 18) rfl ?_); refine gL (some 20) Try.func18 #[.int .i64 t215, .int .i64 t216] ?_; (with_reducible refine (spec_RootedFace.calls k t215 t216 t218 _ A5.out).mono ?_); rintro e w36 ⟨rfl, hb⟩; refine ⟨_, rfl, ?_⟩; replace HB := bS HB hb; (try clear hb); (try clear hb2); (try clear hk); (try clear hi)))
        go_ret
        exact ⟨eR, bP HB⟩
    ·rw [if_neg c11] at H
     have c11b0 : decide (t216 ≤ (wrap64 (2 * t215))) = false := decide_eq_false c11
     clear c11
     by_cases c37 : t217 = 0
     ·rw [if_pos c37] at H
      have c37b0 : (t217 == 0) = true := beq_iff_eq.mpr c37
      have c37b1 : (t217 != 0) = false := bne_eq_false_iff_eq.mpr c37
      clear c37
      by_cases c38 : t216 = (wrap64 (2 * t215))
      ·rw [if_pos c38] at H
       have c38b0 : (t216 == (wrap64 (2 * t215))) = true := beq_iff_eq.mpr c38
       have c38b1 : (t216 != (wrap64 (2 * t215))) = false := bne_eq_false_iff_eq.mpr c38
       clear c38
       replace H := Option.bind_eq_some_iff.mp H
       obtain ⟨t220, A390, H⟩ := H
       replace H : (if t217 = t220 then (if t215 > 0 then (some true) else (if t216 > 0 then (some true) else (some (t217 == 1)))) else (some false)) = some r := H
       have A39 := Aside0.mk A390
       clear A390
       by_cases c40 : t217 = t220
       ·rw [if_pos c40] at H
        have c40b0 : (t217 == t220) = true := beq_iff_eq.mpr c40
        have c40b1 : (t217 != t220) = false := bne_eq_false_iff_eq.mpr c40
        clear c40
        by_cases c41 : t215 > 0
        ·rw [if_pos c41] at H
         have c41b0 : decide (0 < t215) = true := decide_eq_true c41
         clear c41
         obtain rfl := Option.some.inj H
         go_enter Try.func11, Try.ntmps11
         go_wp2_with (first | ((with_reducible refine gate_callee (f := 23) rfl ?_); refine gL (some 12) Try.func23 #[.slice A0 l0.length c0] ?_; (with_reducible refine (spec_DrawRootedFace.calls k _ _ l0 t215 t216 _ ?side1 ?side2 A3.out).mono ?_); (case side1 => repeat (first | exact HR0.out | (with_reducible refine Kd.C_alloc ?_ _) | (with_reducible refine Kd.C_drewN ?_ _) | (with_reducible refine Kd.C_drew ?_))); (case side2 => exact HC0.out); rintro e w42 ⟨rfl, hb⟩; refine ⟨_, rfl, ?_⟩; replace HB := bS HB hb; (try clear hb); (try clear hb2); (try clear hk); (try clear hi)) | ((with_reducible refine gate_callee (f := 19) rfl ?_); refine gL (some 17) Try.func19 #[.int .i64 t215, .int .i64 t216] ?_; (with_reducible refine (impl_RootedFace.calls t215 t216 t217 _ A4.out).mono ?_); rintro e w43 ⟨rfl, hb⟩; refine ⟨_, rfl, ?_⟩; replace HB := bS HB hb; (try clear hb); (try clear hb2); (try clear hk); (try clear hi)) | ((with_reducible refine gate_callee (f := 18) rfl ?_); refine gL (some 20) Try.func18 #[.int .i64 t215, .int .i64 t216] ?_; (with_reducible refine (spec_RootedFace.calls k t215 t216 t218 _ A5.out).mono ?_); rintro e w44 ⟨rfl, hb⟩; refine ⟨_, rfl, ?_⟩; replace HB := bS HB hb; (try clear hb); (try clear hb2); (try clear hk); (try clear hi)) | (go_at_call 13; (with_reducible refine (impl_RootedTrees.calls k t215 t220 _ A39.out).mono ?_); rintro e w' ⟨rfl, ⟨nd, rfl⟩⟩))
         go_ret
         exact ⟨eR, bP HB⟩
        ·rw [if_neg c41] at H
         have c41b0 : decide (0 < t215) = false := decide_eq_false c41
         clear c41
         by_cases c45 : t216 > 0
         ·rw [if_pos c45] at H
          have c45b0 : decide (0 < t216) = true := decide_eq_true c45
          clear c45
          obtain rfl := Option.some.inj H
          go_enter Try.func11, Try.ntmps11
          go_wp2_with (first | ((with_reducible refine gate_callee (f := 23) rfl ?_); refine gL (some 12) Try.func23 #[.slice A0 l0.length c0] ?_; (with_reducible refine (spec_DrawRootedFace.calls k _ _ l0 t215 t216 _ ?side1 ?side2 A3.out).mono ?_); (case side1 => repeat (first | exact HR0.out | (with_reducible refine Kd.C_alloc ?_ _) | (with_reducible refine Kd.C_drewN ?_ _) | (with_reducible refine Kd.C_drew ?_))); (case side2 => exact HC0.out); rintro e w46 ⟨rfl, hb⟩; refine ⟨_, rfl, ?_⟩; replace HB := bS HB hb; (try clear hb); (try clear hb2); (try clear hk); (try clear hi)) | ((with_reducible refine gate_callee (f := 19) rfl ?_); refine gL (some 17) Try.func19 #[.int .i64 t215, .int .i64 t216] ?_; (with_reducible refine (impl_RootedFace.calls t215 t216 t217 _ A4.out).mono ?_); rintro e w47 ⟨rfl, hb⟩; refine ⟨_, rfl, ?_⟩; replace HB := bS HB hb; (try clear hb); (try clear hb2); (try clear hk); (try clear hi)) | ((with_reducible refine gate_callee (f := 18) rfl ?_); refine gL (some 20) Try.func18 #[.int .i64 t215, .int .i64 t216] ?_; (with_reducible refine (spec_RootedFace.calls k t215 t216 t218 _ A5.out).mono ?_); rintro e w48 ⟨rfl, hb⟩; refine ⟨_, rfl, ?_⟩; replace HB := bS HB hb; (try clear hb); (try clear hb2); (try clear hk); (try clear hi)) | (go_at_call 13; (with_reducible refine (impl_RootedTrees.calls k t215 t220 _ A39.out).mono ?_); rintro e w' ⟨rfl, ⟨nd, rfl⟩⟩))
          go_ret
          exact ⟨eR, bP HB⟩
         ·rw [if_neg c45] at H
          have c45b0 : decide (0 < t216) = false := decide_eq_false c45
          clear c45
          obtain rfl := Option.some.inj H
          go_enter Try.func11, Try.ntmps11
          go_wp2_with (first | ((with_reducible refine gate_callee (f := 23) rfl ?_); refine gL (some 12) Try.func23 #[.slice A0 l0.length c0] ?_; (with_reducible refine (spec_DrawRootedFace.calls k _ _ l0 t215 t216 _ ?side1 ?side2 A3.out).mono ?_); (case side1 => repeat (first | exact HR0.out | (with_reducible refine Kd.C_alloc ?_ _) | (with_reducible refine Kd.C_drewN ?_ _) | (with_reducible refine Kd.C_drew ?_))); (case side2 => exact HC0.out); rintro e w49 ⟨rfl, hb⟩; refine ⟨_, rfl, ?_⟩; replace HB := bS HB hb; (try clear hb); (try clear hb2); (try clear hk); (try clear hi)) | ((with_reducible refine gate_callee (f := 19) rfl ?_); refine gL (some 17) Try.func19 #[.int .i64 t215, .int .i64 t216] ?_; (with_reducible refine (impl_RootedFace.calls t215 t216 t217 _ A4.out).mono ?_); rintro e w50 ⟨rfl, hb⟩; refine ⟨_, rfl, ?_⟩; replace HB := bS HB hb; (try clear hb); (try clear hb2); (try clear hk); (try clear hi)) | ((with_reducible refine gate_callee (f := 18) rfl ?_); refine gL (some 20) Try.func18 #[.int .i64 t215, .int .i64 t216] ?_; (with_reducible refine (spec_RootedFace.calls k t215 t216 t218 _ A5.out).mono ?_); rintro e w51 ⟨rfl, hb⟩; refine ⟨_, rfl, ?_⟩; replace HB := bS HB hb; (try clear hb); (try clear hb2); (try clear hk); (try clear hi)) | (go_at_call 13; (with_reducible refine (impl_RootedTrees.calls k t215 t220 _ A39.out).mono ?_); rintro e w' ⟨rfl, ⟨nd, rfl⟩⟩))
          go_ret
          exact ⟨eR, bP HB⟩
       ·rw [if_neg c40] at H
        have c40b0 : (t217 == t220) = false := beq_eq_false_iff_ne.mpr c40
        have c40b1 : (t217 != t220) = true := bne_iff_ne.mpr c40
        exact absurd ((Option.some.inj H).trans hr_.out) (by decide)
      ·rw [if_neg c38] at H
       have c38b0 : (t216 == (wrap64 (2 * t215))) = false := beq_eq_false_iff_ne.mpr c38
       have c38b1 : (t216 != (wrap64 (2 * t215))) = true := bne_iff_ne.mpr c38
       by_cases c52 : t215 > 0
       ·rw [if_pos c52] at H
        have c52b0 : decide (0 < t215) = true := decide_eq_true c52
        clear c52
        obtain rfl := Option.some.inj H
        go_enter Try.func11, Try.ntmps11
        go_wp2_with (first | ((with_reducible refine gate_callee (f := 23) rfl ?_); refine gL (some 12) Try.func23 #[.slice A0 l0.length c0] ?_; (with_reducible refine (spec_DrawRootedFace.calls k _ _ l0 t215 t216 _ ?side1 ?side2 A3.out).mono ?_); (case side1 => repeat (first | exact HR0.out | (with_reducible refine Kd.C_alloc ?_ _) | (with_reducible refine Kd.C_drewN ?_ _) | (with_reducible refine Kd.C_drew ?_))); (case side2 => exact HC0.out); rintro e w53 ⟨rfl, hb⟩; refine ⟨_, rfl, ?_⟩; replace HB := bS HB hb; (try clear hb); (try clear hb2); (try clear hk); (try clear hi)) | ((with_reducible refine gate_callee (f := 19) rfl ?_); refine gL (some 17) Try.func19 #[.int .i64 t215, .int .i64 t216] ?_; (with_reducible refine (impl_RootedFace.calls t215 t216 t217 _ A4.out).mono ?_); rintro e w54 ⟨rfl, hb⟩; refine ⟨_, rfl, ?_⟩; replace HB := bS HB hb; (try clear hb); (try clear hb2); (try clear hk); (try clear hi)) | ((with_reducible refine gate_callee (f := 18) rfl ?_); refine gL (some 20) Try.func18 #[.int .i64 t215, .int .i64 t216] ?_; (with_reducible refine (spec_RootedFace.calls k t215 t216 t218 _ A5.out).mono ?_); rintro e w55 ⟨rfl, hb⟩; refine ⟨_, rfl, ?_⟩; replace HB := bS HB hb; (try clear hb); (try clear hb2); (try clear hk); (try clear hi)))
        go_ret
        exact ⟨eR, bP HB⟩
       ·rw [if_neg c52] at H
        have c52b0 : decide (0 < t215) = false := decide_eq_false c52
        clear c52
        by_cases c56 : t216 > 0
        ·rw [if_pos c56] at H
         have c56b0 : decide (0 < t216) = true := decide_eq_true c56
         clear c56
         obtain rfl := Option.some.inj H
         go_enter Try.func11, Try.ntmps11
         go_wp2_with (first | ((with_reducible refine gate_callee (f := 23) rfl ?_); refine gL (some 12) Try.func23 #[.slice A0 l0.length c0] ?_; (with_reducible refine (spec_DrawRootedFace.calls k _ _ l0 t215 t216 _ ?side1 ?side2 A3.out).mono ?_); (case side1 => repeat (first | exact HR0.out | (with_reducible refine Kd.C_alloc ?_ _) | (with_reducible refine Kd.C_drewN ?_ _) | (with_reducible refine Kd.C_drew ?_))); (case side2 => exact HC0.out); rintro e w57 ⟨rfl, hb⟩; refine ⟨_, rfl, ?_⟩; replace HB := bS HB hb; (try clear hb); (try clear hb2); (try clear hk); (try clear hi)) | ((with_reducible refine gate_callee (f := 19) rfl ?_); refine gL (some 17) Try.func19 #[.int .i64 t215, .int .i64 t216] ?_; (with_reducible refine (impl_RootedFace.calls t215 t216 t217 _ A4.out).mono ?_); rintro e w58 ⟨rfl, hb⟩; refine ⟨_, rfl, ?_⟩; replace HB := bS HB hb; (try clear hb); (try clear hb2); (try clear hk); (try clear hi)) | ((with_reducible refine gate_callee (f := 18) rfl ?_); refine gL (some 20) Try.func18 #[.int .i64 t215, .int .i64 t216] ?_; (with_reducible refine (spec_RootedFace.calls k t215 t216 t218 _ A5.out).mono ?_); rintro e w59 ⟨rfl, hb⟩; refine ⟨_, rfl, ?_⟩; replace HB := bS HB hb; (try clear hb); (try clear hb2); (try clear hk); (try clear hi)))
         go_ret
         exact ⟨eR, bP HB⟩
        ·rw [if_neg c56] at H
         have c56b0 : decide (0 < t216) = false := decide_eq_false c56
         clear c56
         obtain rfl := Option.some.inj H
         go_enter Try.func11, Try.ntmps11
         go_wp2_with (first | ((with_reducible refine gate_callee (f := 23) rfl ?_); refine gL (some 12) Try.func23 #[.slice A0 l0.length c0] ?_; (with_reducible refine (spec_DrawRootedFace.calls k _ _ l0 t215 t216 _ ?side1 ?side2 A3.out).mono ?_); (case side1 => repeat (first | exact HR0.out | (with_reducible refine Kd.C_alloc ?_ _) | (with_reducible refine Kd.C_drewN ?_ _) | (with_reducible refine Kd.C_drew ?_))); (case side2 => exact HC0.out); rintro e w60 ⟨rfl, hb⟩; refine ⟨_, rfl, ?_⟩; replace HB := bS HB hb; (try clear hb); (try clear hb2); (try clear hk); (try clear hi)) | ((with_reducible refine gate_callee (f := 19) rfl ?_); refine gL (some 17) Try.func19 #[.int .i64 t215, .int .i64 t216] ?_; (with_reducible refine (impl_RootedFace.calls t215 t216 t217 _ A4.out).mono ?_); rintro e w61 ⟨rfl, hb⟩; refine ⟨_, rfl, ?_⟩; replace HB := bS HB hb; (try clear hb); (try clear hb2); (try clear hk); (try clear hi)) | ((with_reducible refine gate_callee (f := 18) rfl ?_); refine gL (some 20) Try.func18 #[.int .i64 t215, .int .i64 t216] ?_; (with_reducible refine (spec_RootedFace.calls k t215 t216 t218 _ A5.out).mono ?_); rintro e w62 ⟨rfl, hb⟩; refine ⟨_, rfl, ?_⟩; replace HB := bS HB hb; (try clear hb); (try clear hb2); (try clear hk); (try clear hi)))
         go_ret
         exact ⟨eR, bP HB⟩
     ·rw [if_neg c37] at H
      have c37b0 : (t217 == 0) = false := beq_eq_false_iff_ne.mpr c37
      have c37b1 : (t217 != 0) = true := bne_iff_ne.mpr c37
      exact absurd ((Option.some.inj H).trans hr_.out) (by decide)
  ·rw [if_neg c6] at H
   have c6b0 : (t217 == t218) = false := beq_eq_false_iff_ne.mpr c6
   have c6b1 : (t217 != t218) = true := bne_iff_ne.mpr c6
   obtain rfl := Option.some.inj H
   go_enter Try.func11, Try.ntmps11
   go_wp2_with (first | ((with_reducible refine gate_callee (f := 23) rfl ?_); refine gL (some 12) Try.func23 #[.slice A0 l0.length c0] ?_; (with_reducible refine (spec_DrawRootedFace.calls k _ _ l0 t215 t216 _ ?side1 ?side2 A3.out).mono ?_); (case side1 => repeat (first | exact HR0.out | (with_reducible refine Kd.C_alloc ?_ _) | (with_reducible refine Kd.C_drewN ?_ _) | (with_reducible refine Kd.C_drew ?_))); (case side2 => exact HC0.out); rintro e w63 ⟨rfl, hb⟩; refine ⟨_, rfl, ?_⟩; replace HB := bS HB hb; (try clear hb); (try clear hb2); (try clear hk); (try clear hi)) | ((with_reducible refine gate_callee (f := 19) rfl ?_); refine gL (some 17) Try.func19 #[.int .i64 t215, .int .i64 t216] ?_; (with_reducible refine (impl_RootedFace.calls t215 t216 t217 _ A4.out).mono ?_); rintro e w64 ⟨rfl, hb⟩; refine ⟨_, rfl, ?_⟩; replace HB := bS HB hb; (try clear hb); (try clear hb2); (try clear hk); (try clear hi)) | ((with_reducible refine gate_callee (f := 18) rfl ?_); refine gL (some 20) Try.func18 #[.int .i64 t215, .int .i64 t216] ?_; (with_reducible refine (spec_RootedFace.calls k t215 t216 t218 _ A5.out).mono ?_); rintro e w65 ⟨rfl, hb⟩; refine ⟨_, rfl, ?_⟩; replace HB := bS HB hb; (try clear hb); (try clear hb2); (try clear hk); (try clear hi)))
   go_ret
   exact ⟨eR, bP HB⟩

/-- THE ONE PURE STATEMENT of laws_FnFace: yours. -/
def laws_FnFace.Pure : Prop := ∀ (l0 : List Int), l0.length ≤ maxLen → l0.length * 1 ≤ 140737488351232 → (∀ x ∈ l0, (Lit.int .u8 x).wf = true) → ∃ k, laws_FnFace.f k l0 = some true
theorem laws_FnFace.walk (P : laws_FnFace.Pure) (a0 : Option Addr) (len0 cap0 : Nat) (z0 : List Int) (w : World) (w0 : (a0 = none ∧ len0 = 0 ∧ cap0 = 0 ∧ z0 = []) ∨ ∃ x, a0 = some x ∧ len0 ≤ cap0 ∧ cap0 ≤ maxLen ∧ z0.length = cap0 ∧ (∀ i, i < z0.length → w.cell? (x.add i) = some (.int .u8 (z0.getD i 0))) ∧ ∀ n ∈ z0, (Lit.int .u8 n).wf = true) (y0 : len0 * 1 ≤ 140737488351232) :
 Calls Try.prog 11 #[.slice a0 len0 cap0] w fun e w' => e = .returned (.bool true) ∧ Below w.heap.size w w' := by
 obtain ⟨l0, rfl, hr0, hm0, hw0, hc0⟩ := ReadsInt.ofRowC w0
 obtain ⟨k, h⟩ := P l0 hm0 y0 hw0
 refine (laws_FnFace.calls k _ _ l0 true w (Kd.C_of_reads (d := (0 : Int)) (h1 := fun _ => rfl) hr0) hc0 ⟨rfl⟩ h).mono ?_
 rintro e w' ⟨rfl, hd⟩
 exact ⟨rfl, hd⟩

end Go.Proofs.Ytcclnblabaoofaa.F
