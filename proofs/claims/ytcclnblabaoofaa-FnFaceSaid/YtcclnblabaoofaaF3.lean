/- Contracts: what these Go functions return. -/
import Derived.Test.YtcclnblabaoofaaF0
import Derived.Test.YtcclnblabaoofaaF1
import Derived.Test.YtcclnblabaoofaaF2
namespace Go.Proofs.Ytcclnblabaoofaa.F
open Go.RowKit Go.Proofs.YtcclnblabaoofaaW.PrintWords Go.Proofs.YtcclnblabaoofaaW.PrintLast Go.Proofs.YtcclnblabaoofaaW.PrintMore
attribute [local go_sem] max2_int min2_int max_two min_two max_three min_three max_four min_four
set_option linter.unusedVariables false
set_option linter.unusedSimpArgs false

/-! ### spec_RootedRun: function 16 -/
def spec_RootedRun.f (k : Nat) (a0 : Int) (a1 : Int) : Option (Int) := (spec_l6In.f a0 0 9).bind fun t127 => (if t127 = true then ((spec_l6In.f a1 0 5).bind fun t128 => (if t128 = true then ((spec_l3Table.f k a0).bind fun t129 => (if 0 ≤ a1 then (if a1 < (t129.length : Int) then (if 0 ≤ a0 then (if a0 < ((rd_L1 t129 a1).length : Int) then (some (rd (rd_L1 t129 a1) a0)) else (none)) else (none)) else (none)) else (none))) else (some (-1)))) else (some (-1)))
theorem spec_RootedRun.mono : ∀ a0 a1 k, LeO (spec_RootedRun.f k a0 a1) (spec_RootedRun.f (k + 1) a0 a1) := by
 intro a0 a1 k
 unfold spec_RootedRun.f
 repeat' first
  | (with_reducible exact spec_l3Table.mono _ _)
  | (with_reducible exact LeO.refl _)
  | (with_reducible exact LeO.none _)
  | (with_reducible refine LeO.ite ?_ ?_)
  | (with_reducible refine LeO.bind ?_ (fun _ => ?_))
  | exact spec_l3Table.mono _ _
  | exact LeO.none _
  | refine LeO.ite ?_ ?_
  | refine LeO.bind ?_ (fun _ => ?_)
set_option maxHeartbeats 8000000 in
set_option maxRecDepth 100000 in
theorem spec_RootedRun.calls (k : Nat) (a0 : Int) (a1 : Int) (r : Int) (w : World) (h : spec_RootedRun.f k a0 a1 = some r) :
 Calls Try.prog 16 #[.int .i64 a0, .int .i64 a1] w fun e w' => e = .returned (.int .i64 r) ∧ Below w.heap.size w w' := by
 have HB := Aside0.mk (Below.refl w.heap.size w)
 have H : ((spec_l6In.f a0 0 9).bind fun t127 => (if t127 = true then ((spec_l6In.f a1 0 5).bind fun t128 => (if t128 = true then ((spec_l3Table.f k a0).bind fun t129 => (if 0 ≤ a1 then (if a1 < (t129.length : Int) then (if 0 ≤ a0 then (if a0 < ((rd_L1 t129 a1).length : Int) then (some (rd (rd_L1 t129 a1) a0)) else (none)) else (none)) else (none)) else (none))) else (some (-1)))) else (some (-1)))) = some r := h
 clear h
 replace H := Option.bind_eq_some_iff.mp H
 obtain ⟨t127, A30, H⟩ := H
 replace H : (if t127 = true then ((spec_l6In.f a1 0 5).bind fun t128 => (if t128 = true then ((spec_l3Table.f k a0).bind fun t129 => (if 0 ≤ a1 then (if a1 < (t129.length : Int) then (if 0 ≤ a0 then (if a0 < ((rd_L1 t129 a1).length : Int) then (some (rd (rd_L1 t129 a1) a0)) else (none)) else (none)) else (none)) else (none))) else (some (-1)))) else (some (-1))) = some r := H
 have A3 := Aside0.mk A30
 clear A30
 by_cases c4 : t127 = true
 ·subst c4
  have H1 : ((spec_l6In.f a1 0 5).bind fun t128 => (if t128 = true then ((spec_l3Table.f k a0).bind fun t129 => (if 0 ≤ a1 then (if a1 < (t129.length : Int) then (if 0 ≤ a0 then (if a0 < ((rd_L1 t129 a1).length : Int) then (some (rd (rd_L1 t129 a1) a0)) else (none)) else (none)) else (none)) else (none))) else (some (-1)))) = some r := by rw [if_pos rfl] at H; exact H
  clear H
  have H := H1
  clear H1
  replace H := Option.bind_eq_some_iff.mp H
  obtain ⟨t128, A50, H⟩ := H
  replace H : (if t128 = true then ((spec_l3Table.f k a0).bind fun t129 => (if 0 ≤ a1 then (if a1 < (t129.length : Int) then (if 0 ≤ a0 then (if a0 < ((rd_L1 t129 a1).length : Int) then (some (rd (rd_L1 t129 a1) a0)) else (none)) else (none)) else (none)) else (none))) else (some (-1))) = some r := H
  have A5 := Aside0.mk A50
  clear A50
  by_cases c6 : t128 = true
  ·subst c6
   have H1 : ((spec_l3Table.f k a0).bind fun t129 => (if 0 ≤ a1 then (if a1 < (t129.length : Int) then (if 0 ≤ a0 then (if a0 < ((rd_L1 t129 a1).length : Int) then (some (rd (rd_L1 t129 a1) a0)) else (none)) else (none)) else (none)) else (none))) = some r := by rw [if_pos rfl] at H; exact H
   clear H
   have H := H1
   clear H1
   replace H := Option.bind_eq_some_iff.mp H
   obtain ⟨t129, A70, H⟩ := H
   replace H : (if 0 ≤ a1 then (if a1 < (t129.length : Int) then (if 0 ≤ a0 then (if a0 < ((rd_L1 t129 a1).length : Int) then (some (rd (rd_L1 t129 a1) a0)) else (none)) else (none)) else (none)) else (none)) = some r := H
   have A7 := Aside0.mk A70
   clear A70
   by_cases c8 : 0 ≤ a1
   ·rw [if_pos c8] at H
    have c8b0 : decide (0 ≤ a1) = true := decide_eq_true c8
    clear c8
    by_cases c9 : a1 < (t129.length : Int)
    ·rw [if_pos c9] at H
     have c9b0 : decide (a1 < (t129.length : Int)) = true := decide_eq_true c9
     clear c9
     by_cases c10 : 0 ≤ a0
     ·rw [if_pos c10] at H
      have c10b0 : decide (0 ≤ a0) = true := decide_eq_true c10
      clear c10
      by_cases c11 : a0 < ((rd_L1 t129 a1).length : Int)
      ·rw [if_pos c11] at H
       have c11b0 : decide (a0 < ((rd_L1 t129 a1).length : Int)) = true := decide_eq_true c11
       clear c11
       obtain rfl := Option.some.inj H
       go_enter Try.func16, Try.ntmps16
       go_wp2_with (first | ((with_reducible refine gate_callee (f := 24) rfl ?_); refine gL (some 6) Try.func24 #[.int .i64 a0, .int .i64 0, .int .i64 9] ?_; (with_reducible refine (spec_l6In.calls a0 0 9 true _ A3.out).mono ?_); rintro e w' ⟨rfl, ⟨nd, rfl⟩⟩; refine ⟨_, rfl, ?_⟩) | (go_at_call 24; (with_reducible refine (spec_l6In.calls a1 0 5 true _ A5.out).mono ?_); rintro e w' ⟨rfl, ⟨nd, rfl⟩⟩) | ((with_reducible refine gate_callee (f := 27) rfl ?_); refine gL (some 14) Try.func27 #[.int .i64 a0] ?_; (with_reducible refine (spec_l3Table.calls k a0 t129 _ A7.out).mono ?_); rintro e w12 ⟨v130, rfl, ho0, hb⟩; refine ⟨_, rfl, ?_⟩; have HO131 := Aside0.mk (Kd.S_lower ho0 (below_size (bP HB))); replace HB := bS HB hb; (try clear hb); (try clear hb2); (try clear hk); (try clear hi); (try clear ho0); obtain ⟨Ao13, co13, eo13⟩ := Kd.S_slice HO131.out; subst eo13; have p132 : 0 ≤ (a1 : Int) := dT; have q132 : a1 < (t129.length : Int) := dT; obtain ⟨ad132, A132_0, c132_0, e132, hx132_0, hl132_0, hi132_0⟩ := at_L1 (Kd.S_reads' HO131.out).2.2 a1 p132 q132; cases e132; obtain ⟨ce132, hce132, hMe132, hcc132⟩ := Kd.S_get HO131.out [] a1 p132 (by first | exact q132 | exact dT | (have e_ := (Kd.S_reads' HO131.out).1; omega)); obtain ⟨ve132_0, rfl, ge132_0⟩ := hMe132; have hv132_0 := hcc132 0 _ rfl; rw [Nat.add_zero, show ((Kd.slice 3 (Kd.int .i64))).sz = 1 from rfl, Nat.mul_one] at hv132_0; replace hv132_0 := Option.some.inj (hv132_0.symm.trans hx132_0); rw [hv132_0] at ge132_0; have HL132_0 := Aside0.mk (show Kd.R (Kd.int .i64) 3 _ _ _ _ (rd_L1 t129 a1) from ge132_0); clear hv132_0 ge132_0; clear hcc132 hce132; have HR132_0 := Aside0.mk hi132_0; have HC132_0 := Aside0.mk hl132_0; clear hi132_0 hl132_0; replace p132 := eq_true p132; replace q132 := eq_true q132; have p133 : 0 ≤ (a0 : Int) := dT; have q133 : a0 < ((rd_L1 t129 a1).length : Int) := dT; obtain ⟨ad133, e133, hx133_0⟩ := Kd.at_int (by repeat (first | (with_reducible exact HR132_0.out) | (with_reducible refine Kd.C_alloc ?_ _) | (with_reducible refine Kd.C_drewN ?_ _) | (with_reducible refine Kd.C_drew ?_) | exact HR132_0.out)) a0 p133 q133; cases e133; replace p133 := eq_true p133; replace q133 := eq_true q133))
       go_ret
       exact ⟨eR, bP HB⟩
      ·rw [if_neg c11] at H
       exact absurd H (by simp)
     ·rw [if_neg c10] at H
      exact absurd H (by simp)
    ·rw [if_neg c9] at H
     exact absurd H (by simp)
   ·rw [if_neg c8] at H
    exact absurd H (by simp)
  ·replace c6 := Bool.eq_false_iff.mpr c6
   subst c6
   have H1 : (some (-1)) = some r := by rw [if_neg (show ¬ (false = true) by decide)] at H; exact H
   clear H
   have H := H1
   clear H1
   obtain rfl := Option.some.inj H
   go_enter Try.func16, Try.ntmps16
   go_wp2_with (first | ((with_reducible refine gate_callee (f := 24) rfl ?_); refine gL (some 6) Try.func24 #[.int .i64 a0, .int .i64 0, .int .i64 9] ?_; (with_reducible refine (spec_l6In.calls a0 0 9 true _ A3.out).mono ?_); rintro e w' ⟨rfl, ⟨nd, rfl⟩⟩; refine ⟨_, rfl, ?_⟩) | (go_at_call 24; (with_reducible refine (spec_l6In.calls a1 0 5 false _ A5.out).mono ?_); rintro e w' ⟨rfl, ⟨nd, rfl⟩⟩))
   go_ret
   exact ⟨eR, bP HB⟩
 ·replace c4 := Bool.eq_false_iff.mpr c4
  subst c4
  have H1 : (some (-1)) = some r := by rw [if_neg (show ¬ (false = true) by decide)] at H; exact H
  clear H
  have H := H1
  clear H1
  obtain rfl := Option.some.inj H
  go_enter Try.func16, Try.ntmps16
  go_wp2_with (first | ((with_reducible refine gate_callee (f := 24) rfl ?_); refine gL (some 6) Try.func24 #[.int .i64 a0, .int .i64 0, .int .i64 9] ?_; (with_reducible refine (spec_l6In.calls a0 0 9 false _ A3.out).mono ?_); rintro e w' ⟨rfl, ⟨nd, rfl⟩⟩; refine ⟨_, rfl, ?_⟩))
  go_ret
  exact ⟨eR, bP HB⟩

end Go.Proofs.Ytcclnblabaoofaa.F
