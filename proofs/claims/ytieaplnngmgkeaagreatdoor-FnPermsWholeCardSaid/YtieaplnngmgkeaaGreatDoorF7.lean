/- Contracts: what these Go functions return. -/
import Derived.Test.YtieaplnngmgkeaaGreatDoorF0
import Derived.Test.YtieaplnngmgkeaaGreatDoorF1
import Derived.Test.YtieaplnngmgkeaaGreatDoorF2
import Derived.Test.YtieaplnngmgkeaaGreatDoorF5
import Derived.Test.YtieaplnngmgkeaaGreatDoorF6
namespace Go.Proofs.YtieaplnngmgkeaaGreatDoor.F
open Go.RowKit Go.Proofs.YtieaplnngmgkeaaGreatDoorW.PrintWords Go.Proofs.YtieaplnngmgkeaaGreatDoorW.PrintLast Go.Proofs.YtieaplnngmgkeaaGreatDoorW.PrintMore
attribute [local go_sem] max2_int min2_int max_two min_two max_three min_three max_four min_four
set_option linter.unusedVariables false
set_option linter.unusedSimpArgs false

/-! ### impl_PermOrder: function 9 -/
def impl_PermOrder.l0 : Nat → List Int → List Int → Int → Option (Int)
 | 0, _, _, _ => none
 | k + 1, x0, x3, x4 => (impl_still.f k (x0.length : Int)).bind fun t146 => ((slices_Equal_int_int.f k x3 t146).bind fun t149 => (if t149 = true then (some x4) else ((impl_mul.f k x3 x0).bind fun t150 => (impl_PermOrder.l0 k x0 t150 (wrap64 (x4 + 1))))))
def impl_PermOrder.f (k : Nat) (l0 : List Int) : Option (Int) := (impl_PermValid.f l0).bind fun t142 => (if t142 = true then ((slices_Clone_int_int.f l0).bind fun t143 => (impl_PermOrder.l0 k l0 t143 1)) else (some (-1)))
set_option maxHeartbeats 8000000 in
set_option maxRecDepth 100000 in
theorem impl_PermOrder.calls (k : Nat) (A0 : Option Addr) (c0 : Nat) (l0 : List Int) (r : Int) (w : World) (hr0 : Kd.C (Kd.int .i64) w A0 l0.length l0) (hc0 : l0.length ≤ c0) (h : impl_PermOrder.f k l0 = some r) :
 Calls Tryz.prog 9 #[.slice A0 l0.length c0] w fun e w' => e = .returned (.int .i64 r) ∧ Below w.heap.size w w' := by
 have HR0 := Aside0.mk hr0
 have HC0 := Aside0.mk hc0
 clear hr0 hc0
 have HB := Aside0.mk (Below.refl w.heap.size w)
 have H : ((impl_PermValid.f l0).bind fun t142 => (if t142 = true then ((slices_Clone_int_int.f l0).bind fun t143 => (impl_PermOrder.l0 k l0 t143 1)) else (some (-1)))) = some r := h
 clear h
 obtain ⟨t142, A20, H⟩ := Option.bind_eq_some_iff.mp H
 have A2 := Aside0.mk A20
 clear A20
 by_cases c3 : t142 = true
 ·subst c3
  rw [if_pos rfl] at H
  obtain ⟨t143, A40, H⟩ := Option.bind_eq_some_iff.mp H
  have A4 := Aside0.mk A40
  clear A40
  have H' := Aside0.mk H
  clear H
  go_enter Tryz.func9, Tryz.ntmps9
  go_wp2_with (first | ((with_reducible refine gate_callee (f := 4) rfl ?_); refine gL (some 6) Tryz.func4 #[.slice A0 l0.length c0] ?_; (with_reducible refine (impl_PermValid.calls _ _ l0 true _ ?side1 ?side2 A2.out).mono ?_); (case side1 => repeat (first | exact HR0.out | (with_reducible refine Kd.C_alloc ?_ _) | (with_reducible refine Kd.C_drewN ?_ _) | (with_reducible refine Kd.C_drew ?_))); (case side2 => exact HC0.out); rintro e w5 ⟨rfl, hb⟩; refine ⟨_, rfl, ?_⟩; replace HB := bS HB hb; (try clear hb); (try clear hb2); (try clear hk); (try clear hi)) | ((with_reducible refine gate_callee (f := 22) rfl ?_); refine gL (some 9) Tryz.func22 #[.slice A0 l0.length c0] ?_; (with_reducible refine (slices_Clone_int_int.calls _ _ l0 t143 _ ?side1 ?side2 A4.out).mono ?_); (case side1 => exact cB HR0 HB); (case side2 => exact HC0.out); rintro e w6 ⟨v144, rfl, ho0, hb⟩; refine ⟨_, rfl, ?_⟩; have HO145 := rL ho0 HB; replace HB := bS HB hb; (try clear hb); (try clear hb2); (try clear hk); (try clear hi); (try clear ho0)))
  go_loopg [3, 4] k (fun kq v3 v4 w' => ∃ (x3_1 : List Int) (x4_1 : Int), v4 = .int .i64 x4_1 ∧ Aside0 (impl_PermOrder.l0 kq l0 x3_1 x4_1 = some r) ∧ Aside0 (kq ≤ k) ∧ Aside0 (Kd.R (Kd.int .i64) 3 w' w.heap.size (fun _ => True) v3 x3_1) ∧ Aside0 (Below w.heap.size w w'))
  case atStart => exact ⟨(t143), (1), eS, H', ⟨Nat.le_refl _⟩, ⟨rP HO145⟩, ⟨bP HB⟩⟩
  case round =>
   clear H'
   try clear c2
   try clear p2
   try clear c3
   try clear c4
   obtain ⟨x3_1, x4_1, rfl, HA, HK1, HO_3, HB⟩ := hrel
   cases gk with
   | zero => exact absurd HA.out (by simp [impl_PermOrder.l0])
   | succ k1 =>
    have H := HA.out
    clear HA
    simp only [impl_PermOrder.l0] at H
    obtain ⟨t146, A70, H⟩ := Option.bind_eq_some_iff.mp H
    have A7 := Aside0.mk A70
    clear A70
    obtain ⟨t149, A80, H⟩ := Option.bind_eq_some_iff.mp H
    have A8 := Aside0.mk A80
    clear A80
    by_cases c9 : t149 = true
    ·subst c9
     rw [if_pos rfl] at H
     obtain rfl := Option.some.inj H
     go_wp2_with (first | ((with_reducible refine gate_callee (f := 24) rfl ?_); refine gL (some 13) Tryz.func24 #[.int .i64 (l0.length : Int)] ?_; (with_reducible refine (impl_still.calls k1 (l0.length : Int) t146 _ A7.out).mono ?_); rintro e w10 ⟨v147, rfl, ho0, hb⟩; refine ⟨_, rfl, ?_⟩; have HO148 := Aside0.mk (Kd.R_lower (Kd.R_new' ho0 (Kd.R_lt (rP HO_3))) (below_size (bP HB))); replace HO_3 := Aside0.mk (Kd.R_elder' (rP HO_3) (Kd.R_base ho0) hb); replace HB := bS HB hb; (try clear hb); (try clear hb2); (try clear hk); (try clear hi); (try clear ho0); obtain ⟨Ao11, co11, eo11⟩ := Kd.R_slice HO_3.out; subst eo11; obtain ⟨Ao12, co12, eo12⟩ := Kd.R_slice HO148.out; subst eo12) | ((with_reducible refine gate_callee (f := 23) rfl ?_); refine gL (some 14) Tryz.func23 #[.slice Ao11 x3_1.length co11, .slice Ao12 t146.length co12] ?_; (with_reducible refine (slices_Equal_int_int.calls k1 _ _ x3_1 _ _ t146 true _ ?side1 ?side2 ?side3 ?side4 A8.out).mono ?_); (case side1 => exact cP (Kd.R_reads' HO_3.out).2.2); (case side2 => exact (Kd.R_reads' HO_3.out).2.1); (case side3 => exact cP (Kd.R_reads' HO148.out).2.2); (case side4 => exact (Kd.R_reads' HO148.out).2.1); rintro e w' ⟨rfl, ⟨nd, rfl⟩⟩; refine ⟨_, rfl, ?_⟩))
     go_ret
     exact ⟨eR, bP HB⟩
    replace c9 := Bool.eq_false_iff.mpr c9
    subst c9
    rw [iF] at H
    obtain ⟨t150, A130, H⟩ := Option.bind_eq_some_iff.mp H
    have A13 := Aside0.mk A130
    clear A130
    have H' := Aside0.mk H
    clear H
    go_wp2_with (first | ((with_reducible refine gate_callee (f := 24) rfl ?_); refine gL (some 13) Tryz.func24 #[.int .i64 (l0.length : Int)] ?_; (with_reducible refine (impl_still.calls k1 (l0.length : Int) t146 _ A7.out).mono ?_); rintro e w14 ⟨v147, rfl, ho0, hb⟩; refine ⟨_, rfl, ?_⟩; have HO148 := Aside0.mk (Kd.R_lower (Kd.R_new' ho0 (Kd.R_lt (rP HO_3))) (below_size (bP HB))); replace HO_3 := Aside0.mk (Kd.R_elder' (rP HO_3) (Kd.R_base ho0) hb); replace HB := bS HB hb; (try clear hb); (try clear hb2); (try clear hk); (try clear hi); (try clear ho0); obtain ⟨Ao15, co15, eo15⟩ := Kd.R_slice HO_3.out; subst eo15; obtain ⟨Ao16, co16, eo16⟩ := Kd.R_slice HO148.out; subst eo16) | ((with_reducible refine gate_callee (f := 23) rfl ?_); refine gL (some 14) Tryz.func23 #[.slice Ao15 x3_1.length co15, .slice Ao16 t146.length co16] ?_; (with_reducible refine (slices_Equal_int_int.calls k1 _ _ x3_1 _ _ t146 false _ ?side1 ?side2 ?side3 ?side4 A8.out).mono ?_); (case side1 => exact cP (Kd.R_reads' HO_3.out).2.2); (case side2 => exact (Kd.R_reads' HO_3.out).2.1); (case side3 => exact cP (Kd.R_reads' HO148.out).2.2); (case side4 => exact (Kd.R_reads' HO148.out).2.1); rintro e w' ⟨rfl, ⟨nd, rfl⟩⟩; refine ⟨_, rfl, ?_⟩) | ((with_reducible refine gate_callee (f := 18) rfl ?_); refine gL (some 18) Tryz.func18 #[.slice Ao15 x3_1.length co15, .slice A0 l0.length c0] ?_; (with_reducible refine (impl_mul.calls k1 _ _ x3_1 _ _ l0 t150 _ ?side1 ?side2 ?side3 ?side4 A13.out).mono ?_); (case side1 => exact cP (Kd.R_reads' HO_3.out).2.2); (case side2 => exact (Kd.R_reads' HO_3.out).2.1); (case side3 => exact cP (Kd.C_below HR0.out (bP HB))); (case side4 => exact HC0.out); rintro e w17 ⟨v151, rfl, ho0, hb⟩; refine ⟨_, rfl, ?_⟩; have HO152 := Aside0.mk (Kd.R_lower (Kd.R_new' (Kd.R_new' ho0 (Kd.R_lt (rP HO_3))) (Kd.R_lt (rP HO148))) (below_size (bP HB))); replace HO_3 := Aside0.mk (Kd.R_elder' (rP HO_3) (Kd.R_base ho0) hb); replace HO148 := Aside0.mk (Kd.R_elder' (rP HO148) (Kd.R_base ho0) hb); replace HB := bS HB hb; (try clear hb); (try clear hb2); (try clear hk); (try clear hi); (try clear ho0)))
    go_roundg k1
    case measure => have := HK1.out; omega
    case rel => exact ⟨(t150), (wrap64 (x4_1 + 1)), eS, H', ⟨by have := HK1.out; omega⟩, ⟨rT (Kd.R_mono HO152.out (fun _ hk => trivial))⟩, ⟨bP HB⟩⟩
 ·replace c3 := Bool.eq_false_iff.mpr c3
  subst c3
  rw [iF] at H
  obtain rfl := Option.some.inj H
  go_enter Tryz.func9, Tryz.ntmps9
  go_wp2_with (first | ((with_reducible refine gate_callee (f := 4) rfl ?_); refine gL (some 6) Tryz.func4 #[.slice A0 l0.length c0] ?_; (with_reducible refine (impl_PermValid.calls _ _ l0 false _ ?side1 ?side2 A2.out).mono ?_); (case side1 => repeat (first | exact HR0.out | (with_reducible refine Kd.C_alloc ?_ _) | (with_reducible refine Kd.C_drewN ?_ _) | (with_reducible refine Kd.C_drew ?_))); (case side2 => exact HC0.out); rintro e w18 ⟨rfl, hb⟩; refine ⟨_, rfl, ?_⟩; replace HB := bS HB hb; (try clear hb); (try clear hb2); (try clear hk); (try clear hi)))
  go_ret
  exact ⟨eR, bP HB⟩

/-! ### spec_l1Moves: function 25 -/
def spec_l1Moves.l0 : Nat → List Int → Int → Option (Bool)
 | 0, _, _ => none
 | k + 1, x0, x3 => if x3 < (x0.length : Int) then (if 0 ≤ x3 then (if (rd x0 x3) = x3 then (spec_l1Moves.l0 k x0 (wrap64 (x3 + 1))) else (some true)) else (none)) else (some false)
def spec_l1Moves.f (k : Nat) (l0 : List Int) : Option (Bool) := spec_l1Moves.l0 k l0 0
set_option maxHeartbeats 8000000 in
set_option maxRecDepth 100000 in
theorem spec_l1Moves.calls (k : Nat) (A0 : Option Addr) (c0 : Nat) (l0 : List Int) (r : Bool) (w : World) (hr0 : Kd.C (Kd.int .i64) w A0 l0.length l0) (hc0 : l0.length ≤ c0) (h : spec_l1Moves.f k l0 = some r) :
 Calls Tryz.prog 25 #[.slice A0 l0.length c0] w fun e w' => e = .returned (.bool r) ∧ Drawn0 w w' := by
 have HR0 := Aside0.mk hr0
 have HC0 := Aside0.mk hc0
 clear hr0 hc0
 have H : (spec_l1Moves.l0 k l0 0) = some r := h
 clear h
 have H' := Aside0.mk H
 clear H
 go_enter Tryz.func25, Tryz.ntmps25
 go_wp2
 go_loopg [3] k (fun kq v3 w' => ∃ (x3_1 : Int), v3 = .int .i64 x3_1 ∧ Aside0 (spec_l1Moves.l0 kq l0 x3_1 = some r) ∧ Aside0 (kq ≤ k) ∧ Drawn0 w w')
 case atStart => exact ⟨(0), eS, H', ⟨Nat.le_refl _⟩, dP⟩
 case round =>
  clear H'
  obtain ⟨x3_1, rfl, HA, HK1, ⟨m1, rfl⟩⟩ := hrel
  cases gk with
  | zero => exact absurd HA.out (by simp [spec_l1Moves.l0])
  | succ k1 =>
   have H := HA.out
   clear HA
   simp only [spec_l1Moves.l0] at H
   by_cases c2 : x3_1 < (l0.length : Int)
   ·rw [if_pos c2] at H
    have c2b0 : decide (x3_1 < (l0.length : Int)) = true := decide_eq_true c2
    clear c2
    by_cases c3 : 0 ≤ x3_1
    case neg =>
     rw [if_neg c3] at H
     exact absurd H (by simp)
    rw [if_pos c3] at H
    have c3b0 : decide (0 ≤ x3_1) = true := decide_eq_true c3
    clear c3
    by_cases c4 : (rd l0 x3_1) = x3_1
    case neg =>
     rw [if_neg c4] at H
     have c4b0 : ((rd l0 x3_1) == x3_1) = false := beq_eq_false_iff_ne.mpr c4
     have c4b1 : ((rd l0 x3_1) != x3_1) = true := bne_iff_ne.mpr c4
     obtain rfl := Option.some.inj H
     have p153 : 0 ≤ (x3_1 : Int) := dT
     have q153 : x3_1 < (l0.length : Int) := dT
     obtain ⟨ad153, e153, hx153_0⟩ := Kd.at_int HR0.out x3_1 p153 q153
     cases e153
     replace p153 := eq_true p153
     replace q153 := eq_true q153
     go_wp2
     go_ret
     exact ⟨by first | rfl | (simp; done) | (simp [*]; done), dP⟩
    rw [if_pos c4] at H
    have c4b0 : ((rd l0 x3_1) == x3_1) = true := beq_iff_eq.mpr c4
    have c4b1 : ((rd l0 x3_1) != x3_1) = false := bne_eq_false_iff_eq.mpr c4
    clear c4
    have H' := Aside0.mk H
    clear H
    have p153 : 0 ≤ (x3_1 : Int) := dT
    have q153 : x3_1 < (l0.length : Int) := dT
    obtain ⟨ad153, e153, hx153_0⟩ := Kd.at_int HR0.out x3_1 p153 q153
    cases e153
    replace p153 := eq_true p153
    replace q153 := eq_true q153
    go_wp2
    go_roundg k1
    case measure => have := HK1.out; omega
    case rel => exact ⟨(wrap64 (x3_1 + 1)), eS, H', ⟨by have := HK1.out; omega⟩, dP⟩
   ·rw [if_neg c2] at H
    have c2b0 : decide (x3_1 < (l0.length : Int)) = false := decide_eq_false c2
    clear c2
    obtain rfl := Option.some.inj H
    go_wp2
    go_ret
    exact ⟨by first | rfl | (simp; done) | (simp [*]; done), dP⟩

end Go.Proofs.YtieaplnngmgkeaaGreatDoor.F
