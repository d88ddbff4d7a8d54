/- Contracts: what these Go functions return. -/
import Derived.Test.YtihabnfccgjfbaaF0
import Derived.Test.YtihabnfccgjfbaaF4
import Derived.Test.YtihabnfccgjfbaaF33
namespace Go.Proofs.Ytihabnfccgjfbaa.F
open Go.RowKit Go.Proofs.YtihabnfccgjfbaaW.PrintWords Go.Proofs.YtihabnfccgjfbaaW.PrintLast Go.Proofs.YtihabnfccgjfbaaW.PrintMore
attribute [local go_sem] max2_int min2_int max_two min_two max_three min_three max_four min_four
set_option linter.unusedVariables false
set_option linter.unusedSimpArgs false

/-! ### spec_l2Genus: function 52 -/
def spec_l2Genus.f (k : Nat) (l0_0 : List Int) (l0_1 : List Int) : Option (Int) := (spec_l2Counts.f k l0_0 l0_1).bind fun t620 => (if 0 < (t620.length : Int) then (if 1 < (t620.length : Int) then (if 2 < (t620.length : Int) then (some (wrap64 (Int.tdiv (wrap64 ((wrap64 ((wrap64 (2 - (rd t620 0))) + (rd t620 1))) - (rd t620 2))) 2))) else (none)) else (none)) else (none))
set_option maxHeartbeats 8000000 in
set_option maxRecDepth 100000 in
theorem spec_l2Genus.calls (k : Nat) (A0_0 : Option Addr) (c0_0 : Nat) (l0_0 : List Int) (A0_1 : Option Addr) (c0_1 : Nat) (l0_1 : List Int) (r : Int) (w : World) (hr0_0 : Kd.C (Kd.int .i64) w A0_0 l0_0.length l0_0) (hc0_0 : l0_0.length ≤ c0_0) (hr0_1 : Kd.C (Kd.int .i64) w A0_1 l0_1.length l0_1) (hc0_1 : l0_1.length ≤ c0_1) (h : spec_l2Genus.f k l0_0 l0_1 = some r) :
 Calls Try.prog 52 #[.agg #[.slice A0_0 l0_0.length c0_0, .slice A0_1 l0_1.length c0_1]] w fun e w' => e = .returned (.int .i64 r) ∧ Below w.heap.size w w' := by
 have hu25 := Try.underlying25
 have HR0_0 := Aside0.mk hr0_0
 have HC0_0 := Aside0.mk hc0_0
 clear hr0_0 hc0_0
 have HR0_1 := Aside0.mk hr0_1
 have HC0_1 := Aside0.mk hc0_1
 clear hr0_1 hc0_1
 have HB := Aside0.mk (Below.refl w.heap.size w)
 have H : ((spec_l2Counts.f k l0_0 l0_1).bind fun t620 => (if 0 < (t620.length : Int) then (if 1 < (t620.length : Int) then (if 2 < (t620.length : Int) then (some (wrap64 (Int.tdiv (wrap64 ((wrap64 ((wrap64 (2 - (rd t620 0))) + (rd t620 1))) - (rd t620 2))) 2))) else (none)) else (none)) else (none))) = some r := h
 clear h
 replace H := Option.bind_eq_some_iff.mp H
 obtain ⟨t620, A20, H⟩ := H
 replace H : (if 0 < (t620.length : Int) then (if 1 < (t620.length : Int) then (if 2 < (t620.length : Int) then (some (wrap64 (Int.tdiv (wrap64 ((wrap64 ((wrap64 (2 - (rd t620 0))) + (rd t620 1))) - (rd t620 2))) 2))) else (none)) else (none)) else (none)) = some r := H
 have A2 := Aside0.mk A20
 clear A20
 by_cases c3 : 0 < (t620.length : Int)
 ·rw [if_pos c3] at H
  have c3b0 : decide (0 < (t620.length : Int)) = true := decide_eq_true c3
  have c3b1 : decide (0 < t620.length) = true := decide_eq_true (by omega)
  clear c3
  by_cases c4 : 1 < (t620.length : Int)
  ·rw [if_pos c4] at H
   have c4b0 : decide (1 < (t620.length : Int)) = true := decide_eq_true c4
   have c4b1 : decide (1 < t620.length) = true := decide_eq_true (by omega)
   clear c4
   by_cases c5 : 2 < (t620.length : Int)
   ·rw [if_pos c5] at H
    have c5b0 : decide (2 < (t620.length : Int)) = true := decide_eq_true c5
    have c5b1 : decide (2 < t620.length) = true := decide_eq_true (by omega)
    clear c5
    obtain rfl := Option.some.inj H
    go_enter Try.func52, Try.ntmps52
    go_wp2_with (first | ((with_reducible refine gate_dst (N := 1) rfl ?_); refine bE 1 #[.slice A0_0 l0_0.length c0_0, .slice A0_1 l0_1.length c0_1] 25 ?_; intro gb619 hg w6 hbox hb; have BK619 := Aside0.mk (hbox); have GW619 := gS HB hg; have GE619 := gS HB hg; replace HB := bS HB hb; clear hb hbox hg; have hcz7_0 := zc0 BK619; have hcz7_1 := zc1 BK619; have hfz7_0 := blk_frozen BK619.out 0; have hfz7_1 := blk_frozen BK619.out 1) | (go_at_call 69; (with_reducible refine (spec_l2Counts.calls k _ _ l0_0 _ _ l0_1 t620 _ ?side1 ?side2 ?side3 ?side4 A2.out).mono ?_); (case side1 => exact cB HR0_0 HB); (case side2 => exact HC0_0.out); (case side3 => exact cB HR0_1 HB); (case side4 => exact HC0_1.out); rintro e w8 ⟨v621, rfl, ho0, hb⟩; have HO622 := rL ho0 HB; replace BK619 := kB BK619 hb; replace HB := bS HB hb; (try clear hb); (try clear hb2); (try clear hk); (try clear hi); (try clear ho0); obtain ⟨Ao9, co9, eo9⟩ := Kd.R_slice HO622.out; subst eo9; have p623 : 0 ≤ (0 : Int) := (by omega); have q623 : 0 < (t620.length : Int) := dT; obtain ⟨ad623, e623, hx623_0⟩ := Kd.at_int (Kd.R_reads' HO622.out).2.2 0 p623 q623; cases e623; have qi623 : (0 < t620.length) = True := eq_true (by omega); (try rw [show ((0 : Int)).toNat = 0 from rfl] at hx623_0); (try rw [Addr.add_zero'] at hx623_0); replace p623 := eq_true p623; replace q623 := eq_true q623; have p624 : 0 ≤ (1 : Int) := (by omega); have q624 : 1 < (t620.length : Int) := dT; obtain ⟨ad624, e624, hx624_0⟩ := Kd.at_int (Kd.R_reads' HO622.out).2.2 1 p624 q624; obtain rfl : ad623 = ad624 := (by injection e624); (try simp only [show (1 : Int).toNat = 1 from rfl, Nat.reduceMul, Nat.reduceEqDiff, Go.Addr.add, ↓reduceIte] at hx624_0); have qi624 : (1 < t620.length) = True := eq_true (by omega); (try rw [show ((1 : Int)).toNat = 1 from rfl] at hx624_0); replace p624 := eq_true p624; replace q624 := eq_true q624; have p625 : 0 ≤ (2 : Int) := (by omega); have q625 : 2 < (t620.length : Int) := dT; obtain ⟨ad625, e625, hx625_0⟩ := Kd.at_int (Kd.R_reads' HO622.out).2.2 2 p625 q625; obtain rfl : ad623 = ad625 := (by injection e625); (try simp only [show (2 : Int).toNat = 2 from rfl, Nat.reduceMul, Nat.reduceEqDiff, Go.Addr.add, ↓reduceIte] at hx625_0); have qi625 : (2 < t620.length) = True := eq_true (by omega); (try rw [show ((2 : Int)).toNat = 2 from rfl] at hx625_0); replace p625 := eq_true p625; replace q625 := eq_true q625))
    repeat (go_quiet (first | ((with_reducible refine gate_dst (N := 1) rfl ?_); refine bE 1 #[.slice A0_0 l0_0.length c0_0, .slice A0_1 l0_1.length c0_1] 25 ?_; intro gb619 hg w6 hbox hb; have BK619 := Aside0.mk (hbox); have GW619 := gS HB hg; have GE619 := gS HB hg; replace HB := bS HB hb; clear hb hbox hg; have hcz7_0 := zc0 BK619; have hcz7_1 := zc1 BK619; have hfz7_0 := blk_frozen BK619.out 0; have hfz7_1 := blk_frozen BK619.out 1) | (go_at_call 69; (with_reducible refine (spec_l2Counts.calls k _ _ l0_0 _ _ l0_1 t620 _ ?side1 ?side2 ?side3 ?side4 A2.out).mono ?_); (case side1 => exact cB HR0_0 HB); (case side2 => exact HC0_0.out); (case side3 => exact cB HR0_1 HB); (case side4 => exact HC0_1.out); rintro e w8 ⟨v621, rfl, ho0, hb⟩; have HO622 := rL ho0 HB; replace BK619 := kB BK619 hb; replace HB := bS HB hb; (try clear hb); (try clear hb2); (try clear hk); (try clear hi); (try clear ho0); obtain ⟨Ao9, co9, eo9⟩ := Kd.R_slice HO622.out; subst eo9; have p623 : 0 ≤ (0 : Int) := (by omega); have q623 : 0 < (t620.length : Int) := dT; obtain ⟨ad623, e623, hx623_0⟩ := Kd.at_int (Kd.R_reads' HO622.out).2.2 0 p623 q623; cases e623; have qi623 : (0 < t620.length) = True := eq_true (by omega); (try rw [show ((0 : Int)).toNat = 0 from rfl] at hx623_0); (try rw [Addr.add_zero'] at hx623_0); replace p623 := eq_true p623; replace q623 := eq_true q623; have p624 : 0 ≤ (1 : Int) := (by omega); have q624 : 1 < (t620.length : Int) := dT; obtain ⟨ad624, e624, hx624_0⟩ := Kd.at_int (Kd.R_reads' HO622.out).2.2 1 p624 q624; obtain rfl : ad623 = ad624 := (by injection e624); (try simp only [show (1 : Int).toNat = 1 from rfl, Nat.reduceMul, Nat.reduceEqDiff, Go.Addr.add, ↓reduceIte] at hx624_0); have qi624 : (1 < t620.length) = True := eq_true (by omega); (try rw [show ((1 : Int)).toNat = 1 from rfl] at hx624_0); replace p624 := eq_true p624; replace q624 := eq_true q624; have p625 : 0 ≤ (2 : Int) := (by omega); have q625 : 2 < (t620.length : Int) := dT; obtain ⟨ad625, e625, hx625_0⟩ := Kd.at_int (Kd.R_reads' HO622.out).2.2 2 p625 q625; obtain rfl : ad623 = ad625 := (by injection e625); (try simp only [show (2 : Int).toNat = 2 from rfl, Nat.reduceMul, Nat.reduceEqDiff, Go.Addr.add, ↓reduceIte] at hx625_0); have qi625 : (2 < t620.length) = True := eq_true (by omega); (try rw [show ((2 : Int)).toNat = 2 from rfl] at hx625_0); replace p625 := eq_true p625; replace q625 := eq_true q625)); try go_wp2_with (first | ((with_reducible refine gate_dst (N := 1) rfl ?_); refine bE 1 #[.slice A0_0 l0_0.length c0_0, .slice A0_1 l0_1.length c0_1] 25 ?_; intro gb619 hg w6 hbox hb; have BK619 := Aside0.mk (hbox); have GW619 := gS HB hg; have GE619 := gS HB hg; replace HB := bS HB hb; clear hb hbox hg; have hcz7_0 := zc0 BK619; have hcz7_1 := zc1 BK619; have hfz7_0 := blk_frozen BK619.out 0; have hfz7_1 := blk_frozen BK619.out 1) | (go_at_call 69; (with_reducible refine (spec_l2Counts.calls k _ _ l0_0 _ _ l0_1 t620 _ ?side1 ?side2 ?side3 ?side4 A2.out).mono ?_); (case side1 => exact cB HR0_0 HB); (case side2 => exact HC0_0.out); (case side3 => exact cB HR0_1 HB); (case side4 => exact HC0_1.out); rintro e w8 ⟨v621, rfl, ho0, hb⟩; have HO622 := rL ho0 HB; replace BK619 := kB BK619 hb; replace HB := bS HB hb; (try clear hb); (try clear hb2); (try clear hk); (try clear hi); (try clear ho0); obtain ⟨Ao9, co9, eo9⟩ := Kd.R_slice HO622.out; subst eo9; have p623 : 0 ≤ (0 : Int) := (by omega); have q623 : 0 < (t620.length : Int) := dT; obtain ⟨ad623, e623, hx623_0⟩ := Kd.at_int (Kd.R_reads' HO622.out).2.2 0 p623 q623; cases e623; have qi623 : (0 < t620.length) = True := eq_true (by omega); (try rw [show ((0 : Int)).toNat = 0 from rfl] at hx623_0); (try rw [Addr.add_zero'] at hx623_0); replace p623 := eq_true p623; replace q623 := eq_true q623; have p624 : 0 ≤ (1 : Int) := (by omega); have q624 : 1 < (t620.length : Int) := dT; obtain ⟨ad624, e624, hx624_0⟩ := Kd.at_int (Kd.R_reads' HO622.out).2.2 1 p624 q624; obtain rfl : ad623 = ad624 := (by injection e624); (try simp only [show (1 : Int).toNat = 1 from rfl, Nat.reduceMul, Nat.reduceEqDiff, Go.Addr.add, ↓reduceIte] at hx624_0); have qi624 : (1 < t620.length) = True := eq_true (by omega); (try rw [show ((1 : Int)).toNat = 1 from rfl] at hx624_0); replace p624 := eq_true p624; replace q624 := eq_true q624; have p625 : 0 ≤ (2 : Int) := (by omega); have q625 : 2 < (t620.length : Int) := dT; obtain ⟨ad625, e625, hx625_0⟩ := Kd.at_int (Kd.R_reads' HO622.out).2.2 2 p625 q625; obtain rfl : ad623 = ad625 := (by injection e625); (try simp only [show (2 : Int).toNat = 2 from rfl, Nat.reduceMul, Nat.reduceEqDiff, Go.Addr.add, ↓reduceIte] at hx625_0); have qi625 : (2 < t620.length) = True := eq_true (by omega); (try rw [show ((2 : Int)).toNat = 2 from rfl] at hx625_0); replace p625 := eq_true p625; replace q625 := eq_true q625)))
    go_ret
    exact ⟨eR, bP HB⟩
   ·rw [if_neg c5] at H
    exact absurd H (by simp)
  ·rw [if_neg c4] at H
   exact absurd H (by simp)
 ·rw [if_neg c3] at H
  exact absurd H (by simp)

/-! ### spec_MapGenus: function 27 -/
def spec_MapGenus.f (k : Nat) (l0_0 : List Int) (l0_1 : List Int) : Option (Int) := (spec_MapValid.f k l0_0 l0_1).bind fun t627 => (if t627 = true then ((spec_l2Genus.f k l0_0 l0_1).bind fun t628 => (some t628)) else (some (-1)))
set_option maxHeartbeats 8000000 in
set_option maxRecDepth 100000 in
theorem spec_MapGenus.calls (k : Nat) (A0_0 : Option Addr) (c0_0 : Nat) (l0_0 : List Int) (A0_1 : Option Addr) (c0_1 : Nat) (l0_1 : List Int) (r : Int) (w : World) (hr0_0 : Kd.C (Kd.int .i64) w A0_0 l0_0.length l0_0) (hc0_0 : l0_0.length ≤ c0_0) (hr0_1 : Kd.C (Kd.int .i64) w A0_1 l0_1.length l0_1) (hc0_1 : l0_1.length ≤ c0_1) (h : spec_MapGenus.f k l0_0 l0_1 = some r) :
 Calls Try.prog 27 #[.agg #[.slice A0_0 l0_0.length c0_0, .slice A0_1 l0_1.length c0_1]] w fun e w' => e = .returned (.int .i64 r) ∧ Below w.heap.size w w' := by
 have hu25 := Try.underlying25
 have HR0_0 := Aside0.mk hr0_0
 have HC0_0 := Aside0.mk hc0_0
 clear hr0_0 hc0_0
 have HR0_1 := Aside0.mk hr0_1
 have HC0_1 := Aside0.mk hc0_1
 clear hr0_1 hc0_1
 have HB := Aside0.mk (Below.refl w.heap.size w)
 have H : ((spec_MapValid.f k l0_0 l0_1).bind fun t627 => (if t627 = true then ((spec_l2Genus.f k l0_0 l0_1).bind fun t628 => (some t628)) else (some (-1)))) = some r := h
 clear h
 replace H := Option.bind_eq_some_iff.mp H
 obtain ⟨t627, A20, H⟩ := H
 replace H : (if t627 = true then ((spec_l2Genus.f k l0_0 l0_1).bind fun t628 => (some t628)) else (some (-1))) = some r := H
 have A2 := Aside0.mk A20
 clear A20
 by_cases c3 : t627 = true
 ·subst c3
  have H1 : ((spec_l2Genus.f k l0_0 l0_1).bind fun t628 => (some t628)) = some r := by rw [if_pos rfl] at H; exact H
  clear H
  have H := H1
  clear H1
  replace H := Option.bind_eq_some_iff.mp H
  obtain ⟨t628, A40, H⟩ := H
  replace H : (some t628) = some r := H
  have A4 := Aside0.mk A40
  clear A40
  obtain rfl := Option.some.inj H
  go_enter Try.func27, Try.ntmps27
  go_wp2_with (first | ((with_reducible refine gate_dst (N := 1) rfl ?_); refine bE 1 #[.slice A0_0 l0_0.length c0_0, .slice A0_1 l0_1.length c0_1] 25 ?_; intro gb626 hg w5 hbox hb; have BK626 := Aside0.mk (hbox); have GW626 := gS HB hg; have GE626 := gS HB hg; replace HB := bS HB hb; clear hb hbox hg; have hcz6_0 := zc0 BK626; have hcz6_1 := zc1 BK626; have hfz6_0 := blk_frozen BK626.out 0; have hfz6_1 := blk_frozen BK626.out 1) | ((with_reducible refine gate_callee (f := 40) rfl ?_); refine gL (some 4) Try.func40 #[.agg #[.slice A0_0 l0_0.length c0_0, .slice A0_1 l0_1.length c0_1]] ?_; (with_reducible refine (spec_MapValid.calls k _ _ l0_0 _ _ l0_1 true _ ?side1 ?side2 ?side3 ?side4 A2.out).mono ?_); (case side1 => exact cB HR0_0 HB); (case side2 => exact HC0_0.out); (case side3 => exact cB HR0_1 HB); (case side4 => exact HC0_1.out); rintro e w7 ⟨rfl, hb⟩; refine ⟨_, rfl, ?_⟩; replace BK626 := kB BK626 hb; replace HB := bS HB hb; (try clear hb); (try clear hb2); (try clear hk); (try clear hi); have hcz8_0 := zc0 BK626; have hcz8_1 := zc1 BK626; have hfz8_0 := blk_frozen BK626.out 0; have hfz8_1 := blk_frozen BK626.out 1) | ((with_reducible refine gate_callee (f := 52) rfl ?_); refine gL (some 7) Try.func52 #[.agg #[.slice A0_0 l0_0.length c0_0, .slice A0_1 l0_1.length c0_1]] ?_; (with_reducible refine (spec_l2Genus.calls k _ _ l0_0 _ _ l0_1 t628 _ ?side1 ?side2 ?side3 ?side4 A4.out).mono ?_); (case side1 => exact cB HR0_0 HB); (case side2 => exact HC0_0.out); (case side3 => exact cB HR0_1 HB); (case side4 => exact HC0_1.out); rintro e w9 ⟨rfl, hb⟩; refine ⟨_, rfl, ?_⟩; replace BK626 := kB BK626 hb; replace HB := bS HB hb; (try clear hb); (try clear hb2); (try clear hk); (try clear hi)))
  go_ret
  exact ⟨eR, bP HB⟩
 ·replace c3 := Bool.eq_false_iff.mpr c3
  subst c3
  have H1 : (some (-1)) = some r := by rw [if_neg (show ¬ (false = true) by decide)] at H; exact H
  clear H
  have H := H1
  clear H1
  obtain rfl := Option.some.inj H
  go_enter Try.func27, Try.ntmps27
  go_wp2_with (first | ((with_reducible refine gate_dst (N := 1) rfl ?_); refine bE 1 #[.slice A0_0 l0_0.length c0_0, .slice A0_1 l0_1.length c0_1] 25 ?_; intro gb626 hg w10 hbox hb; have BK626 := Aside0.mk (hbox); have GW626 := gS HB hg; have GE626 := gS HB hg; replace HB := bS HB hb; clear hb hbox hg; have hcz11_0 := zc0 BK626; have hcz11_1 := zc1 BK626; have hfz11_0 := blk_frozen BK626.out 0; have hfz11_1 := blk_frozen BK626.out 1) | ((with_reducible refine gate_callee (f := 40) rfl ?_); refine gL (some 4) Try.func40 #[.agg #[.slice A0_0 l0_0.length c0_0, .slice A0_1 l0_1.length c0_1]] ?_; (with_reducible refine (spec_MapValid.calls k _ _ l0_0 _ _ l0_1 false _ ?side1 ?side2 ?side3 ?side4 A2.out).mono ?_); (case side1 => exact cB HR0_0 HB); (case side2 => exact HC0_0.out); (case side3 => exact cB HR0_1 HB); (case side4 => exact HC0_1.out); rintro e w12 ⟨rfl, hb⟩; refine ⟨_, rfl, ?_⟩; replace BK626 := kB BK626 hb; replace HB := bS HB hb; (try clear hb); (try clear hb2); (try clear hk); (try clear hi)))
  go_ret
  exact ⟨eR, bP HB⟩

end Go.Proofs.Ytihabnfccgjfbaa.F
