/- Contracts: what these Go functions return. -/
import Derived.Test.YtmjdmahgkidocaaF0
import Derived.Test.YtmjdmahgkidocaaF13
import Derived.Test.YtmjdmahgkidocaaF16
namespace Go.Proofs.Ytmjdmahgkidocaa.F
open Go.RowKit Go.Proofs.YtmjdmahgkidocaaW.PrintWords Go.Proofs.YtmjdmahgkidocaaW.PrintLast Go.Proofs.YtmjdmahgkidocaaW.PrintMore
attribute [local go_sem] max2_int min2_int max_two min_two max_three min_three max_four min_four
set_option linter.unusedVariables false
set_option linter.unusedSimpArgs false

/-! ### spec_l2Genus: function 32 -/
def spec_l2Genus.f (k : Nat) (l0_0 : List Int) (l0_1 : List Int) : Option (Int) := (spec_l2Counts.f k l0_0 l0_1).bind fun t264 => (if 0 < (t264.length : Int) then (if 1 < (t264.length : Int) then (if 2 < (t264.length : Int) then (some (wrap64 (Int.tdiv (wrap64 ((wrap64 ((wrap64 (2 - (rd t264 0))) + (rd t264 1))) - (rd t264 2))) 2))) else (none)) else (none)) else (none))
set_option maxHeartbeats 8000000 in
set_option maxRecDepth 100000 in
theorem spec_l2Genus.calls (k : Nat) (A0_0 : Option Addr) (c0_0 : Nat) (l0_0 : List Int) (A0_1 : Option Addr) (c0_1 : Nat) (l0_1 : List Int) (r : Int) (w : World) (hr0_0 : Kd.C (Kd.int .i64) w A0_0 l0_0.length l0_0) (hc0_0 : l0_0.length ≤ c0_0) (hr0_1 : Kd.C (Kd.int .i64) w A0_1 l0_1.length l0_1) (hc0_1 : l0_1.length ≤ c0_1) (h : spec_l2Genus.f k l0_0 l0_1 = some r) :
 Calls Try.prog 32 #[.agg #[.slice A0_0 l0_0.length c0_0, .slice A0_1 l0_1.length c0_1]] w fun e w' => e = .returned (.int .i64 r) ∧ Below w.heap.size w w' := by
 have hu24 := Try.underlying24
 have HR0_0 := Aside0.mk hr0_0
 have HC0_0 := Aside0.mk hc0_0
 clear hr0_0 hc0_0
 have HR0_1 := Aside0.mk hr0_1
 have HC0_1 := Aside0.mk hc0_1
 clear hr0_1 hc0_1
 have HB := Aside0.mk (Below.refl w.heap.size w)
 have H : ((spec_l2Counts.f k l0_0 l0_1).bind fun t264 => (if 0 < (t264.length : Int) then (if 1 < (t264.length : Int) then (if 2 < (t264.length : Int) then (some (wrap64 (Int.tdiv (wrap64 ((wrap64 ((wrap64 (2 - (rd t264 0))) + (rd t264 1))) - (rd t264 2))) 2))) else (none)) else (none)) else (none))) = some r := h
 clear h
 obtain ⟨t264, A20, H⟩ := Option.bind_eq_some_iff.mp H
 have A2 := Aside0.mk A20
 clear A20
 by_cases c3 : 0 < (t264.length : Int)
 ·rw [if_pos c3] at H
  have c3b0 : decide (0 < (t264.length : Int)) = true := decide_eq_true c3
  have c3b1 : decide (0 < t264.length) = true := decide_eq_true (by omega)
  clear c3
  by_cases c4 : 1 < (t264.length : Int)
  case neg =>
   rw [if_neg c4] at H
   exact absurd H (by simp)
  rw [if_pos c4] at H
  have c4b0 : decide (1 < (t264.length : Int)) = true := decide_eq_true c4
  have c4b1 : decide (1 < t264.length) = true := decide_eq_true (by omega)
  clear c4
  by_cases c5 : 2 < (t264.length : Int)
  case neg =>
   rw [if_neg c5] at H
   exact absurd H (by simp)
  rw [if_pos c5] at H
  have c5b0 : decide (2 < (t264.length : Int)) = true := decide_eq_true c5
  have c5b1 : decide (2 < t264.length) = true := decide_eq_true (by omega)
  clear c5
  obtain rfl := Option.some.inj H
  go_enter Try.func32, Try.ntmps32
  go_wp2_with (first | ((with_reducible refine gate_dst (N := 1) rfl ?_); refine bE 1 #[.slice A0_0 l0_0.length c0_0, .slice A0_1 l0_1.length c0_1] 24 ?_; intro gb263 hg w6 hbox hb; have BK263 := Aside0.mk (hbox); have GW263 := gS HB hg; have GE263 := gS HB hg; replace HB := bS HB hb; clear hb hbox hg; have hcz7_0 := zc0 BK263; have hcz7_1 := zc1 BK263; have hfz7_0 := blk_frozen BK263.out 0; have hfz7_1 := blk_frozen BK263.out 1) | (go_at_call 48; (with_reducible refine (spec_l2Counts.calls k _ _ l0_0 _ _ l0_1 t264 _ ?side1 ?side2 ?side3 ?side4 A2.out).mono ?_); (case side1 => exact cB HR0_0 HB); (case side2 => exact HC0_0.out); (case side3 => exact cB HR0_1 HB); (case side4 => exact HC0_1.out); rintro e w8 ⟨v265, rfl, ho0, hb⟩; have HO266 := rL ho0 HB; replace BK263 := kB BK263 hb; replace HB := bS HB hb; (try clear hb); (try clear hb2); (try clear hk); (try clear hi); (try clear ho0); obtain ⟨Ao9, co9, eo9⟩ := Kd.R_slice HO266.out; subst eo9; have p267 : 0 ≤ (0 : Int) := (by omega); have q267 : 0 < (t264.length : Int) := dT; obtain ⟨ad267, e267, hx267_0⟩ := Kd.at_int (Kd.R_reads' HO266.out).2.2 0 p267 q267; cases e267; have qi267 : (0 < t264.length) = True := eq_true (by omega); (try rw [show ((0 : Int)).toNat = 0 from rfl] at hx267_0); (try rw [Addr.add_zero'] at hx267_0); replace p267 := eq_true p267; replace q267 := eq_true q267; have p268 : 0 ≤ (1 : Int) := (by omega); have q268 : 1 < (t264.length : Int) := dT; obtain ⟨ad268, e268, hx268_0⟩ := Kd.at_int (Kd.R_reads' HO266.out).2.2 1 p268 q268; obtain rfl : ad267 = ad268 := (by injection e268); (try simp only [show (1 : Int).toNat = 1 from rfl, Nat.reduceMul, Nat.reduceEqDiff, Go.Addr.add, ↓reduceIte] at hx268_0); have qi268 : (1 < t264.length) = True := eq_true (by omega); (try rw [show ((1 : Int)).toNat = 1 from rfl] at hx268_0); replace p268 := eq_true p268; replace q268 := eq_true q268; have p269 : 0 ≤ (2 : Int) := (by omega); have q269 : 2 < (t264.length : Int) := dT; obtain ⟨ad269, e269, hx269_0⟩ := Kd.at_int (Kd.R_reads' HO266.out).2.2 2 p269 q269; obtain rfl : ad267 = ad269 := (by injection e269); (try simp only [show (2 : Int).toNat = 2 from rfl, Nat.reduceMul, Nat.reduceEqDiff, Go.Addr.add, ↓reduceIte] at hx269_0); have qi269 : (2 < t264.length) = True := eq_true (by omega); (try rw [show ((2 : Int)).toNat = 2 from rfl] at hx269_0); replace p269 := eq_true p269; replace q269 := eq_true q269))
  repeat (go_quiet (first | ((with_reducible refine gate_dst (N := 1) rfl ?_); refine bE 1 #[.slice A0_0 l0_0.length c0_0, .slice A0_1 l0_1.length c0_1] 24 ?_; intro gb263 hg w6 hbox hb; have BK263 := Aside0.mk (hbox); have GW263 := gS HB hg; have GE263 := gS HB hg; replace HB := bS HB hb; clear hb hbox hg; have hcz7_0 := zc0 BK263; have hcz7_1 := zc1 BK263; have hfz7_0 := blk_frozen BK263.out 0; have hfz7_1 := blk_frozen BK263.out 1) | (go_at_call 48; (with_reducible refine (spec_l2Counts.calls k _ _ l0_0 _ _ l0_1 t264 _ ?side1 ?side2 ?side3 ?side4 A2.out).mono ?_); (case side1 => exact cB HR0_0 HB); (case side2 => exact HC0_0.out); (case side3 => exact cB HR0_1 HB); (case side4 => exact HC0_1.out); rintro e w8 ⟨v265, rfl, ho0, hb⟩; have HO266 := rL ho0 HB; replace BK263 := kB BK263 hb; replace HB := bS HB hb; (try clear hb); (try clear hb2); (try clear hk); (try clear hi); (try clear ho0); obtain ⟨Ao9, co9, eo9⟩ := Kd.R_slice HO266.out; subst eo9; have p267 : 0 ≤ (0 : Int) := (by omega); have q267 : 0 < (t264.length : Int) := dT; obtain ⟨ad267, e267, hx267_0⟩ := Kd.at_int (Kd.R_reads' HO266.out).2.2 0 p267 q267; cases e267; have qi267 : (0 < t264.length) = True := eq_true (by omega); (try rw [show ((0 : Int)).toNat = 0 from rfl] at hx267_0); (try rw [Addr.add_zero'] at hx267_0); replace p267 := eq_true p267; replace q267 := eq_true q267; have p268 : 0 ≤ (1 : Int) := (by omega); have q268 : 1 < (t264.length : Int) := dT; obtain ⟨ad268, e268, hx268_0⟩ := Kd.at_int (Kd.R_reads' HO266.out).2.2 1 p268 q268; obtain rfl : ad267 = ad268 := (by injection e268); (try simp only [show (1 : Int).toNat = 1 from rfl, Nat.reduceMul, Nat.reduceEqDiff, Go.Addr.add, ↓reduceIte] at hx268_0); have qi268 : (1 < t264.length) = True := eq_true (by omega); (try rw [show ((1 : Int)).toNat = 1 from rfl] at hx268_0); replace p268 := eq_true p268; replace q268 := eq_true q268; have p269 : 0 ≤ (2 : Int) := (by omega); have q269 : 2 < (t264.length : Int) := dT; obtain ⟨ad269, e269, hx269_0⟩ := Kd.at_int (Kd.R_reads' HO266.out).2.2 2 p269 q269; obtain rfl : ad267 = ad269 := (by injection e269); (try simp only [show (2 : Int).toNat = 2 from rfl, Nat.reduceMul, Nat.reduceEqDiff, Go.Addr.add, ↓reduceIte] at hx269_0); have qi269 : (2 < t264.length) = True := eq_true (by omega); (try rw [show ((2 : Int)).toNat = 2 from rfl] at hx269_0); replace p269 := eq_true p269; replace q269 := eq_true q269)); try go_wp2_with (first | ((with_reducible refine gate_dst (N := 1) rfl ?_); refine bE 1 #[.slice A0_0 l0_0.length c0_0, .slice A0_1 l0_1.length c0_1] 24 ?_; intro gb263 hg w6 hbox hb; have BK263 := Aside0.mk (hbox); have GW263 := gS HB hg; have GE263 := gS HB hg; replace HB := bS HB hb; clear hb hbox hg; have hcz7_0 := zc0 BK263; have hcz7_1 := zc1 BK263; have hfz7_0 := blk_frozen BK263.out 0; have hfz7_1 := blk_frozen BK263.out 1) | (go_at_call 48; (with_reducible refine (spec_l2Counts.calls k _ _ l0_0 _ _ l0_1 t264 _ ?side1 ?side2 ?side3 ?side4 A2.out).mono ?_); (case side1 => exact cB HR0_0 HB); (case side2 => exact HC0_0.out); (case side3 => exact cB HR0_1 HB); (case side4 => exact HC0_1.out); rintro e w8 ⟨v265, rfl, ho0, hb⟩; have HO266 := rL ho0 HB; replace BK263 := kB BK263 hb; replace HB := bS HB hb; (try clear hb); (try clear hb2); (try clear hk); (try clear hi); (try clear ho0); obtain ⟨Ao9, co9, eo9⟩ := Kd.R_slice HO266.out; subst eo9; have p267 : 0 ≤ (0 : Int) := (by omega); have q267 : 0 < (t264.length : Int) := dT; obtain ⟨ad267, e267, hx267_0⟩ := Kd.at_int (Kd.R_reads' HO266.out).2.2 0 p267 q267; cases e267; have qi267 : (0 < t264.length) = True := eq_true (by omega); (try rw [show ((0 : Int)).toNat = 0 from rfl] at hx267_0); (try rw [Addr.add_zero'] at hx267_0); replace p267 := eq_true p267; replace q267 := eq_true q267; have p268 : 0 ≤ (1 : Int) := (by omega); have q268 : 1 < (t264.length : Int) := dT; obtain ⟨ad268, e268, hx268_0⟩ := Kd.at_int (Kd.R_reads' HO266.out).2.2 1 p268 q268; obtain rfl : ad267 = ad268 := (by injection e268); (try simp only [show (1 : Int).toNat = 1 from rfl, Nat.reduceMul, Nat.reduceEqDiff, Go.Addr.add, ↓reduceIte] at hx268_0); have qi268 : (1 < t264.length) = True := eq_true (by omega); (try rw [show ((1 : Int)).toNat = 1 from rfl] at hx268_0); replace p268 := eq_true p268; replace q268 := eq_true q268; have p269 : 0 ≤ (2 : Int) := (by omega); have q269 : 2 < (t264.length : Int) := dT; obtain ⟨ad269, e269, hx269_0⟩ := Kd.at_int (Kd.R_reads' HO266.out).2.2 2 p269 q269; obtain rfl : ad267 = ad269 := (by injection e269); (try simp only [show (2 : Int).toNat = 2 from rfl, Nat.reduceMul, Nat.reduceEqDiff, Go.Addr.add, ↓reduceIte] at hx269_0); have qi269 : (2 < t264.length) = True := eq_true (by omega); (try rw [show ((2 : Int)).toNat = 2 from rfl] at hx269_0); replace p269 := eq_true p269; replace q269 := eq_true q269)))
  go_ret
  exact ⟨eR, bP HB⟩
 ·rw [if_neg c3] at H
  exact absurd H (by simp)

/-! ### spec_MapGenus: function 10 -/
def spec_MapGenus.f (k : Nat) (l0_0 : List Int) (l0_1 : List Int) : Option (Int) := (spec_MapValid.f k l0_0 l0_1).bind fun t271 => (if t271 = true then ((spec_l2Genus.f k l0_0 l0_1).bind fun t272 => (some t272)) else (some (-1)))
set_option maxHeartbeats 8000000 in
set_option maxRecDepth 100000 in
theorem spec_MapGenus.calls (k : Nat) (A0_0 : Option Addr) (c0_0 : Nat) (l0_0 : List Int) (A0_1 : Option Addr) (c0_1 : Nat) (l0_1 : List Int) (r : Int) (w : World) (hr0_0 : Kd.C (Kd.int .i64) w A0_0 l0_0.length l0_0) (hc0_0 : l0_0.length ≤ c0_0) (hr0_1 : Kd.C (Kd.int .i64) w A0_1 l0_1.length l0_1) (hc0_1 : l0_1.length ≤ c0_1) (h : spec_MapGenus.f k l0_0 l0_1 = some r) :
 Calls Try.prog 10 #[.agg #[.slice A0_0 l0_0.length c0_0, .slice A0_1 l0_1.length c0_1]] w fun e w' => e = .returned (.int .i64 r) ∧ Below w.heap.size w w' := by
 have hu24 := Try.underlying24
 have HR0_0 := Aside0.mk hr0_0
 have HC0_0 := Aside0.mk hc0_0
 clear hr0_0 hc0_0
 have HR0_1 := Aside0.mk hr0_1
 have HC0_1 := Aside0.mk hc0_1
 clear hr0_1 hc0_1
 have HB := Aside0.mk (Below.refl w.heap.size w)
 have H : ((spec_MapValid.f k l0_0 l0_1).bind fun t271 => (if t271 = true then ((spec_l2Genus.f k l0_0 l0_1).bind fun t272 => (some t272)) else (some (-1)))) = some r := h
 clear h
 obtain ⟨t271, A20, H⟩ := Option.bind_eq_some_iff.mp H
 have A2 := Aside0.mk A20
 clear A20
 by_cases c3 : t271 = true
 ·subst c3
  rw [if_pos rfl] at H
  obtain ⟨t272, A40, H⟩ := Option.bind_eq_some_iff.mp H
  have A4 := Aside0.mk A40
  clear A40
  obtain rfl := Option.some.inj H
  go_enter Try.func10, Try.ntmps10
  go_wp2_with (first | ((with_reducible refine gate_dst (N := 1) rfl ?_); refine bE 1 #[.slice A0_0 l0_0.length c0_0, .slice A0_1 l0_1.length c0_1] 24 ?_; intro gb270 hg w5 hbox hb; have BK270 := Aside0.mk (hbox); have GW270 := gS HB hg; have GE270 := gS HB hg; replace HB := bS HB hb; clear hb hbox hg; have hcz6_0 := zc0 BK270; have hcz6_1 := zc1 BK270; have hfz6_0 := blk_frozen BK270.out 0; have hfz6_1 := blk_frozen BK270.out 1) | ((with_reducible refine gate_callee (f := 9) rfl ?_); refine gL (some 4) Try.func9 #[.agg #[.slice A0_0 l0_0.length c0_0, .slice A0_1 l0_1.length c0_1]] ?_; (with_reducible refine (spec_MapValid.calls k _ _ l0_0 _ _ l0_1 true _ ?side1 ?side2 ?side3 ?side4 A2.out).mono ?_); (case side1 => exact cB HR0_0 HB); (case side2 => exact HC0_0.out); (case side3 => exact cB HR0_1 HB); (case side4 => exact HC0_1.out); rintro e w7 ⟨rfl, hb⟩; refine ⟨_, rfl, ?_⟩; replace BK270 := kB BK270 hb; replace HB := bS HB hb; (try clear hb); (try clear hb2); (try clear hk); (try clear hi); have hcz8_0 := zc0 BK270; have hcz8_1 := zc1 BK270; have hfz8_0 := blk_frozen BK270.out 0; have hfz8_1 := blk_frozen BK270.out 1) | ((with_reducible refine gate_callee (f := 32) rfl ?_); refine gL (some 7) Try.func32 #[.agg #[.slice A0_0 l0_0.length c0_0, .slice A0_1 l0_1.length c0_1]] ?_; (with_reducible refine (spec_l2Genus.calls k _ _ l0_0 _ _ l0_1 t272 _ ?side1 ?side2 ?side3 ?side4 A4.out).mono ?_); (case side1 => exact cB HR0_0 HB); (case side2 => exact HC0_0.out); (case side3 => exact cB HR0_1 HB); (case side4 => exact HC0_1.out); rintro e w9 ⟨rfl, hb⟩; refine ⟨_, rfl, ?_⟩; replace BK270 := kB BK270 hb; replace HB := bS HB hb; (try clear hb); (try clear hb2); (try clear hk); (try clear hi)))
  go_ret
  exact ⟨eR, bP HB⟩
 ·replace c3 := Bool.eq_false_iff.mpr c3
  subst c3
  rw [iF] at H
  obtain rfl := Option.some.inj H
  go_enter Try.func10, Try.ntmps10
  go_wp2_with (first | ((with_reducible refine gate_dst (N := 1) rfl ?_); refine bE 1 #[.slice A0_0 l0_0.length c0_0, .slice A0_1 l0_1.length c0_1] 24 ?_; intro gb270 hg w10 hbox hb; have BK270 := Aside0.mk (hbox); have GW270 := gS HB hg; have GE270 := gS HB hg; replace HB := bS HB hb; clear hb hbox hg; have hcz11_0 := zc0 BK270; have hcz11_1 := zc1 BK270; have hfz11_0 := blk_frozen BK270.out 0; have hfz11_1 := blk_frozen BK270.out 1) | ((with_reducible refine gate_callee (f := 9) rfl ?_); refine gL (some 4) Try.func9 #[.agg #[.slice A0_0 l0_0.length c0_0, .slice A0_1 l0_1.length c0_1]] ?_; (with_reducible refine (spec_MapValid.calls k _ _ l0_0 _ _ l0_1 false _ ?side1 ?side2 ?side3 ?side4 A2.out).mono ?_); (case side1 => exact cB HR0_0 HB); (case side2 => exact HC0_0.out); (case side3 => exact cB HR0_1 HB); (case side4 => exact HC0_1.out); rintro e w12 ⟨rfl, hb⟩; refine ⟨_, rfl, ?_⟩; replace BK270 := kB BK270 hb; replace HB := bS HB hb; (try clear hb); (try clear hb2); (try clear hk); (try clear hi)))
  go_ret
  exact ⟨eR, bP HB⟩

/-! ### slices_Clone_int_int: function 33 -/
def slices_Clone_int_int.f (l0 : List Int) : Option (List Int) := if l0.length < 17592186044416 then some l0 else none
set_option maxHeartbeats 8000000 in
set_option maxRecDepth 100000 in
theorem slices_Clone_int_int.calls (A0 : Option Addr) (c0 : Nat) (l0 : List Int) (r : List Int) (w : World) (hr0 : Kd.C (Kd.int .i64) w A0 l0.length l0) (hc0 : l0.length ≤ c0) (h : slices_Clone_int_int.f l0 = some r) :
 Calls Try.prog 33 #[.slice A0 l0.length c0] w fun e w' => ∃ v0_ : Value, e = .returned (v0_) ∧ Kd.R (Kd.int .i64) 3 w' w.heap.size (fun _ => True) v0_ r ∧ Below w.heap.size w w' := by
 cases A0 with
 | none =>
  have hl : l0 = [] := by
   cases l0 with
   | nil => rfl
   | cons a l =>
    obtain ⟨ad, e, _⟩ := Kd.at_int hr0 0 (by omega) (by simp)
    cases e
  subst hl
  have hr : r = [] := by
   unfold slices_Clone_int_int.f at h
   rw [if_pos (by decide)] at h
   injection h with h
   exact h.symm
  subst hr
  clear h hr0 hc0
  have he := fun (w : World) (a : Option Addr) (n c : Nat) => Lib.run_eql_slice_nil (P := Try.prog) w 22 3 a n c 0 0 Try.underlying22
  go_enter Try.func33, Try.ntmps33
  go_wp2
  go_ret
  exact ⟨_, rfl, Kd.R_nil _ _ _ _ _, Below.refl _ _⟩
 | some ad =>
  have HR0 := Aside0.mk hr0
  have HC0 := Aside0.mk hc0
  clear hr0 hc0
  have HB := Aside0.mk (Below.refl w.heap.size w)
  unfold slices_Clone_int_int.f at h
  by_cases c2 : l0.length < 17592186044416
  ·rw [if_pos c2] at h
   injection h with h
   subst h
   have LMc2 := Aside0.mk c2
   clear c2
   have he := fun (w : World) (a : Option Addr) (n c : Nat) => Lib.run_eql_slice_nil (P := Try.prog) w 22 3 a n c 0 0 Try.underlying22
   go_enter Try.func33, Try.ntmps33
   go_wp2_with (first | ((with_reducible refine gate_dst (N := 5) rfl ?_); refine Kd.R_lit (Kd.int .i64) _ 3 ?hg (N := 5) ?hd (xs := ([] : List Int)) (inner := []) (ok := fun _ => True) (okp := fun _ => True) ?hr ?hp (fun _ hk => hk) trivial (Below.refl _ _) (Nat.le_refl _) (by simp) ?_; (case hd => rfl); (case hg => rfl); (case hr => first | (go_simp; done) | (go_simp; rfl)); (case hp => exact (Reps.none _ _)); intro v396 w3 ho4 hb hg_ hnew_; clear hg_ hnew_; have HO397 := rL ho4 HB; replace HB := bS HB hb; clear hb ho4) | ((with_reducible refine gate_builtin (b := .append) (xs := #[.tmp 5, .tmp 6]) rfl ?_); at_builtin; refine Kd.R_append_rows (Kd.int .i64) (w0 := w) w.heap.size rfl (.tmp 5) (.tmp 6) 22 3 (.int .i64 0) 8 rfl Try.underlying22 info3 rfl (by decide) (by omega) v396 [] l0 _ _ _ (fun _ => True) (fun _ => False) rfl rfl ?aO ?aR (fun _ _ h => h) (fun _ h => h.elim) ?aF ?aB ?aS ?aL ?_; (case aR => exact cB HR0 HB); (case aB => exact (bP HB)); (case aF => exact (fun _ _ => trivial)); (case aO => exact (rP HO397)); (case aS => exact (below_size (bP HB))); (case aL => have := LMc2.out; simp; omega); intro v399 w5 ho hb hg hat; replace HB := Aside0.mk (hb); have HO400 := Aside0.mk (ho); clear HO397; clear ho hb hg hat))
   go_ret
   exact ⟨_, eR, rP HO400, bP HB⟩
  ·rw [if_neg c2] at h
   cases h

end Go.Proofs.Ytmjdmahgkidocaa.F
