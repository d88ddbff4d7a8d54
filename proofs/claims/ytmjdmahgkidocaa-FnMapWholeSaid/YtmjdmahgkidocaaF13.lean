/- Contracts: what these Go functions return. -/
import Derived.Test.YtmjdmahgkidocaaF0
import Derived.Test.YtmjdmahgkidocaaF11
import Derived.Test.YtmjdmahgkidocaaF12
namespace Go.Proofs.Ytmjdmahgkidocaa.F
open Go.RowKit Go.Proofs.YtmjdmahgkidocaaW.PrintWords Go.Proofs.YtmjdmahgkidocaaW.PrintLast Go.Proofs.YtmjdmahgkidocaaW.PrintMore
attribute [local go_sem] max2_int min2_int max_two min_two max_three min_three max_four min_four
set_option linter.unusedVariables false
set_option linter.unusedSimpArgs false

/-! ### spec_MapValid: function 9 -/
mutual
def spec_MapValid.l0 : Nat → Int → List Int → List Int → Option (Bool)
 | 0, _, _, _ => none
 | k + 1, x3, x211000, x211001 => if x3 < (x211001.length : Int) then (if 0 ≤ x3 then (if (rd x211001 x3) = x3 then (some false) else (if 0 ≤ (rd x211001 x3) then (if (rd x211001 x3) < (x211001.length : Int) then (if (rd x211001 (rd x211001 x3)) = x3 then (spec_MapValid.l0 k (wrap64 (x3 + 1)) x211000 x211001) else (some false)) else (none)) else (none))) else (none)) else ((spec_l1Orbits.f k x211000 x211001).bind fun t215 => (spec_MapValid.l1 k t215 0))
def spec_MapValid.l1 : Nat → List Int → Int → Option (Bool)
 | 0, _, _ => none
 | k + 1, x4, x5 => if x5 < (x4.length : Int) then (if 0 ≤ x5 then (if (rd x4 x5) = 0 then (spec_MapValid.l1 k x4 (wrap64 (x5 + 1))) else (some false)) else (none)) else (some true)
end
def spec_MapValid.f (k : Nat) (l0_0 : List Int) (l0_1 : List Int) : Option (Bool) := (spec_l1Both.f k l0_0 l0_1).bind fun t211 => (if t211 = true then (spec_MapValid.l0 k 0 l0_0 l0_1) else (some false))
set_option maxHeartbeats 8000000 in
set_option maxRecDepth 100000 in
theorem spec_MapValid.calls (k : Nat) (A0_0 : Option Addr) (c0_0 : Nat) (l0_0 : List Int) (A0_1 : Option Addr) (c0_1 : Nat) (l0_1 : List Int) (r : Bool) (w : World) (hr0_0 : Kd.C (Kd.int .i64) w A0_0 l0_0.length l0_0) (hc0_0 : l0_0.length ≤ c0_0) (hr0_1 : Kd.C (Kd.int .i64) w A0_1 l0_1.length l0_1) (hc0_1 : l0_1.length ≤ c0_1) (h : spec_MapValid.f k l0_0 l0_1 = some r) :
 Calls Try.prog 9 #[.agg #[.slice A0_0 l0_0.length c0_0, .slice A0_1 l0_1.length c0_1]] w fun e w' => e = .returned (.bool r) ∧ Below w.heap.size w w' := by
 have hu24 := Try.underlying24
 have HR0_0 := Aside0.mk hr0_0
 have HC0_0 := Aside0.mk hc0_0
 clear hr0_0 hc0_0
 have HR0_1 := Aside0.mk hr0_1
 have HC0_1 := Aside0.mk hc0_1
 clear hr0_1 hc0_1
 have HB := Aside0.mk (Below.refl w.heap.size w)
 have H : ((spec_l1Both.f k l0_0 l0_1).bind fun t211 => (if t211 = true then (spec_MapValid.l0 k 0 l0_0 l0_1) else (some false))) = some r := h
 clear h
 obtain ⟨t211, A20, H⟩ := Option.bind_eq_some_iff.mp H
 have A2 := Aside0.mk A20
 clear A20
 by_cases c3 : t211 = true
 ·subst c3
  rw [if_pos rfl] at H
  have H' := Aside0.mk H
  clear H
  go_enter Try.func9, Try.ntmps9
  go_wp2_with (first | ((with_reducible refine gate_dst (N := 1) rfl ?_); refine bE 1 #[.slice A0_0 l0_0.length c0_0, .slice A0_1 l0_1.length c0_1] 24 ?_; intro gb210 hg w4 hbox hb; have BK210 := Aside0.mk (hbox); have GW210 := gS HB hg; have GE210 := gS HB hg; replace HB := bS HB hb; clear hb hbox hg; have hcz5_0 := zc0 BK210; have hcz5_1 := zc1 BK210; have hfz5_0 := blk_frozen BK210.out 0; have hfz5_1 := blk_frozen BK210.out 1) | (go_at_call 30; (with_reducible refine (spec_l1Both.calls k _ _ l0_0 _ _ l0_1 true _ ?side1 ?side2 ?side3 ?side4 A2.out).mono ?_); (case side1 => exact cB HR0_0 HB); (case side2 => exact HC0_0.out); (case side3 => exact cB HR0_1 HB); (case side4 => exact HC0_1.out); rintro e w' ⟨rfl, ⟨nd, rfl⟩⟩; (try first | exact ⟨rfl, _, World.drewN_drewN _ _ _⟩ | exact ⟨rfl, _, Eq.trans (World.drewN_drewN _ _ _) (congrArg (World.drewN _) (Nat.add_assoc _ _ _))⟩)))
  repeat (go_quiet (first | ((with_reducible refine gate_dst (N := 1) rfl ?_); refine bE 1 #[.slice A0_0 l0_0.length c0_0, .slice A0_1 l0_1.length c0_1] 24 ?_; intro gb210 hg w4 hbox hb; have BK210 := Aside0.mk (hbox); have GW210 := gS HB hg; have GE210 := gS HB hg; replace HB := bS HB hb; clear hb hbox hg; have hcz5_0 := zc0 BK210; have hcz5_1 := zc1 BK210; have hfz5_0 := blk_frozen BK210.out 0; have hfz5_1 := blk_frozen BK210.out 1) | (go_at_call 30; (with_reducible refine (spec_l1Both.calls k _ _ l0_0 _ _ l0_1 true _ ?side1 ?side2 ?side3 ?side4 A2.out).mono ?_); (case side1 => exact cB HR0_0 HB); (case side2 => exact HC0_0.out); (case side3 => exact cB HR0_1 HB); (case side4 => exact HC0_1.out); rintro e w' ⟨rfl, ⟨nd, rfl⟩⟩; (try first | exact ⟨rfl, _, World.drewN_drewN _ _ _⟩ | exact ⟨rfl, _, Eq.trans (World.drewN_drewN _ _ _) (congrArg (World.drewN _) (Nat.add_assoc _ _ _))⟩))); try go_wp2_with (first | ((with_reducible refine gate_dst (N := 1) rfl ?_); refine bE 1 #[.slice A0_0 l0_0.length c0_0, .slice A0_1 l0_1.length c0_1] 24 ?_; intro gb210 hg w4 hbox hb; have BK210 := Aside0.mk (hbox); have GW210 := gS HB hg; have GE210 := gS HB hg; replace HB := bS HB hb; clear hb hbox hg; have hcz5_0 := zc0 BK210; have hcz5_1 := zc1 BK210; have hfz5_0 := blk_frozen BK210.out 0; have hfz5_1 := blk_frozen BK210.out 1) | (go_at_call 30; (with_reducible refine (spec_l1Both.calls k _ _ l0_0 _ _ l0_1 true _ ?side1 ?side2 ?side3 ?side4 A2.out).mono ?_); (case side1 => exact cB HR0_0 HB); (case side2 => exact HC0_0.out); (case side3 => exact cB HR0_1 HB); (case side4 => exact HC0_1.out); rintro e w' ⟨rfl, ⟨nd, rfl⟩⟩; (try first | exact ⟨rfl, _, World.drewN_drewN _ _ _⟩ | exact ⟨rfl, _, Eq.trans (World.drewN_drewN _ _ _) (congrArg (World.drewN _) (Nat.add_assoc _ _ _))⟩))))
  go_loopg [3] k (fun kq v3 w' => ∃ (x3_1 : Int), v3 = .int .i64 x3_1 ∧ Aside0 (spec_MapValid.l0 kq x3_1 l0_0 l0_1 = some r) ∧ Aside0 (kq ≤ k) ∧ Aside0 (w'.heap[gb210]? = some (.cells #[(.slice A0_0 l0_0.length c0_0), (.slice A0_1 l0_1.length c0_1)] 24 (0, 0))) ∧ Aside0 (Below w.heap.size w w'))
  case atStart => exact ⟨(0), eS, H', ⟨Nat.le_refl _⟩, ⟨kP BK210⟩, ⟨bP HB⟩⟩
  case round =>
   clear H'
   try clear p2
   try clear c3
   try clear hcz5_0
   try clear hcz5_1
   try clear hfz5_0
   try clear hfz5_1
   obtain ⟨x3_1, rfl, HA, HK1, BK210, HB⟩ := hrel
   cases gk with
   | zero => exact absurd HA.out (by simp [spec_MapValid.l0])
   | succ k1 =>
    have H := HA.out
    clear HA
    simp only [spec_MapValid.l0] at H
    by_cases c6 : x3_1 < (l0_1.length : Int)
    ·rw [if_pos c6] at H
     have c6b0 : decide (x3_1 < (l0_1.length : Int)) = true := decide_eq_true c6
     clear c6
     by_cases c7 : 0 ≤ x3_1
     case neg =>
      rw [if_neg c7] at H
      exact absurd H (by simp)
     rw [if_pos c7] at H
     have c7b0 : decide (0 ≤ x3_1) = true := decide_eq_true c7
     clear c7
     by_cases c8 : (rd l0_1 x3_1) = x3_1
     ·rw [if_pos c8] at H
      have c8b0 : ((rd l0_1 x3_1) == x3_1) = true := beq_iff_eq.mpr c8
      have c8b1 : ((rd l0_1 x3_1) != x3_1) = false := bne_eq_false_iff_eq.mpr c8
      clear c8
      obtain rfl := Option.some.inj H
      have hcz9_0 := zc0 BK210
      have hcz9_1 := zc1 BK210
      have hfz9_0 := blk_frozen BK210.out 0
      have hfz9_1 := blk_frozen BK210.out 1
      have p212 : 0 ≤ (x3_1 : Int) := dT
      have q212 : x3_1 < (l0_1.length : Int) := dT
      obtain ⟨ad212, e212, hx212_0⟩ := Kd.at_int HR0_1.out x3_1 p212 q212
      cases e212
      replace hx212_0 := (HB.out.cell (World.block_lt_of_cell? w _ hx212_0)).trans hx212_0
      replace p212 := eq_true p212
      replace q212 := eq_true q212
      go_wp2
      repeat (go_quiet (fail); try go_wp2)
      go_ret
      exact ⟨eR, bP HB⟩
     rw [if_neg c8] at H
     have c8b0 : ((rd l0_1 x3_1) == x3_1) = false := beq_eq_false_iff_ne.mpr c8
     have c8b1 : ((rd l0_1 x3_1) != x3_1) = true := bne_iff_ne.mpr c8
     by_cases c10 : 0 ≤ (rd l0_1 x3_1)
     case neg =>
      rw [if_neg c10] at H
      exact absurd H (by simp)
     rw [if_pos c10] at H
     have c10b0 : decide (0 ≤ (rd l0_1 x3_1)) = true := decide_eq_true c10
     clear c10
     by_cases c11 : (rd l0_1 x3_1) < (l0_1.length : Int)
     case neg =>
      rw [if_neg c11] at H
      exact absurd H (by simp)
     rw [if_pos c11] at H
     have c11b0 : decide ((rd l0_1 x3_1) < (l0_1.length : Int)) = true := decide_eq_true c11
     clear c11
     by_cases c12 : (rd l0_1 (rd l0_1 x3_1)) = x3_1
     case neg =>
      rw [if_neg c12] at H
      have c12b0 : ((rd l0_1 (rd l0_1 x3_1)) == x3_1) = false := beq_eq_false_iff_ne.mpr c12
      have c12b1 : ((rd l0_1 (rd l0_1 x3_1)) != x3_1) = true := bne_iff_ne.mpr c12
      obtain rfl := Option.some.inj H
      have hcz14_0 := zc0 BK210
      have hcz14_1 := zc1 BK210
      have hfz14_0 := blk_frozen BK210.out 0
      have hfz14_1 := blk_frozen BK210.out 1
      have p212 : 0 ≤ (x3_1 : Int) := dT
      have q212 : x3_1 < (l0_1.length : Int) := dT
      obtain ⟨ad212, e212, hx212_0⟩ := Kd.at_int HR0_1.out x3_1 p212 q212
      cases e212
      replace hx212_0 := (HB.out.cell (World.block_lt_of_cell? w _ hx212_0)).trans hx212_0
      replace p212 := eq_true p212
      replace q212 := eq_true q212
      have p213 : 0 ≤ (x3_1 : Int) := dT
      have q213 : x3_1 < (l0_1.length : Int) := dT
      obtain ⟨ad213, e213, hx213_0⟩ := Kd.at_int HR0_1.out x3_1 p213 q213
      obtain rfl : ad212 = ad213 := (by injection e213)
      replace hx213_0 := (HB.out.cell (World.block_lt_of_cell? w _ hx213_0)).trans hx213_0
      replace p213 := eq_true p213
      replace q213 := eq_true q213
      have p214 : 0 ≤ ((rd l0_1 x3_1) : Int) := dT
      have q214 : (rd l0_1 x3_1) < (l0_1.length : Int) := dT
      obtain ⟨ad214, e214, hx214_0⟩ := Kd.at_int HR0_1.out (rd l0_1 x3_1) p214 q214
      obtain rfl : ad212 = ad214 := (by injection e214)
      replace hx214_0 := (HB.out.cell (World.block_lt_of_cell? w _ hx214_0)).trans hx214_0
      replace p214 := eq_true p214
      replace q214 := eq_true q214
      go_wp2
      repeat (go_quiet (fail); try go_wp2)
      go_ret
      exact ⟨eR, bP HB⟩
     rw [if_pos c12] at H
     have c12b0 : ((rd l0_1 (rd l0_1 x3_1)) == x3_1) = true := beq_iff_eq.mpr c12
     have c12b1 : ((rd l0_1 (rd l0_1 x3_1)) != x3_1) = false := bne_eq_false_iff_eq.mpr c12
     clear c12
     have H' := Aside0.mk H
     clear H
     have hcz13_0 := zc0 BK210
     have hcz13_1 := zc1 BK210
     have hfz13_0 := blk_frozen BK210.out 0
     have hfz13_1 := blk_frozen BK210.out 1
     have p212 : 0 ≤ (x3_1 : Int) := dT
     have q212 : x3_1 < (l0_1.length : Int) := dT
     obtain ⟨ad212, e212, hx212_0⟩ := Kd.at_int HR0_1.out x3_1 p212 q212
     cases e212
     replace hx212_0 := (HB.out.cell (World.block_lt_of_cell? w _ hx212_0)).trans hx212_0
     replace p212 := eq_true p212
     replace q212 := eq_true q212
     have p213 : 0 ≤ (x3_1 : Int) := dT
     have q213 : x3_1 < (l0_1.length : Int) := dT
     obtain ⟨ad213, e213, hx213_0⟩ := Kd.at_int HR0_1.out x3_1 p213 q213
     obtain rfl : ad212 = ad213 := (by injection e213)
     replace hx213_0 := (HB.out.cell (World.block_lt_of_cell? w _ hx213_0)).trans hx213_0
     replace p213 := eq_true p213
     replace q213 := eq_true q213
     have p214 : 0 ≤ ((rd l0_1 x3_1) : Int) := dT
     have q214 : (rd l0_1 x3_1) < (l0_1.length : Int) := dT
     obtain ⟨ad214, e214, hx214_0⟩ := Kd.at_int HR0_1.out (rd l0_1 x3_1) p214 q214
     obtain rfl : ad212 = ad214 := (by injection e214)
     replace hx214_0 := (HB.out.cell (World.block_lt_of_cell? w _ hx214_0)).trans hx214_0
     replace p214 := eq_true p214
     replace q214 := eq_true q214
     go_wp2
     repeat (go_quiet (fail); try go_wp2)
     go_roundg k1
     case measure => have := HK1.out; omega
     case rel => exact ⟨(wrap64 (x3_1 + 1)), eS, H', ⟨by have := HK1.out; omega⟩, ⟨kP BK210⟩, ⟨bP HB⟩⟩
    rw [if_neg c6] at H
    have c6b0 : decide (x3_1 < (l0_1.length : Int)) = false := decide_eq_false c6
    clear c6
    obtain ⟨t215, A150, H⟩ := Option.bind_eq_some_iff.mp H
    have A15 := Aside0.mk A150
    clear A150
    have H' := Aside0.mk H
    clear H
    have hcz16_0 := zc0 BK210
    have hcz16_1 := zc1 BK210
    have hfz16_0 := blk_frozen BK210.out 0
    have hfz16_1 := blk_frozen BK210.out 1
    go_wp2_with (first | (go_at_call 31; (with_reducible refine (spec_l1Orbits.calls k1 _ _ l0_0 _ _ l0_1 t215 _ ?side1 ?side2 ?side3 ?side4 A15.out).mono ?_); (case side1 => exact cB HR0_0 HB); (case side2 => exact HC0_0.out); (case side3 => exact cB HR0_1 HB); (case side4 => exact HC0_1.out); rintro e w17 ⟨v216, rfl, ho0, hb⟩; have HO217 := rL ho0 HB; replace BK210 := kB BK210 hb; replace HB := bS HB hb; (try clear hb); (try clear hb2); (try clear hk); (try clear hi); (try clear ho0)))
    repeat (go_quiet (first | (go_at_call 31; (with_reducible refine (spec_l1Orbits.calls k1 _ _ l0_0 _ _ l0_1 t215 _ ?side1 ?side2 ?side3 ?side4 A15.out).mono ?_); (case side1 => exact cB HR0_0 HB); (case side2 => exact HC0_0.out); (case side3 => exact cB HR0_1 HB); (case side4 => exact HC0_1.out); rintro e w17 ⟨v216, rfl, ho0, hb⟩; have HO217 := rL ho0 HB; replace BK210 := kB BK210 hb; replace HB := bS HB hb; (try clear hb); (try clear hb2); (try clear hk); (try clear hi); (try clear ho0))); try go_wp2_with (first | (go_at_call 31; (with_reducible refine (spec_l1Orbits.calls k1 _ _ l0_0 _ _ l0_1 t215 _ ?side1 ?side2 ?side3 ?side4 A15.out).mono ?_); (case side1 => exact cB HR0_0 HB); (case side2 => exact HC0_0.out); (case side3 => exact cB HR0_1 HB); (case side4 => exact HC0_1.out); rintro e w17 ⟨v216, rfl, ho0, hb⟩; have HO217 := rL ho0 HB; replace BK210 := kB BK210 hb; replace HB := bS HB hb; (try clear hb); (try clear hb2); (try clear hk); (try clear hi); (try clear ho0))))
    go_loopg [5] k1 (fun kq v5 w' => ∃ (x5_2 : Int), v5 = .int .i64 x5_2 ∧ Aside0 (spec_MapValid.l1 kq t215 x5_2 = some r) ∧ Aside0 (kq ≤ k1) ∧ Aside0 (Kd.R (Kd.int .i64) 3 w' w.heap.size (fun _ => True) v216 t215) ∧ Aside0 (w'.heap[gb210]? = some (.cells #[(.slice A0_0 l0_0.length c0_0), (.slice A0_1 l0_1.length c0_1)] 24 (0, 0))) ∧ Aside0 (Below w.heap.size w w'))
    case atStart => exact ⟨(0), eS, H', ⟨Nat.le_refl _⟩, ⟨rP HO217⟩, ⟨kP BK210⟩, ⟨bP HB⟩⟩
    case round =>
     clear H'
     try clear c1
     try clear p2
     try clear q2
     try clear hx2
     try clear c3
     try clear c6
     try clear c6b0
     try clear p6
     try clear c7
     try clear c7b0
     try clear c8
     try clear c8b0
     try clear c8b1
     try clear c9
     try clear c10
     try clear c10b0
     try clear c11
     try clear c11b0
     try clear c12
     try clear c12b0
     try clear c12b1
     try clear hcz13_0
     try clear hcz13_1
     try clear hcz14_0
     try clear hcz14_1
     try clear hcz16_0
     try clear hcz16_1
     try clear hcz5_0
     try clear hcz5_1
     try clear hcz9_0
     try clear hcz9_1
     try clear hfz13_0
     try clear hfz13_1
     try clear hfz14_0
     try clear hfz14_1
     try clear hfz16_0
     try clear hfz16_1
     try clear hfz5_0
     try clear hfz5_1
     try clear hfz9_0
     try clear hfz9_1
     try clear hx212_0
     try clear hx213_0
     try clear hx214_0
     try clear p2
     try clear p212
     try clear p213
     try clear p214
     try clear q212
     try clear q213
     try clear q214
     obtain ⟨x5_2, rfl, HA, HK2, HO_4, BK210, HB⟩ := hrel
     cases gk with
     | zero => exact absurd HA.out (by simp [spec_MapValid.l1])
     | succ k2 =>
      have H := HA.out
      clear HA
      simp only [spec_MapValid.l1] at H
      by_cases c18 : x5_2 < (t215.length : Int)
      case neg =>
       rw [if_neg c18] at H
       have c18b0 : decide (x5_2 < (t215.length : Int)) = false := decide_eq_false c18
       clear c18
       obtain rfl := Option.some.inj H
       obtain ⟨Ao23, co23, eo23⟩ := Kd.R_slice HO_4.out
       subst eo23
       go_wp2
       repeat (go_quiet (fail); try go_wp2)
       go_ret
       exact ⟨eR, bP HB⟩
      rw [if_pos c18] at H
      have c18b0 : decide (x5_2 < (t215.length : Int)) = true := decide_eq_true c18
      clear c18
      by_cases c19 : 0 ≤ x5_2
      case neg =>
       rw [if_neg c19] at H
       exact absurd H (by simp)
      rw [if_pos c19] at H
      have c19b0 : decide (0 ≤ x5_2) = true := decide_eq_true c19
      clear c19
      by_cases c20 : (rd t215 x5_2) = 0
      case neg =>
       rw [if_neg c20] at H
       have c20b0 : ((rd t215 x5_2) == 0) = false := beq_eq_false_iff_ne.mpr c20
       have c20b1 : ((rd t215 x5_2) != 0) = true := bne_iff_ne.mpr c20
       obtain rfl := Option.some.inj H
       obtain ⟨Ao22, co22, eo22⟩ := Kd.R_slice HO_4.out
       subst eo22
       have p218 : 0 ≤ (x5_2 : Int) := dT
       have q218 : x5_2 < (t215.length : Int) := dT
       obtain ⟨ad218, e218, hx218_0⟩ := Kd.at_int (Kd.R_reads' HO_4.out).2.2 x5_2 p218 q218
       cases e218
       replace p218 := eq_true p218
       replace q218 := eq_true q218
       go_wp2
       repeat (go_quiet (fail); try go_wp2)
       go_ret
       exact ⟨eR, bP HB⟩
      rw [if_pos c20] at H
      have c20b0 : ((rd t215 x5_2) == 0) = true := beq_iff_eq.mpr c20
      have c20b1 : ((rd t215 x5_2) != 0) = false := bne_eq_false_iff_eq.mpr c20
      clear c20
      have H' := Aside0.mk H
      clear H
      obtain ⟨Ao21, co21, eo21⟩ := Kd.R_slice HO_4.out
      subst eo21
      have p218 : 0 ≤ (x5_2 : Int) := dT
      have q218 : x5_2 < (t215.length : Int) := dT
      obtain ⟨ad218, e218, hx218_0⟩ := Kd.at_int (Kd.R_reads' HO_4.out).2.2 x5_2 p218 q218
      cases e218
      replace p218 := eq_true p218
      replace q218 := eq_true q218
      go_wp2
      repeat (go_quiet (fail); try go_wp2)
      go_roundg k2
      case measure => have := HK1.out; have := HK2.out; omega
      case rel => exact ⟨(wrap64 (x5_2 + 1)), eS, H', ⟨by have := HK1.out; have := HK2.out; omega⟩, ⟨rP HO_4⟩, ⟨kP BK210⟩, ⟨bP HB⟩⟩
 ·replace c3 := Bool.eq_false_iff.mpr c3
  subst c3
  rw [iF] at H
  obtain rfl := Option.some.inj H
  go_enter Try.func9, Try.ntmps9
  go_wp2_with (first | ((with_reducible refine gate_dst (N := 1) rfl ?_); refine bE 1 #[.slice A0_0 l0_0.length c0_0, .slice A0_1 l0_1.length c0_1] 24 ?_; intro gb210 hg w24 hbox hb; have BK210 := Aside0.mk (hbox); have GW210 := gS HB hg; have GE210 := gS HB hg; replace HB := bS HB hb; clear hb hbox hg; have hcz25_0 := zc0 BK210; have hcz25_1 := zc1 BK210; have hfz25_0 := blk_frozen BK210.out 0; have hfz25_1 := blk_frozen BK210.out 1) | (go_at_call 30; (with_reducible refine (spec_l1Both.calls k _ _ l0_0 _ _ l0_1 false _ ?side1 ?side2 ?side3 ?side4 A2.out).mono ?_); (case side1 => exact cB HR0_0 HB); (case side2 => exact HC0_0.out); (case side3 => exact cB HR0_1 HB); (case side4 => exact HC0_1.out); rintro e w' ⟨rfl, ⟨nd, rfl⟩⟩; (try first | exact ⟨rfl, _, World.drewN_drewN _ _ _⟩ | exact ⟨rfl, _, Eq.trans (World.drewN_drewN _ _ _) (congrArg (World.drewN _) (Nat.add_assoc _ _ _))⟩)))
  repeat (go_quiet (first | ((with_reducible refine gate_dst (N := 1) rfl ?_); refine bE 1 #[.slice A0_0 l0_0.length c0_0, .slice A0_1 l0_1.length c0_1] 24 ?_; intro gb210 hg w24 hbox hb; have BK210 := Aside0.mk (hbox); have GW210 := gS HB hg; have GE210 := gS HB hg; replace HB := bS HB hb; clear hb hbox hg; have hcz25_0 := zc0 BK210; have hcz25_1 := zc1 BK210; have hfz25_0 := blk_frozen BK210.out 0; have hfz25_1 := blk_frozen BK210.out 1) | (go_at_call 30; (with_reducible refine (spec_l1Both.calls k _ _ l0_0 _ _ l0_1 false _ ?side1 ?side2 ?side3 ?side4 A2.out).mono ?_); (case side1 => exact cB HR0_0 HB); (case side2 => exact HC0_0.out); (case side3 => exact cB HR0_1 HB); (case side4 => exact HC0_1.out); rintro e w' ⟨rfl, ⟨nd, rfl⟩⟩; (try first | exact ⟨rfl, _, World.drewN_drewN _ _ _⟩ | exact ⟨rfl, _, Eq.trans (World.drewN_drewN _ _ _) (congrArg (World.drewN _) (Nat.add_assoc _ _ _))⟩))); try go_wp2_with (first | ((with_reducible refine gate_dst (N := 1) rfl ?_); refine bE 1 #[.slice A0_0 l0_0.length c0_0, .slice A0_1 l0_1.length c0_1] 24 ?_; intro gb210 hg w24 hbox hb; have BK210 := Aside0.mk (hbox); have GW210 := gS HB hg; have GE210 := gS HB hg; replace HB := bS HB hb; clear hb hbox hg; have hcz25_0 := zc0 BK210; have hcz25_1 := zc1 BK210; have hfz25_0 := blk_frozen BK210.out 0; have hfz25_1 := blk_frozen BK210.out 1) | (go_at_call 30; (with_reducible refine (spec_l1Both.calls k _ _ l0_0 _ _ l0_1 false _ ?side1 ?side2 ?side3 ?side4 A2.out).mono ?_); (case side1 => exact cB HR0_0 HB); (case side2 => exact HC0_0.out); (case side3 => exact cB HR0_1 HB); (case side4 => exact HC0_1.out); rintro e w' ⟨rfl, ⟨nd, rfl⟩⟩; (try first | exact ⟨rfl, _, World.drewN_drewN _ _ _⟩ | exact ⟨rfl, _, Eq.trans (World.drewN_drewN _ _ _) (congrArg (World.drewN _) (Nat.add_assoc _ _ _))⟩))))
  go_ret
  exact ⟨eR, bP HB⟩

end Go.Proofs.Ytmjdmahgkidocaa.F
