/- Contracts: what these Go functions return. -/
import Derived.Test.YteffimfifgnleaaF0
import Derived.Test.YteffimfifgnleaaF1
import Derived.Test.YteffimfifgnleaaF2
namespace Go.Proofs.Yteffimfifgnleaa.F
open Go.RowKit Go.Proofs.YteffimfifgnleaaW.PrintWords Go.Proofs.YteffimfifgnleaaW.PrintLast Go.Proofs.YteffimfifgnleaaW.PrintMore
attribute [local go_sem] max2_int min2_int max_two min_two max_three min_three max_four min_four
set_option linter.unusedVariables false
set_option linter.unusedSimpArgs false

/-! ### spec_l1Type: function 43 -/
mutual
def spec_l1Type.l0 : Nat → List Int → List (List Int) → Int → Option (List Int)
 | 0, _, _, _ => none
 | k + 1, x3, x4, x5 => if x5 > 0 then (spec_l1Type.l1 k x3 x4 x5 0) else (some x3)
def spec_l1Type.l1 : Nat → List Int → List (List Int) → Int → Int → Option (List Int)
 | 0, _, _, _, _ => none
 | k + 1, x3, x4, x5, x6 => if x6 < (x4.length : Int) then (if 0 ≤ x6 then (if ((rd_L1 x4 x6).length : Int) = x5 then (if x3.length < 17592186044416 then (spec_l1Type.l1 k (x3 ++ [x5]) x4 x5 (wrap64 (x6 + 1))) else (none)) else (spec_l1Type.l1 k x3 x4 x5 (wrap64 (x6 + 1)))) else (none)) else (spec_l1Type.l0 k x3 x4 (wrap64 (x5 - 1)))
end
def spec_l1Type.f (k : Nat) (l0 : List Int) : Option (List Int) := (spec_l1Cycles.f k l0).bind fun t128 => (spec_l1Type.l0 k (([] : List Int)) t128 (l0.length : Int))
set_option maxHeartbeats 8000000 in
set_option maxRecDepth 100000 in
theorem spec_l1Type.calls (k : Nat) (A0 : Option Addr) (c0 : Nat) (l0 : List Int) (r : List Int) (w : World) (hr0 : Kd.C (Kd.int .i64) w A0 l0.length l0) (hc0 : l0.length ≤ c0) (h : spec_l1Type.f k l0 = some r) :
 Calls Try.prog 43 #[.slice A0 l0.length c0] w fun e w' => ∃ v0_ : Value, e = .returned (v0_) ∧ Kd.R (Kd.int .i64) 3 w' w.heap.size (fun _ => True) v0_ r ∧ Below w.heap.size w w' := by
 have HR0 := Aside0.mk hr0
 have HC0 := Aside0.mk hc0
 clear hr0 hc0
 have HB := Aside0.mk (Below.refl w.heap.size w)
 have H : ((spec_l1Cycles.f k l0).bind fun t128 => (spec_l1Type.l0 k (([] : List Int)) t128 (l0.length : Int))) = some r := h
 clear h
 obtain ⟨y125, hy125⟩ : ∃ y_ : List Int, y_ = (([] : List Int)) := ⟨_, rfl⟩
 replace H : ((spec_l1Cycles.f k l0).bind fun t128 => (spec_l1Type.l0 k y125 t128 (l0.length : Int))) = some r := by first | (rw [hy125]; with_reducible exact H) | (have H2_ := (Option.bind_some _ _).symm.trans H; rw [hy125]; with_reducible exact H2_) | (have H2_ := (Option.bind_some _ _).symm.trans H; with_reducible exact H2_) | with_reducible exact H | (rw [hy125]; exact H) | exact H
 have Ny125 := Aside0.mk hy125
 clear hy125
 replace H := Option.bind_eq_some_iff.mp H
 obtain ⟨t128, A20, H⟩ := H
 replace H : (spec_l1Type.l0 k y125 t128 (l0.length : Int)) = some r := H
 have A2 := Aside0.mk A20
 clear A20
 have H' := Aside0.mk H
 clear H
 go_enter Try.func43, Try.ntmps43
 go_wp2_with (first | ((with_reducible refine gate_dst (N := 7) rfl ?_); refine Kd.R_lit (Kd.int .i64) _ 3 ?hg (N := 7) ?hd (xs := ([] : List Int)) (inner := []) (ok := fun _ => True) (okp := fun _ => True) ?hr ?hp (fun _ hk => hk) trivial (Below.refl _ _) (Nat.le_refl _) (by simp) ?_; (case hd => rfl); (case hg => rfl); (case hr => first | (go_simp; done) | (go_simp; rfl)); (case hp => exact (Reps.none _ _)); intro v126 w3 ho4 hb hg_ hnew_; clear hg_ hnew_; (first | rw [← Ny125.out] at ho4 | (simp only [Int.reduceToNat] at ho4; rw [← Ny125.out] at ho4)); have HO127 := rL ho4 HB; replace HB := bS HB hb; clear hb ho4) | ((with_reducible refine gate_callee (f := 72) rfl ?_); refine gL (some 9) Try.func72 #[.slice A0 l0.length c0] ?_; (with_reducible refine (spec_l1Cycles.calls k _ _ l0 t128 _ ?side1 ?side2 A2.out).mono ?_); (case side1 => exact cB HR0 HB); (case side2 => exact HC0.out); rintro e w5 ⟨v129, rfl, ho0, hb⟩; refine ⟨_, rfl, ?_⟩; have HO130 := Aside0.mk (Kd.S_lower (Kd.S_new' ho0 (Kd.R_lt (rP HO127))) (below_size (bP HB))); replace HO127 := rB HO127 hb; replace HB := bS HB hb; (try clear hb); (try clear hb2); (try clear hk); (try clear hi); (try clear ho0)))
 go_loopg [3, 5] k (fun kq v3 v5 w' => ∃ (x3_1 : List Int) (x5_1 : Int), v5 = .int .i64 x5_1 ∧ Aside0 (spec_l1Type.l0 kq x3_1 t128 x5_1 = some r) ∧ Aside0 (kq ≤ k) ∧ Aside0 (Kd.R (Kd.int .i64) 3 w' w.heap.size (fun _ => True) v3 x3_1) ∧ Aside0 (Kd.S (Kd.slice 3 (Kd.int .i64)) 22 w' w.heap.size (fun k_ => some k_ ≠ (v3 : Value).ownBlock) v129 t128) ∧ Aside0 (Below w.heap.size w w'))
 case atStart => exact ⟨(y125), ((l0.length : Int)), eS, H', ⟨Nat.le_refl _⟩, ⟨rP HO127⟩, ⟨by (with_reducible repeat (first | apply Kd.S_alloc | apply Kd.S_drewN | apply Kd.S_drew)); exact Kd.S_mono HO130.out (fun _ hk => hk.2)⟩, ⟨bP HB⟩⟩
 case round =>
  clear H'
  try clear p2
  try clear c4
  obtain ⟨x3_1, x5_1, rfl, HA, HK1, HO_3, HO_4, HB⟩ := hrel
  cases gk with
  | zero => exact absurd HA.out (by simp [spec_l1Type.l0])
  | succ k1 =>
   have H := HA.out
   clear HA
   simp only [spec_l1Type.l0] at H
   by_cases c6 : x5_1 > 0
   ·rw [if_pos c6] at H
    have c6b0 : decide (0 < x5_1) = true := decide_eq_true c6
    clear c6
    have H' := Aside0.mk H
    clear H
    go_wp2
    go_loopg [3, 6] k1 (fun kq v3 v6 w' => ∃ (x3_2 : List Int) (x6_2 : Int), v6 = .int .i64 x6_2 ∧ Aside0 (spec_l1Type.l1 kq x3_2 t128 x5_1 x6_2 = some r) ∧ Aside0 (kq ≤ k1) ∧ Aside0 (Kd.R (Kd.int .i64) 3 w' w.heap.size (fun _ => True) v3 x3_2) ∧ Aside0 (Kd.S (Kd.slice 3 (Kd.int .i64)) 22 w' w.heap.size (fun k_ => some k_ ≠ (v3 : Value).ownBlock) v129 t128) ∧ Aside0 (Below w.heap.size w w'))
    case atStart => exact ⟨(x3_1), (0), eS, H', ⟨Nat.le_refl _⟩, ⟨rP HO_3⟩, ⟨by (with_reducible repeat (first | apply Kd.S_alloc | apply Kd.S_drewN | apply Kd.S_drew)); exact HO_4.out⟩, ⟨bP HB⟩⟩
    case round =>
     clear H'
     try clear p2
     try clear c4
     try clear c6
     try clear c6b0
     try clear p2
     obtain ⟨x3_2, x6_2, rfl, HA, HK2, HO_3, HO_4, HB⟩ := hrel
     cases gk with
     | zero => exact absurd HA.out (by simp [spec_l1Type.l1])
     | succ k2 =>
      have H := HA.out
      clear HA
      simp only [spec_l1Type.l1] at H
      by_cases c7 : x6_2 < (t128.length : Int)
      ·rw [if_pos c7] at H
       have c7b0 : decide (x6_2 < (t128.length : Int)) = true := decide_eq_true c7
       clear c7
       by_cases c8 : 0 ≤ x6_2
       ·rw [if_pos c8] at H
        have c8b0 : decide (0 ≤ x6_2) = true := decide_eq_true c8
        clear c8
        by_cases c9 : ((rd_L1 t128 x6_2).length : Int) = x5_1
        ·rw [if_pos c9] at H
         have c9b0 : (((rd_L1 t128 x6_2).length : Int) == x5_1) = true := beq_iff_eq.mpr c9
         have c9b1 : (((rd_L1 t128 x6_2).length : Int) != x5_1) = false := bne_eq_false_iff_eq.mpr c9
         clear c9
         by_cases c10 : x3_2.length < 17592186044416
         ·rw [if_pos c10] at H
          have LMc10 := Aside0.mk c10
          clear c10
          obtain ⟨y132, hy132⟩ : ∃ y_ : List Int, y_ = (x3_2 ++ [x5_1]) := ⟨_, rfl⟩
          replace H : (spec_l1Type.l1 k2 y132 t128 x5_1 (wrap64 (x6_2 + 1))) = some r := by first | (rw [hy132]; with_reducible exact H) | (have H2_ := (Option.bind_some _ _).symm.trans H; rw [hy132]; with_reducible exact H2_) | (have H2_ := (Option.bind_some _ _).symm.trans H; with_reducible exact H2_) | with_reducible exact H | (rw [hy132]; exact H) | exact H
          have Ny132 := Aside0.mk hy132
          clear hy132
          have H' := Aside0.mk H
          clear H
          obtain ⟨Ao11, co11, eo11⟩ := Kd.S_slice HO_4.out
          subst eo11
          have p131 : 0 ≤ (x6_2 : Int) := dT
          have q131 : x6_2 < (t128.length : Int) := dT
          obtain ⟨ad131, A131_0, c131_0, e131, hx131_0, hl131_0, hi131_0⟩ := at_L1 (Kd.S_reads' HO_4.out).2.2 x6_2 p131 q131
          cases e131
          obtain ⟨ce131, hce131, hMe131, hcc131⟩ := Kd.S_get HO_4.out [] x6_2 p131 (by first | exact q131 | exact dT | (have e_ := (Kd.S_reads' HO_4.out).1; omega))
          obtain ⟨ve131_0, rfl, ge131_0⟩ := hMe131
          have hv131_0 := hcc131 0 _ rfl
          rw [Nat.add_zero, show ((Kd.slice 3 (Kd.int .i64))).sz = 1 from rfl, Nat.mul_one] at hv131_0
          replace hv131_0 := Option.some.inj (hv131_0.symm.trans hx131_0)
          rw [hv131_0] at ge131_0
          have HL131_0 := Aside0.mk (show Kd.R (Kd.int .i64) 3 _ _ _ _ (rd_L1 t128 x6_2) from ge131_0)
          clear hv131_0 ge131_0
          clear hcc131 hce131
          have HR131_0 := Aside0.mk hi131_0
          have HC131_0 := Aside0.mk hl131_0
          clear hi131_0 hl131_0
          replace p131 := eq_true p131
          replace q131 := eq_true q131
          go_wp2_with (first | ((with_reducible refine gate_builtin (b := .append) (xs := #[.tmp 29, .tmp 31]) rfl ?_); at_builtin; refine Kd.R_append (Kd.int .i64) (w0 := w) w.heap.size rfl (.tmp 29) (.tmp 31) 22 3 (.int .i64 0) 8 rfl Try.underlying22 info3 rfl (by decide) (by omega) u3 x3_2 x5_1 [.int .i64 x5_1] (fun _ => True) (fun _ => False) rfl rfl ?aP (fun _ hk => hk.elim) ?aF ?aO ?aB ?aS ?aL ?_; (case aP => exact rfl); (case aB => exact (bP HB)); (case aF => exact (fun _ _ => trivial)); (case aO => exact (rP HO_3)); (case aS => exact (below_size (bP HB))); (case aL => have := LMc10.out; omega); intro v133 w12 ho hb hg hat; rw [← Ny132.out] at ho; replace HO_4 := Aside0.mk (Kd.S_after (ok := (fun _ => True)) (by (with_reducible repeat (first | apply Kd.S_alloc | apply Kd.S_drewN | apply Kd.S_drew)); exact Kd.S_mono HO_4.out (fun _ hk => ⟨trivial, hk⟩)) hg hat); replace HL131_0 := Aside0.mk (Kd.R_after (ok := (fun k_ => some k_ ≠ (.slice (some ad131) t128.length co11 : Value).ownBlock)) (by (with_reducible repeat (first | apply Kd.R_alloc | apply Kd.R_drewN | apply Kd.R_drew)); exact Kd.R_mono HL131_0.out (fun _ hk => ⟨hk.2, hk.1⟩)) hg hat); replace HB := Aside0.mk (hb); have HO134 := Aside0.mk (ho); clear HO_3; clear ho hb hg hat))
          go_roundg k2
          case measure => have := HK1.out; have := HK2.out; omega
          case rel => exact ⟨(y132), (wrap64 (x6_2 + 1)), eS, H', ⟨by have := HK1.out; have := HK2.out; omega⟩, ⟨rP HO134⟩, ⟨by (with_reducible repeat (first | apply Kd.S_alloc | apply Kd.S_drewN | apply Kd.S_drew)); exact Kd.S_mono HO_4.out (fun _ hk => hk.2)⟩, ⟨bP HB⟩⟩
         ·rw [if_neg c10] at H
          exact absurd H (by simp)
        ·rw [if_neg c9] at H
         have c9b0 : (((rd_L1 t128 x6_2).length : Int) == x5_1) = false := beq_eq_false_iff_ne.mpr c9
         have c9b1 : (((rd_L1 t128 x6_2).length : Int) != x5_1) = true := bne_iff_ne.mpr c9
         have H' := Aside0.mk H
         clear H
         obtain ⟨Ao13, co13, eo13⟩ := Kd.S_slice HO_4.out
         subst eo13
         have p131 : 0 ≤ (x6_2 : Int) := dT
         have q131 : x6_2 < (t128.length : Int) := dT
         obtain ⟨ad131, A131_0, c131_0, e131, hx131_0, hl131_0, hi131_0⟩ := at_L1 (Kd.S_reads' HO_4.out).2.2 x6_2 p131 q131
         cases e131
         obtain ⟨ce131, hce131, hMe131, hcc131⟩ := Kd.S_get HO_4.out [] x6_2 p131 (by first | exact q131 | exact dT | (have e_ := (Kd.S_reads' HO_4.out).1; omega))
         obtain ⟨ve131_0, rfl, ge131_0⟩ := hMe131
         have hv131_0 := hcc131 0 _ rfl
         rw [Nat.add_zero, show ((Kd.slice 3 (Kd.int .i64))).sz = 1 from rfl, Nat.mul_one] at hv131_0
         replace hv131_0 := Option.some.inj (hv131_0.symm.trans hx131_0)
         rw [hv131_0] at ge131_0
         have HL131_0 := Aside0.mk (show Kd.R (Kd.int .i64) 3 _ _ _ _ (rd_L1 t128 x6_2) from ge131_0)
         clear hv131_0 ge131_0
         clear hcc131 hce131
         have HR131_0 := Aside0.mk hi131_0
         have HC131_0 := Aside0.mk hl131_0
         clear hi131_0 hl131_0
         replace p131 := eq_true p131
         replace q131 := eq_true q131
         go_wp2
         go_roundg k2
         case measure => have := HK1.out; have := HK2.out; omega
         case rel => exact ⟨(x3_2), (wrap64 (x6_2 + 1)), eS, H', ⟨by have := HK1.out; have := HK2.out; omega⟩, ⟨rP HO_3⟩, ⟨by (with_reducible repeat (first | apply Kd.S_alloc | apply Kd.S_drewN | apply Kd.S_drew)); exact HO_4.out⟩, ⟨bP HB⟩⟩
       ·rw [if_neg c8] at H
        exact absurd H (by simp)
      ·rw [if_neg c7] at H
       have c7b0 : decide (x6_2 < (t128.length : Int)) = false := decide_eq_false c7
       clear c7
       have H' := Aside0.mk H
       clear H
       obtain ⟨Ao14, co14, eo14⟩ := Kd.S_slice HO_4.out
       subst eo14
       go_wp2
       go_roundg k2
       case measure => have := HK1.out; have := HK2.out; omega
       case rel => exact ⟨(x3_2), (wrap64 (x5_1 - 1)), eS, H', ⟨by have := HK1.out; have := HK2.out; omega⟩, ⟨rP HO_3⟩, ⟨by (with_reducible repeat (first | apply Kd.S_alloc | apply Kd.S_drewN | apply Kd.S_drew)); exact HO_4.out⟩, ⟨bP HB⟩⟩
   ·rw [if_neg c6] at H
    have c6b0 : decide (0 < x5_1) = false := decide_eq_false c6
    clear c6
    obtain rfl := Option.some.inj H
    go_wp2
    go_ret
    exact ⟨_, eR, rP HO_3, bP HB⟩

/-! ### spec_PermType: function 9 -/
def spec_PermType.f (k : Nat) (l0 : List Int) : Option (List Int × Bool) := (spec_PermValid.f k l0).bind fun t135 => (if t135 = true then ((spec_l1Type.f k l0).bind fun t136 => (some (t136, true))) else (some ((([] : List Int)), false)))
set_option maxHeartbeats 8000000 in
set_option maxRecDepth 100000 in
theorem spec_PermType.calls (k : Nat) (A0 : Option Addr) (c0 : Nat) (l0 : List Int) (r1 : List Int) (r2 : Bool) (w : World) (hr0 : Kd.C (Kd.int .i64) w A0 l0.length l0) (hc0 : l0.length ≤ c0) (h : spec_PermType.f k l0 = some (r1, r2)) :
 Calls Try.prog 9 #[.slice A0 l0.length c0] w fun e w' => ∃ v0_ : Value, e = .returned (.tuple #[v0_, .bool r2]) ∧ Kd.R (Kd.int .i64) 3 w' w.heap.size (fun _ => True) v0_ r1 ∧ Below w.heap.size w w' := by
 have HR0 := Aside0.mk hr0
 have HC0 := Aside0.mk hc0
 clear hr0 hc0
 have HB := Aside0.mk (Below.refl w.heap.size w)
 have H : ((spec_PermValid.f k l0).bind fun t135 => (if t135 = true then ((spec_l1Type.f k l0).bind fun t136 => (some (t136, true))) else (some ((([] : List Int)), false)))) = some (r1, r2) := h
 clear h
 replace H := Option.bind_eq_some_iff.mp H
 obtain ⟨t135, A20, H⟩ := H
 replace H : (if t135 = true then ((spec_l1Type.f k l0).bind fun t136 => (some (t136, true))) else (some ((([] : List Int)), false))) = some (r1, r2) := H
 have A2 := Aside0.mk A20
 clear A20
 by_cases c3 : t135 = true
 ·subst c3
  have H1 : ((spec_l1Type.f k l0).bind fun t136 => (some (t136, true))) = some (r1, r2) := by rw [if_pos rfl] at H; exact H
  clear H
  have H := H1
  clear H1
  replace H := Option.bind_eq_some_iff.mp H
  obtain ⟨t136, A40, H⟩ := H
  replace H : (some (t136, true)) = some (r1, r2) := H
  have A4 := Aside0.mk A40
  clear A40
  simp only [Option.some.injEq, Prod.mk.injEq] at H
  obtain ⟨rfl, rfl⟩ := H
  go_enter Try.func9, Try.ntmps9
  go_wp2_with (first | ((with_reducible refine gate_callee (f := 42) rfl ?_); refine gL (some 5) Try.func42 #[.slice A0 l0.length c0] ?_; (with_reducible refine (spec_PermValid.calls k _ _ l0 true _ ?side1 ?side2 A2.out).mono ?_); (case side1 => repeat (first | exact HR0.out | (with_reducible refine Kd.C_alloc ?_ _) | (with_reducible refine Kd.C_drewN ?_ _) | (with_reducible refine Kd.C_drew ?_))); (case side2 => exact HC0.out); rintro e w' ⟨rfl, ⟨nd, rfl⟩⟩; refine ⟨_, rfl, ?_⟩) | ((with_reducible refine gate_callee (f := 43) rfl ?_); refine gL (some 9) Try.func43 #[.slice A0 l0.length c0] ?_; (with_reducible refine (spec_l1Type.calls k _ _ l0 t136 _ ?side1 ?side2 A4.out).mono ?_); (case side1 => repeat (first | exact HR0.out | (with_reducible refine Kd.C_alloc ?_ _) | (with_reducible refine Kd.C_drewN ?_ _) | (with_reducible refine Kd.C_drew ?_))); (case side2 => exact HC0.out); rintro e w5 ⟨v137, rfl, ho0, hb⟩; refine ⟨_, rfl, ?_⟩; have HO138 := rL ho0 HB; replace HB := bS HB hb; (try clear hb); (try clear hb2); (try clear hk); (try clear hi); (try clear ho0)))
  go_ret2
  exact ⟨_, eR, rP HO138, bP HB⟩
 ·replace c3 := Bool.eq_false_iff.mpr c3
  subst c3
  have H1 : (some ((([] : List Int)), false)) = some (r1, r2) := by rw [if_neg (show ¬ (false = true) by decide)] at H; exact H
  clear H
  have H := H1
  clear H1
  obtain ⟨y139, hy139⟩ : ∃ y_ : List Int, y_ = (([] : List Int)) := ⟨_, rfl⟩
  replace H : (some (y139, false)) = some (r1, r2) := by first | (rw [hy139]; with_reducible exact H) | (have H2_ := (Option.bind_some _ _).symm.trans H; rw [hy139]; with_reducible exact H2_) | (have H2_ := (Option.bind_some _ _).symm.trans H; with_reducible exact H2_) | with_reducible exact H | (rw [hy139]; exact H) | exact H
  have Ny139 := Aside0.mk hy139
  clear hy139
  simp only [Option.some.injEq, Prod.mk.injEq] at H
  obtain ⟨rfl, rfl⟩ := H
  go_enter Try.func9, Try.ntmps9
  go_wp2_with (first | ((with_reducible refine gate_callee (f := 42) rfl ?_); refine gL (some 5) Try.func42 #[.slice A0 l0.length c0] ?_; (with_reducible refine (spec_PermValid.calls k _ _ l0 false _ ?side1 ?side2 A2.out).mono ?_); (case side1 => repeat (first | exact HR0.out | (with_reducible refine Kd.C_alloc ?_ _) | (with_reducible refine Kd.C_drewN ?_ _) | (with_reducible refine Kd.C_drew ?_))); (case side2 => exact HC0.out); rintro e w' ⟨rfl, ⟨nd, rfl⟩⟩; refine ⟨_, rfl, ?_⟩) | ((with_reducible refine gate_dst (N := 7) rfl ?_); refine Kd.R_lit (Kd.int .i64) _ 3 ?hg (N := 7) ?hd (xs := ([] : List Int)) (inner := []) (ok := fun _ => True) (okp := fun _ => True) ?hr ?hp (fun _ hk => hk) trivial (Below.refl _ _) (Nat.le_refl _) (by simp) ?_; (case hd => rfl); (case hg => rfl); (case hr => first | (go_simp; done) | (go_simp; rfl)); (case hp => exact (Reps.none _ _)); intro v140 w6 ho7 hb hg_ hnew_; clear hg_ hnew_; (first | rw [← Ny139.out] at ho7 | (simp only [Int.reduceToNat] at ho7; rw [← Ny139.out] at ho7)); have HO141 := rL ho7 HB; replace HB := bS HB hb; clear hb ho7))
  go_ret2
  exact ⟨_, eR, rP HO141, bP HB⟩

end Go.Proofs.Yteffimfifgnleaa.F
