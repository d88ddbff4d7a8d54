/- Contracts: what these Go functions return. -/
import Derived.Test.YtjnbbnaidjodlaaF0
import Derived.Test.YtjnbbnaidjodlaaF12
namespace Go.Proofs.Ytjnbbnaidjodlaa.F
open Go.RowKit Go.Proofs.YtjnbbnaidjodlaaW.PrintWords Go.Proofs.YtjnbbnaidjodlaaW.PrintLast Go.Proofs.YtjnbbnaidjodlaaW.PrintMore
attribute [local go_sem] max2_int min2_int max_two min_two max_three min_three max_four min_four
set_option linter.unusedVariables false
set_option linter.unusedSimpArgs false

/-! ### impl_orbits: function 27 -/
mutual
def impl_orbits.l0 : Nat → List (List Int) → List Int → Bool → Option (List Int)
 | 0, _, _, _ => none
 | k + 1, x0, x3, x4 => if x4 = true then (impl_orbits.l1 k x0 x3 false x0 (x0.length : Int) 0) else (some x3)
def impl_orbits.l1 : Nat → List (List Int) → List Int → Bool → List (List Int) → Int → Int → Option (List Int)
 | 0, _, _, _, _, _, _ => none
 | k + 1, x0, x3, x4, x16, x17, x18 => if x18 < x17 then (if 0 ≤ x18 then (if x18 < (x16.length : Int) then (impl_orbits.l2 k x0 x3 x4 x16 x17 x18 (rd_L1 x16 x18) ((rd_L1 x16 x18).length : Int) 0) else (none)) else (none)) else (impl_orbits.l0 k x0 x3 x4)
def impl_orbits.l2 : Nat → List (List Int) → List Int → Bool → List (List Int) → Int → Int → List Int → Int → Int → Option (List Int)
 | 0, _, _, _, _, _, _, _, _, _ => none
 | k + 1, x0, x3, x4, x16, x17, x18, x22, x23, x24 => if x24 < x23 then (if 0 ≤ x24 then (if x24 < (x22.length : Int) then (if x24 < (x3.length : Int) then (if 0 ≤ (rd x22 x24) then (if (rd x22 x24) < (x3.length : Int) then (if (rd x3 x24) = (mn (rd x3 x24) (rd x3 (rd x22 x24))) then (if (rd x3 (rd x22 x24)) = (mn (rd x3 x24) (rd x3 (rd x22 x24))) then (impl_orbits.l2 k x0 x3 x4 x16 x17 x18 x22 x23 (wrap64 (x24 + 1))) else (impl_orbits.l2 k x0 ((x3.set (x24 : Int).toNat (mn (rd x3 x24) (rd x3 (rd x22 x24)))).set ((rd x22 x24) : Int).toNat (mn (rd x3 x24) (rd x3 (rd x22 x24)))) true x16 x17 x18 x22 x23 (wrap64 (x24 + 1)))) else (impl_orbits.l2 k x0 ((x3.set (x24 : Int).toNat (mn (rd x3 x24) (rd x3 (rd x22 x24)))).set ((rd x22 x24) : Int).toNat (mn (rd x3 x24) (rd x3 (rd x22 x24)))) true x16 x17 x18 x22 x23 (wrap64 (x24 + 1)))) else (none)) else (none)) else (none)) else (none)) else (none)) else (impl_orbits.l1 k x0 x3 x4 x16 x17 (wrap64 (x18 + 1)))
end
def impl_orbits.f (k : Nat) (l0 : List (List Int)) : Option (List Int) := if 0 < (l0.length : Int) then ((impl_still.f k ((rd_L1 l0 0).length : Int)).bind fun t226 => (impl_orbits.l0 k l0 t226 true)) else (none)
set_option maxHeartbeats 8000000 in
set_option maxRecDepth 100000 in
theorem impl_orbits.calls (k : Nat) (A0 : Option Addr) (c0 : Nat) (l0 : List (List Int)) (r : List Int) (w : World) (hr0 : Kd.C (Kd.slice 3 (Kd.int .i64)) w A0 l0.length l0) (hc0 : l0.length ≤ c0) (h : impl_orbits.f k l0 = some r) :
 Calls Try.prog 27 #[.slice A0 l0.length c0] w fun e w' => ∃ v0_ : Value, e = .returned (v0_) ∧ Kd.R (Kd.int .i64) 3 w' w.heap.size (fun _ => True) v0_ r ∧ Below w.heap.size w w' := by
 have HR0 := Aside0.mk hr0
 have HC0 := Aside0.mk hc0
 clear hr0 hc0
 have HB := Aside0.mk (Below.refl w.heap.size w)
 have H : (if 0 < (l0.length : Int) then ((impl_still.f k ((rd_L1 l0 0).length : Int)).bind fun t226 => (impl_orbits.l0 k l0 t226 true)) else (none)) = some r := h
 clear h
 by_cases c2 : 0 < (l0.length : Int)
 ·rw [if_pos c2] at H
  have c2b0 : decide (0 < (l0.length : Int)) = true := decide_eq_true c2
  have c2b1 : decide (0 < l0.length) = true := decide_eq_true (by omega)
  clear c2
  obtain ⟨t226, A30, H⟩ := Option.bind_eq_some_iff.mp H
  have A3 := Aside0.mk A30
  clear A30
  have H' := Aside0.mk H
  clear H
  have p225 : 0 ≤ (0 : Int) := (by omega)
  have q225 : 0 < (l0.length : Int) := dT
  obtain ⟨ad225, A225_0, c225_0, e225, hx225_0, hl225_0, hi225_0⟩ := at_L1 HR0.out 0 p225 q225
  cases e225
  have qi225 : (0 < l0.length) = True := eq_true (by omega)
  (try rw [show ((0 : Int)).toNat = 0 from rfl] at hx225_0)
  (try rw [Addr.add_zero'] at hx225_0)
  have HR225_0 := Aside0.mk hi225_0
  have HC225_0 := Aside0.mk hl225_0
  clear hi225_0 hl225_0
  replace p225 := eq_true p225
  replace q225 := eq_true q225
  go_enter Try.func27, Try.ntmps27
  go_wp2_with (first | (go_at_call 35; (with_reducible refine (impl_still.calls k ((rd_L1 l0 0).length : Int) t226 _ A3.out).mono ?_); rintro e w4 ⟨v227, rfl, ho0, hb⟩; have HO228 := rL ho0 HB; replace HB := bS HB hb; (try clear hb); (try clear hb2); (try clear hk); (try clear hi); (try clear ho0)))
  repeat (go_quiet (first | (go_at_call 35; (with_reducible refine (impl_still.calls k ((rd_L1 l0 0).length : Int) t226 _ A3.out).mono ?_); rintro e w4 ⟨v227, rfl, ho0, hb⟩; have HO228 := rL ho0 HB; replace HB := bS HB hb; (try clear hb); (try clear hb2); (try clear hk); (try clear hi); (try clear ho0))); try go_wp2_with (first | (go_at_call 35; (with_reducible refine (impl_still.calls k ((rd_L1 l0 0).length : Int) t226 _ A3.out).mono ?_); rintro e w4 ⟨v227, rfl, ho0, hb⟩; have HO228 := rL ho0 HB; replace HB := bS HB hb; (try clear hb); (try clear hb2); (try clear hk); (try clear hi); (try clear ho0))))
  go_loopg [4] k (fun kq v4 w' => ∃ (x3_1 : List Int) (x4_1 : Bool), v4 = .bool x4_1 ∧ Aside0 (impl_orbits.l0 kq l0 x3_1 x4_1 = some r) ∧ Aside0 (kq ≤ k) ∧ Aside0 (Kd.R (Kd.int .i64) 3 w' w.heap.size (fun _ => True) v227 x3_1) ∧ Aside0 (Below w.heap.size w w'))
  case atStart => exact ⟨(t226), (true), eS, H', ⟨Nat.le_refl _⟩, ⟨rP HO228⟩, ⟨bP HB⟩⟩
  case round =>
   clear H'
   try clear c2
   try clear c2b0
   try clear c2b1
   try clear p2
   try clear q2
   try clear hx2
   try clear qi2
   try clear hx225_0
   try clear p225
   try clear q225
   obtain ⟨x3_1, x4_1, rfl, HA, HK1, HO_3, HB⟩ := hrel
   cases gk with
   | zero => exact absurd HA.out (by simp [impl_orbits.l0])
   | succ k1 =>
    have H := HA.out
    clear HA
    simp only [impl_orbits.l0] at H
    by_cases c5 : x4_1 = true
    case neg =>
     replace c5 := Bool.eq_false_iff.mpr c5
     subst c5
     rw [iF] at H
     obtain rfl := Option.some.inj H
     go_wp2
     repeat (go_quiet (fail); try go_wp2)
     go_ret
     exact ⟨_, eR, rP HO_3, bP HB⟩
    subst c5
    rw [if_pos rfl] at H
    have H' := Aside0.mk H
    clear H
    go_wp2
    repeat (go_quiet (fail); try go_wp2)
    go_loopg [4, 18] k1 (fun kq v4 v18 w' => ∃ (x3_2 : List Int) (x4_2 : Bool) (x18_2 : Int), v4 = .bool x4_2 ∧ v18 = .int .i64 x18_2 ∧ Aside0 (impl_orbits.l1 kq l0 x3_2 x4_2 l0 (l0.length : Int) x18_2 = some r) ∧ Aside0 (kq ≤ k1) ∧ Aside0 (Kd.R (Kd.int .i64) 3 w' w.heap.size (fun _ => True) v227 x3_2) ∧ Aside0 (Below w.heap.size w w'))
    case atStart => exact ⟨(x3_1), (false), (0), eS, eS, H', ⟨Nat.le_refl _⟩, ⟨rP HO_3⟩, ⟨bP HB⟩⟩
    case round =>
     clear H'
     try clear c2
     try clear c2b0
     try clear c2b1
     try clear p2
     try clear q2
     try clear hx2
     try clear qi2
     try clear c5
     try clear hx225_0
     try clear p2
     try clear p225
     try clear q2
     try clear q225
     obtain ⟨x3_2, x4_2, x18_2, rfl, rfl, HA, HK2, HO_3, HB⟩ := hrel
     cases gk with
     | zero => exact absurd HA.out (by simp [impl_orbits.l1])
     | succ k2 =>
      have H := HA.out
      clear HA
      simp only [impl_orbits.l1] at H
      by_cases c6 : x18_2 < (l0.length : Int)
      case neg =>
       rw [if_neg c6] at H
       have c6b0 : decide (x18_2 < (l0.length : Int)) = false := decide_eq_false c6
       clear c6
       have H' := Aside0.mk H
       clear H
       go_wp2
       repeat (go_quiet (fail); try go_wp2)
       go_roundg k2
       case measure => have := HK1.out; have := HK2.out; omega
       case rel => exact ⟨(x3_2), (x4_2), eS, H', ⟨by have := HK1.out; have := HK2.out; omega⟩, ⟨rP HO_3⟩, ⟨bP HB⟩⟩
      rw [if_pos c6] at H
      have c6b0 : decide (x18_2 < (l0.length : Int)) = true := decide_eq_true c6
      clear c6
      by_cases c7 : 0 ≤ x18_2
      case neg =>
       rw [if_neg c7] at H
       exact absurd H (by simp)
      rw [if_pos c7] at H
      have c7b0 : decide (0 ≤ x18_2) = true := decide_eq_true c7
      clear c7
      by_cases c8 : x18_2 < (l0.length : Int)
      case neg =>
       rw [if_neg c8] at H
       exact absurd H (by simp)
      rw [if_pos c8] at H
      have c8b0 : decide (x18_2 < (l0.length : Int)) = true := decide_eq_true c8
      clear c8
      have H' := Aside0.mk H
      clear H
      have p229 : 0 ≤ (x18_2 : Int) := dT
      have q229 : x18_2 < (l0.length : Int) := dT
      obtain ⟨ad229, A229_0, c229_0, e229, hx229_0, hl229_0, hi229_0⟩ := at_L1 HR0.out x18_2 p229 q229
      obtain rfl : ad225 = ad229 := (by injection e229)
      replace hx229_0 := (HB.out.cell (World.block_lt_of_cell? w _ hx229_0)).trans hx229_0
      have HR229_0 := Aside0.mk hi229_0
      have HC229_0 := Aside0.mk hl229_0
      clear hi229_0 hl229_0
      replace p229 := eq_true p229
      replace q229 := eq_true q229
      go_wp2
      repeat (go_quiet (fail); try go_wp2)
      go_loopg [4, 24] k2 (fun kq v4 v24 w' => ∃ (x3_3 : List Int) (x4_3 : Bool) (x24_3 : Int), v4 = .bool x4_3 ∧ v24 = .int .i64 x24_3 ∧ Aside0 (impl_orbits.l2 kq l0 x3_3 x4_3 l0 (l0.length : Int) x18_2 (rd_L1 l0 x18_2) ((rd_L1 l0 x18_2).length : Int) x24_3 = some r) ∧ Aside0 (kq ≤ k2) ∧ Aside0 (Kd.R (Kd.int .i64) 3 w' w.heap.size (fun _ => True) v227 x3_3) ∧ Aside0 (Below w.heap.size w w'))
      case atStart => exact ⟨(x3_2), (x4_2), (0), eS, eS, H', ⟨Nat.le_refl _⟩, ⟨rP HO_3⟩, ⟨bP HB⟩⟩
      case round =>
       clear H'
       try clear c2
       try clear c2b0
       try clear c2b1
       try clear p2
       try clear q2
       try clear hx2
       try clear qi2
       try clear c5
       try clear c6
       try clear c6b0
       try clear c7
       try clear c7b0
       try clear c8
       try clear c8b0
       try clear hx225_0
       try clear hx229_0
       try clear p2
       try clear p225
       try clear p229
       try clear q2
       try clear q225
       try clear q229
       obtain ⟨x3_3, x4_3, x24_3, rfl, rfl, HA, HK3, HO_3, HB⟩ := hrel
       cases gk with
       | zero => exact absurd HA.out (by simp [impl_orbits.l2])
       | succ k3 =>
        have H := HA.out
        clear HA
        simp only [impl_orbits.l2] at H
        by_cases c9 : x24_3 < ((rd_L1 l0 x18_2).length : Int)
        case neg =>
         rw [if_neg c9] at H
         have c9b0 : decide (x24_3 < ((rd_L1 l0 x18_2).length : Int)) = false := decide_eq_false c9
         clear c9
         have H' := Aside0.mk H
         clear H
         go_wp2
         repeat (go_quiet (fail); try go_wp2)
         go_roundg k3
         case measure => have := HK1.out; have := HK2.out; have := HK3.out; omega
         case rel => exact ⟨(x3_3), (x4_3), (wrap64 (x18_2 + 1)), eS, eS, H', ⟨by have := HK1.out; have := HK2.out; have := HK3.out; omega⟩, ⟨rP HO_3⟩, ⟨bP HB⟩⟩
        rw [if_pos c9] at H
        have c9b0 : decide (x24_3 < ((rd_L1 l0 x18_2).length : Int)) = true := decide_eq_true c9
        clear c9
        by_cases c10 : 0 ≤ x24_3
        case neg =>
         rw [if_neg c10] at H
         exact absurd H (by simp)
        rw [if_pos c10] at H
        have c10b0 : decide (0 ≤ x24_3) = true := decide_eq_true c10
        clear c10
        by_cases c11 : x24_3 < ((rd_L1 l0 x18_2).length : Int)
        case neg =>
         rw [if_neg c11] at H
         exact absurd H (by simp)
        rw [if_pos c11] at H
        have c11b0 : decide (x24_3 < ((rd_L1 l0 x18_2).length : Int)) = true := decide_eq_true c11
        clear c11
        by_cases c12 : x24_3 < (x3_3.length : Int)
        case neg =>
         rw [if_neg c12] at H
         exact absurd H (by simp)
        rw [if_pos c12] at H
        have c12b0 : decide (x24_3 < (x3_3.length : Int)) = true := decide_eq_true c12
        clear c12
        by_cases c13 : 0 ≤ (rd (rd_L1 l0 x18_2) x24_3)
        case neg =>
         rw [if_neg c13] at H
         exact absurd H (by simp)
        rw [if_pos c13] at H
        have c13b0 : decide (0 ≤ (rd (rd_L1 l0 x18_2) x24_3)) = true := decide_eq_true c13
        clear c13
        by_cases c14 : (rd (rd_L1 l0 x18_2) x24_3) < (x3_3.length : Int)
        case neg =>
         rw [if_neg c14] at H
         exact absurd H (by simp)
        rw [if_pos c14] at H
        have c14b0 : decide ((rd (rd_L1 l0 x18_2) x24_3) < (x3_3.length : Int)) = true := decide_eq_true c14
        clear c14
        obtain ⟨ji15, hji15⟩ : ∃ j_ : Int, (mn (rd x3_3 x24_3) (rd x3_3 (rd (rd_L1 l0 x18_2) x24_3))) = j_ := ⟨_, rfl⟩
        replace H : (if (rd x3_3 x24_3) = (ji15) then (if (rd x3_3 (rd (rd_L1 l0 x18_2) x24_3)) = (ji15) then (impl_orbits.l2 k3 l0 x3_3 x4_3 l0 (l0.length : Int) x18_2 (rd_L1 l0 x18_2) ((rd_L1 l0 x18_2).length : Int) (wrap64 (x24_3 + 1))) else (impl_orbits.l2 k3 l0 ((x3_3.set (x24_3 : Int).toNat (ji15)).set ((rd (rd_L1 l0 x18_2) x24_3) : Int).toNat (ji15)) true l0 (l0.length : Int) x18_2 (rd_L1 l0 x18_2) ((rd_L1 l0 x18_2).length : Int) (wrap64 (x24_3 + 1)))) else (impl_orbits.l2 k3 l0 ((x3_3.set (x24_3 : Int).toNat (ji15)).set ((rd (rd_L1 l0 x18_2) x24_3) : Int).toNat (ji15)) true l0 (l0.length : Int) x18_2 (rd_L1 l0 x18_2) ((rd_L1 l0 x18_2).length : Int) (wrap64 (x24_3 + 1)))) = some r := by first | (rw [hji15] at H; exact H) | (simp only [hji15] at H ⊢; exact H)
        have hji15_ : (if (rd x3_3 (rd (rd_L1 l0 x18_2) x24_3)) < (rd x3_3 x24_3) then (rd x3_3 (rd (rd_L1 l0 x18_2) x24_3)) else (rd x3_3 x24_3)) = ji15 := hji15
        by_cases c16 : (rd x3_3 x24_3) = (ji15)
        case neg =>
         rw [if_neg c16] at H
         have ej_ : (rd x3_3 (rd (rd_L1 l0 x18_2) x24_3)) = ji15 := by rw [← hji15_]; exact (if_pos (by apply Classical.byContradiction; intro hn_; exact c16 (by rw [← hji15_, if_neg hn_]))).symm
         subst ej_
         have c16b0 : ((rd x3_3 x24_3) == (rd x3_3 (rd (rd_L1 l0 x18_2) x24_3))) = false := beq_eq_false_iff_ne.mpr c16
         have c16b1 : ((rd x3_3 x24_3) != (rd x3_3 (rd (rd_L1 l0 x18_2) x24_3))) = true := bne_iff_ne.mpr c16
         obtain ⟨y237, hy237⟩ : ∃ y_ : List Int, y_ = (x3_3.set (x24_3 : Int).toNat (rd x3_3 (rd (rd_L1 l0 x18_2) x24_3))) := ⟨_, rfl⟩
         replace H : (impl_orbits.l2 k3 l0 (y237.set ((rd (rd_L1 l0 x18_2) x24_3) : Int).toNat (rd x3_3 (rd (rd_L1 l0 x18_2) x24_3))) true l0 (l0.length : Int) x18_2 (rd_L1 l0 x18_2) ((rd_L1 l0 x18_2).length : Int) (wrap64 (x24_3 + 1))) = some r := by first | (rw [hy237]; with_reducible exact H) | (have H2_ := (Option.bind_some _ _).symm.trans H; rw [hy237]; with_reducible exact H2_) | (have H2_ := (Option.bind_some _ _).symm.trans H; with_reducible exact H2_) | with_reducible exact H | (rw [hy237]; exact H) | exact H
         have Ny237 := Aside0.mk hy237
         clear hy237
         obtain ⟨y238, hy238⟩ : ∃ y_ : List Int, y_ = (y237.set ((rd (rd_L1 l0 x18_2) x24_3) : Int).toNat (rd x3_3 (rd (rd_L1 l0 x18_2) x24_3))) := ⟨_, rfl⟩
         replace H : (impl_orbits.l2 k3 l0 y238 true l0 (l0.length : Int) x18_2 (rd_L1 l0 x18_2) ((rd_L1 l0 x18_2).length : Int) (wrap64 (x24_3 + 1))) = some r := by first | (rw [hy238]; with_reducible exact H) | (have H2_ := (Option.bind_some _ _).symm.trans H; rw [hy238]; with_reducible exact H2_) | (have H2_ := (Option.bind_some _ _).symm.trans H; with_reducible exact H2_) | with_reducible exact H | (rw [hy238]; exact H) | exact H
         have Ny238 := Aside0.mk hy238
         clear hy238
         have H' := Aside0.mk H
         clear H
         have p230 : 0 ≤ (x24_3 : Int) := dT
         have q230 : x24_3 < ((rd_L1 l0 x18_2).length : Int) := dT
         obtain ⟨ad230, e230, hx230_0⟩ := Kd.at_int HR229_0.out x24_3 p230 q230
         cases e230
         replace hx230_0 := (HB.out.cell (World.block_lt_of_cell? w _ hx230_0)).trans hx230_0
         replace p230 := eq_true p230
         replace q230 := eq_true q230
         obtain ⟨Ao28, co28, eo28⟩ := Kd.R_slice HO_3.out
         subst eo28
         have p231 : 0 ≤ (x24_3 : Int) := dT
         have q231 : x24_3 < (x3_3.length : Int) := dT
         obtain ⟨ad231, e231, hx231_0⟩ := Kd.at_int (Kd.R_reads' HO_3.out).2.2 x24_3 p231 q231
         cases e231
         replace p231 := eq_true p231
         replace q231 := eq_true q231
         have p232 : 0 ≤ ((rd (rd_L1 l0 x18_2) x24_3) : Int) := dT
         have q232 : (rd (rd_L1 l0 x18_2) x24_3) < (x3_3.length : Int) := dT
         obtain ⟨ad232, e232, hx232_0⟩ := Kd.at_int (Kd.R_reads' HO_3.out).2.2 (rd (rd_L1 l0 x18_2) x24_3) p232 q232
         obtain rfl : ad231 = ad232 := (by injection e232)
         replace p232 := eq_true p232
         replace q232 := eq_true q232
         have p233 : 0 ≤ (x24_3 : Int) := dT
         have q233 : x24_3 < (x3_3.length : Int) := dT
         obtain ⟨ad233, e233, hx233_0⟩ := Kd.at_int (Kd.R_reads' HO_3.out).2.2 x24_3 p233 q233
         obtain rfl : ad231 = ad233 := (by injection e233)
         replace p233 := eq_true p233
         replace q233 := eq_true q233
         have p26 : 0 ≤ (x24_3 : Int) := dT
         have q26 : (x24_3 : Int) < ((x3_3.length : Int) : Int) := dT
         obtain ⟨go26, co26, eo26, gb26, gl26, cl26, HG26⟩ := Kd.R_form HO_3.out (by omega)
         (first | cases eo26 | (injection eo26 with ea_ en_ ec_; (first | subst ea_ | (injection ea_ with ea_; subst ea_)); subst ec_; clear en_))
         have GB26 := Aside0.mk gb26
         have GG26 := Aside0.mk HG26
         clear gb26 gl26 HG26
         (first | simp only [add_plain] at hx231_0 | skip)
         (first | simp only [add_plain] at hx232_0 | skip)
         (first | simp only [add_plain] at hx233_0 | skip)
         obtain ⟨hx26_0, hf26_0⟩ := Kd.R_celln 0 HO_3.out (x24_3 : Int) p26 q26
         replace p26 := eq_true p26
         replace q26 := eq_true q26
         have HP29 := Kd.R_putg HO_3.out (x24_3 : Int) (rd x3_3 (rd (rd_L1 l0 x18_2) x24_3))
         go_wp2_with (first | ((with_reducible refine gate_store (t := 3) (p := 58) rfl ?_); (try (rw [drewN_self wr]; generalize hq_ : World.drewN wr _ = wr; replace HO_3 := Aside0.mk (Kd.R_at hq_ HO_3.out); replace HB := Aside0.mk (below_at hq_ HB.out); clear hq_; (try (obtain ⟨hy29_, hz29_⟩ := Kd.R_celln 0 HO_3.out (x24_3 : Int) (dT) (dT))); (try (have HP29 := Kd.R_putg HO_3.out (x24_3 : Int) (rd x3_3 (rd (rd_L1 l0 x18_2) x24_3)))))); refine store_event (t := 3) (p := 58) (v := ?vo_w30) (w1 := (wr.setCell ⟨go26, (x24_3 : Int).toNat, none⟩ (.int .i64 (rd x3_3 (rd (rd_L1 l0 x18_2) x24_3))))) ?hg ?ho ?hn ?hr ?_; (case ho => rfl); (case hg => rfl); (case hn => rfl); (case hr => first | (go_simp; done) | (go_simp; rfl)); intro w30 hw; have hg : wr.grownBy w30 (some go26) := (by rw [hw]; exact HP29.2); have hp_ : Kd.R (Kd.int .i64) 3 w30 w.heap.size (fun _ => True) (.slice (some ⟨go26, 0, none⟩) x3_3.length co28) y237 := (by rw [hw, Ny237.out]; exact HP29.1); clear HP29; replace HO_3 := Aside0.mk (hp_); replace HB := Aside0.mk ((by rw [hw]; exact below_set (HB.out) GB26.out : Below w.heap.size w w30)); clear hg hw hp_; have p27 : 0 ≤ ((rd (rd_L1 l0 x18_2) x24_3) : Int) := dT; have q27 : ((rd (rd_L1 l0 x18_2) x24_3) : Int) < ((x3_3.length : Int) : Int) := dT; obtain ⟨hx27_0, hf27_0⟩ := Kd.R_celln 0 HO_3.out ((rd (rd_L1 l0 x18_2) x24_3) : Int) p27 q27; replace p27 := eq_true p27; replace q27 := eq_true q27; obtain ⟨hy31_, hz31_⟩ := Kd.R_celln 0 HO_3.out ((rd (rd_L1 l0 x18_2) x24_3) : Int) (dT) (dT); have HP31 := Kd.R_putg HO_3.out ((rd (rd_L1 l0 x18_2) x24_3) : Int) (rd x3_3 (rd (rd_L1 l0 x18_2) x24_3))) | ((with_reducible refine gate_store (t := 3) (p := 59) rfl ?_); (try (rw [drewN_self w30]; generalize hq_ : World.drewN w30 _ = w30; replace HO_3 := Aside0.mk (Kd.R_at hq_ HO_3.out); replace HB := Aside0.mk (below_at hq_ HB.out); clear hq_; (try (obtain ⟨hy31_, hz31_⟩ := Kd.R_celln 0 HO_3.out ((rd (rd_L1 l0 x18_2) x24_3) : Int) (dT) (dT))); (try (have HP31 := Kd.R_putg HO_3.out ((rd (rd_L1 l0 x18_2) x24_3) : Int) (rd x3_3 (rd (rd_L1 l0 x18_2) x24_3)))))); refine store_event (t := 3) (p := 59) (v := ?vo_w32) (w1 := (w30.setCell ⟨go26, ((rd (rd_L1 l0 x18_2) x24_3) : Int).toNat, none⟩ (.int .i64 (rd x3_3 (rd (rd_L1 l0 x18_2) x24_3))))) ?hg ?ho ?hn ?hr ?_; (case ho => rfl); (case hg => rfl); (case hn => rfl); (case hr => first | (go_simp; done) | (go_simp; rfl)); intro w32 hw; have hg : w30.grownBy w32 (some go26) := (by rw [hw]; exact HP31.2); have hp_ : Kd.R (Kd.int .i64) 3 w32 w.heap.size (fun _ => True) (.slice (some ⟨go26, 0, none⟩) x3_3.length co28) y238 := (by rw [hw, Ny238.out]; exact HP31.1); clear HP31; replace HO_3 := Aside0.mk (hp_); replace HB := Aside0.mk ((by rw [hw]; exact below_set (HB.out) GB26.out : Below w.heap.size w w32)); clear hg hw hp_))
         repeat (go_quiet (first | ((with_reducible refine gate_store (t := 3) (p := 58) rfl ?_); (try (rw [drewN_self wr]; generalize hq_ : World.drewN wr _ = wr; replace HO_3 := Aside0.mk (Kd.R_at hq_ HO_3.out); replace HB := Aside0.mk (below_at hq_ HB.out); clear hq_; (try (obtain ⟨hy29_, hz29_⟩ := Kd.R_celln 0 HO_3.out (x24_3 : Int) (dT) (dT))); (try (have HP29 := Kd.R_putg HO_3.out (x24_3 : Int) (rd x3_3 (rd (rd_L1 l0 x18_2) x24_3)))))); refine store_event (t := 3) (p := 58) (v := ?vo_w30) (w1 := (wr.setCell ⟨go26, (x24_3 : Int).toNat, none⟩ (.int .i64 (rd x3_3 (rd (rd_L1 l0 x18_2) x24_3))))) ?hg ?ho ?hn ?hr ?_; (case ho => rfl); (case hg => rfl); (case hn => rfl); (case hr => first | (go_simp; done) | (go_simp; rfl)); intro w30 hw; have hg : wr.grownBy w30 (some go26) := (by rw [hw]; exact HP29.2); have hp_ : Kd.R (Kd.int .i64) 3 w30 w.heap.size (fun _ => True) (.slice (some ⟨go26, 0, none⟩) x3_3.length co28) y237 := (by rw [hw, Ny237.out]; exact HP29.1); clear HP29; replace HO_3 := Aside0.mk (hp_); replace HB := Aside0.mk ((by rw [hw]; exact below_set (HB.out) GB26.out : Below w.heap.size w w30)); clear hg hw hp_; have p27 : 0 ≤ ((rd (rd_L1 l0 x18_2) x24_3) : Int) := dT; have q27 : ((rd (rd_L1 l0 x18_2) x24_3) : Int) < ((x3_3.length : Int) : Int) := dT; obtain ⟨hx27_0, hf27_0⟩ := Kd.R_celln 0 HO_3.out ((rd (rd_L1 l0 x18_2) x24_3) : Int) p27 q27; replace p27 := eq_true p27; replace q27 := eq_true q27; obtain ⟨hy31_, hz31_⟩ := Kd.R_celln 0 HO_3.out ((rd (rd_L1 l0 x18_2) x24_3) : Int) (dT) (dT); have HP31 := Kd.R_putg HO_3.out ((rd (rd_L1 l0 x18_2) x24_3) : Int) (rd x3_3 (rd (rd_L1 l0 x18_2) x24_3))) | ((with_reducible refine gate_store (t := 3) (p := 59) rfl ?_); (try (rw [drewN_self w30]; generalize hq_ : World.drewN w30 _ = w30; replace HO_3 := Aside0.mk (Kd.R_at hq_ HO_3.out); replace HB := Aside0.mk (below_at hq_ HB.out); clear hq_; (try (obtain ⟨hy31_, hz31_⟩ := Kd.R_celln 0 HO_3.out ((rd (rd_L1 l0 x18_2) x24_3) : Int) (dT) (dT))); (try (have HP31 := Kd.R_putg HO_3.out ((rd (rd_L1 l0 x18_2) x24_3) : Int) (rd x3_3 (rd (rd_L1 l0 x18_2) x24_3)))))); refine store_event (t := 3) (p := 59) (v := ?vo_w32) (w1 := (w30.setCell ⟨go26, ((rd (rd_L1 l0 x18_2) x24_3) : Int).toNat, none⟩ (.int .i64 (rd x3_3 (rd (rd_L1 l0 x18_2) x24_3))))) ?hg ?ho ?hn ?hr ?_; (case ho => rfl); (case hg => rfl); (case hn => rfl); (case hr => first | (go_simp; done) | (go_simp; rfl)); intro w32 hw; have hg : w30.grownBy w32 (some go26) := (by rw [hw]; exact HP31.2); have hp_ : Kd.R (Kd.int .i64) 3 w32 w.heap.size (fun _ => True) (.slice (some ⟨go26, 0, none⟩) x3_3.length co28) y238 := (by rw [hw, Ny238.out]; exact HP31.1); clear HP31; replace HO_3 := Aside0.mk (hp_); replace HB := Aside0.mk ((by rw [hw]; exact below_set (HB.out) GB26.out : Below w.heap.size w w32)); clear hg hw hp_)); try go_wp2_with (first | ((with_reducible refine gate_store (t := 3) (p := 58) rfl ?_); (try (rw [drewN_self wr]; generalize hq_ : World.drewN wr _ = wr; replace HO_3 := Aside0.mk (Kd.R_at hq_ HO_3.out); replace HB := Aside0.mk (below_at hq_ HB.out); clear hq_; (try (obtain ⟨hy29_, hz29_⟩ := Kd.R_celln 0 HO_3.out (x24_3 : Int) (dT) (dT))); (try (have HP29 := Kd.R_putg HO_3.out (x24_3 : Int) (rd x3_3 (rd (rd_L1 l0 x18_2) x24_3)))))); refine store_event (t := 3) (p := 58) (v := ?vo_w30) (w1 := (wr.setCell ⟨go26, (x24_3 : Int).toNat, none⟩ (.int .i64 (rd x3_3 (rd (rd_L1 l0 x18_2) x24_3))))) ?hg ?ho ?hn ?hr ?_; (case ho => rfl); (case hg => rfl); (case hn => rfl); (case hr => first | (go_simp; done) | (go_simp; rfl)); intro w30 hw; have hg : wr.grownBy w30 (some go26) := (by rw [hw]; exact HP29.2); have hp_ : Kd.R (Kd.int .i64) 3 w30 w.heap.size (fun _ => True) (.slice (some ⟨go26, 0, none⟩) x3_3.length co28) y237 := (by rw [hw, Ny237.out]; exact HP29.1); clear HP29; replace HO_3 := Aside0.mk (hp_); replace HB := Aside0.mk ((by rw [hw]; exact below_set (HB.out) GB26.out : Below w.heap.size w w30)); clear hg hw hp_; have p27 : 0 ≤ ((rd (rd_L1 l0 x18_2) x24_3) : Int) := dT; have q27 : ((rd (rd_L1 l0 x18_2) x24_3) : Int) < ((x3_3.length : Int) : Int) := dT; obtain ⟨hx27_0, hf27_0⟩ := Kd.R_celln 0 HO_3.out ((rd (rd_L1 l0 x18_2) x24_3) : Int) p27 q27; replace p27 := eq_true p27; replace q27 := eq_true q27; obtain ⟨hy31_, hz31_⟩ := Kd.R_celln 0 HO_3.out ((rd (rd_L1 l0 x18_2) x24_3) : Int) (dT) (dT); have HP31 := Kd.R_putg HO_3.out ((rd (rd_L1 l0 x18_2) x24_3) : Int) (rd x3_3 (rd (rd_L1 l0 x18_2) x24_3))) | ((with_reducible refine gate_store (t := 3) (p := 59) rfl ?_); (try (rw [drewN_self w30]; generalize hq_ : World.drewN w30 _ = w30; replace HO_3 := Aside0.mk (Kd.R_at hq_ HO_3.out); replace HB := Aside0.mk (below_at hq_ HB.out); clear hq_; (try (obtain ⟨hy31_, hz31_⟩ := Kd.R_celln 0 HO_3.out ((rd (rd_L1 l0 x18_2) x24_3) : Int) (dT) (dT))); (try (have HP31 := Kd.R_putg HO_3.out ((rd (rd_L1 l0 x18_2) x24_3) : Int) (rd x3_3 (rd (rd_L1 l0 x18_2) x24_3)))))); refine store_event (t := 3) (p := 59) (v := ?vo_w32) (w1 := (w30.setCell ⟨go26, ((rd (rd_L1 l0 x18_2) x24_3) : Int).toNat, none⟩ (.int .i64 (rd x3_3 (rd (rd_L1 l0 x18_2) x24_3))))) ?hg ?ho ?hn ?hr ?_; (case ho => rfl); (case hg => rfl); (case hn => rfl); (case hr => first | (go_simp; done) | (go_simp; rfl)); intro w32 hw; have hg : w30.grownBy w32 (some go26) := (by rw [hw]; exact HP31.2); have hp_ : Kd.R (Kd.int .i64) 3 w32 w.heap.size (fun _ => True) (.slice (some ⟨go26, 0, none⟩) x3_3.length co28) y238 := (by rw [hw, Ny238.out]; exact HP31.1); clear HP31; replace HO_3 := Aside0.mk (hp_); replace HB := Aside0.mk ((by rw [hw]; exact below_set (HB.out) GB26.out : Below w.heap.size w w32)); clear hg hw hp_)))
         go_roundg k3
         case measure => have := HK1.out; have := HK2.out; have := HK3.out; omega
         case rel => exact ⟨(y238), (true), (wrap64 (x24_3 + 1)), eS, eS, H', ⟨by have := HK1.out; have := HK2.out; have := HK3.out; omega⟩, ⟨rP HO_3⟩, ⟨bP HB⟩⟩
        rw [if_pos c16] at H
        have c16b0 : ((rd x3_3 x24_3) == (ji15)) = true := beq_iff_eq.mpr c16
        have c16b1 : ((rd x3_3 x24_3) != (ji15)) = false := bne_eq_false_iff_eq.mpr c16
        clear c16
        by_cases c17 : (rd x3_3 (rd (rd_L1 l0 x18_2) x24_3)) = (ji15)
        ·rw [if_pos c17] at H
         have c17b0 : ((rd x3_3 (rd (rd_L1 l0 x18_2) x24_3)) == (ji15)) = true := beq_iff_eq.mpr c17
         have c17b1 : ((rd x3_3 (rd (rd_L1 l0 x18_2) x24_3)) != (ji15)) = false := bne_eq_false_iff_eq.mpr c17
         clear c17
         have H' := Aside0.mk H
         clear H
         have p230 : 0 ≤ (x24_3 : Int) := dT
         have q230 : x24_3 < ((rd_L1 l0 x18_2).length : Int) := dT
         obtain ⟨ad230, e230, hx230_0⟩ := Kd.at_int HR229_0.out x24_3 p230 q230
         cases e230
         replace hx230_0 := (HB.out.cell (World.block_lt_of_cell? w _ hx230_0)).trans hx230_0
         replace p230 := eq_true p230
         replace q230 := eq_true q230
         obtain ⟨Ao18, co18, eo18⟩ := Kd.R_slice HO_3.out
         subst eo18
         have p231 : 0 ≤ (x24_3 : Int) := dT
         have q231 : x24_3 < (x3_3.length : Int) := dT
         obtain ⟨ad231, e231, hx231_0⟩ := Kd.at_int (Kd.R_reads' HO_3.out).2.2 x24_3 p231 q231
         cases e231
         replace p231 := eq_true p231
         replace q231 := eq_true q231
         have p232 : 0 ≤ ((rd (rd_L1 l0 x18_2) x24_3) : Int) := dT
         have q232 : (rd (rd_L1 l0 x18_2) x24_3) < (x3_3.length : Int) := dT
         obtain ⟨ad232, e232, hx232_0⟩ := Kd.at_int (Kd.R_reads' HO_3.out).2.2 (rd (rd_L1 l0 x18_2) x24_3) p232 q232
         obtain rfl : ad231 = ad232 := (by injection e232)
         replace p232 := eq_true p232
         replace q232 := eq_true q232
         have p233 : 0 ≤ (x24_3 : Int) := dT
         have q233 : x24_3 < (x3_3.length : Int) := dT
         obtain ⟨ad233, e233, hx233_0⟩ := Kd.at_int (Kd.R_reads' HO_3.out).2.2 x24_3 p233 q233
         obtain rfl : ad231 = ad233 := (by injection e233)
         replace p233 := eq_true p233
         replace q233 := eq_true q233
         have p234 : 0 ≤ ((rd (rd_L1 l0 x18_2) x24_3) : Int) := dT
         have q234 : (rd (rd_L1 l0 x18_2) x24_3) < (x3_3.length : Int) := dT
         obtain ⟨ad234, e234, hx234_0⟩ := Kd.at_int (Kd.R_reads' HO_3.out).2.2 (rd (rd_L1 l0 x18_2) x24_3) p234 q234
         obtain rfl : ad231 = ad234 := (by injection e234)
         replace p234 := eq_true p234
         replace q234 := eq_true q234
         go_wp2
         repeat (go_quiet (fail); try go_wp2)
         go_roundg k3
         case measure => have := HK1.out; have := HK2.out; have := HK3.out; omega
         case rel => exact ⟨(x3_3), (x4_3), (wrap64 (x24_3 + 1)), eS, eS, H', ⟨by have := HK1.out; have := HK2.out; have := HK3.out; omega⟩, ⟨rP HO_3⟩, ⟨bP HB⟩⟩
        rw [if_neg c17] at H
        have ej_ : (rd x3_3 x24_3) = ji15 := eq_of_beq c16b0
        subst ej_
        have c17b0 : ((rd x3_3 (rd (rd_L1 l0 x18_2) x24_3)) == (rd x3_3 x24_3)) = false := beq_eq_false_iff_ne.mpr c17
        have c17b1 : ((rd x3_3 (rd (rd_L1 l0 x18_2) x24_3)) != (rd x3_3 x24_3)) = true := bne_iff_ne.mpr c17
        obtain ⟨y235, hy235⟩ : ∃ y_ : List Int, y_ = (x3_3.set (x24_3 : Int).toNat (rd x3_3 x24_3)) := ⟨_, rfl⟩
        replace H : (impl_orbits.l2 k3 l0 (y235.set ((rd (rd_L1 l0 x18_2) x24_3) : Int).toNat (rd x3_3 x24_3)) true l0 (l0.length : Int) x18_2 (rd_L1 l0 x18_2) ((rd_L1 l0 x18_2).length : Int) (wrap64 (x24_3 + 1))) = some r := by first | (rw [hy235]; with_reducible exact H) | (have H2_ := (Option.bind_some _ _).symm.trans H; rw [hy235]; with_reducible exact H2_) | (have H2_ := (Option.bind_some _ _).symm.trans H; with_reducible exact H2_) | with_reducible exact H | (rw [hy235]; exact H) | exact H
        have Ny235 := Aside0.mk hy235
        clear hy235
        obtain ⟨y236, hy236⟩ : ∃ y_ : List Int, y_ = (y235.set ((rd (rd_L1 l0 x18_2) x24_3) : Int).toNat (rd x3_3 x24_3)) := ⟨_, rfl⟩
        replace H : (impl_orbits.l2 k3 l0 y236 true l0 (l0.length : Int) x18_2 (rd_L1 l0 x18_2) ((rd_L1 l0 x18_2).length : Int) (wrap64 (x24_3 + 1))) = some r := by first | (rw [hy236]; with_reducible exact H) | (have H2_ := (Option.bind_some _ _).symm.trans H; rw [hy236]; with_reducible exact H2_) | (have H2_ := (Option.bind_some _ _).symm.trans H; with_reducible exact H2_) | with_reducible exact H | (rw [hy236]; exact H) | exact H
        have Ny236 := Aside0.mk hy236
        clear hy236
        have H' := Aside0.mk H
        clear H
        have p230 : 0 ≤ (x24_3 : Int) := dT
        have q230 : x24_3 < ((rd_L1 l0 x18_2).length : Int) := dT
        obtain ⟨ad230, e230, hx230_0⟩ := Kd.at_int HR229_0.out x24_3 p230 q230
        cases e230
        replace hx230_0 := (HB.out.cell (World.block_lt_of_cell? w _ hx230_0)).trans hx230_0
        replace p230 := eq_true p230
        replace q230 := eq_true q230
        obtain ⟨Ao21, co21, eo21⟩ := Kd.R_slice HO_3.out
        subst eo21
        have p231 : 0 ≤ (x24_3 : Int) := dT
        have q231 : x24_3 < (x3_3.length : Int) := dT
        obtain ⟨ad231, e231, hx231_0⟩ := Kd.at_int (Kd.R_reads' HO_3.out).2.2 x24_3 p231 q231
        cases e231
        replace p231 := eq_true p231
        replace q231 := eq_true q231
        have p232 : 0 ≤ ((rd (rd_L1 l0 x18_2) x24_3) : Int) := dT
        have q232 : (rd (rd_L1 l0 x18_2) x24_3) < (x3_3.length : Int) := dT
        obtain ⟨ad232, e232, hx232_0⟩ := Kd.at_int (Kd.R_reads' HO_3.out).2.2 (rd (rd_L1 l0 x18_2) x24_3) p232 q232
        obtain rfl : ad231 = ad232 := (by injection e232)
        replace p232 := eq_true p232
        replace q232 := eq_true q232
        have p233 : 0 ≤ (x24_3 : Int) := dT
        have q233 : x24_3 < (x3_3.length : Int) := dT
        obtain ⟨ad233, e233, hx233_0⟩ := Kd.at_int (Kd.R_reads' HO_3.out).2.2 x24_3 p233 q233
        obtain rfl : ad231 = ad233 := (by injection e233)
        replace p233 := eq_true p233
        replace q233 := eq_true q233
        have p234 : 0 ≤ ((rd (rd_L1 l0 x18_2) x24_3) : Int) := dT
        have q234 : (rd (rd_L1 l0 x18_2) x24_3) < (x3_3.length : Int) := dT
        obtain ⟨ad234, e234, hx234_0⟩ := Kd.at_int (Kd.R_reads' HO_3.out).2.2 (rd (rd_L1 l0 x18_2) x24_3) p234 q234
        obtain rfl : ad231 = ad234 := (by injection e234)
        replace p234 := eq_true p234
        replace q234 := eq_true q234
        have p19 : 0 ≤ (x24_3 : Int) := dT
        have q19 : (x24_3 : Int) < ((x3_3.length : Int) : Int) := dT
        obtain ⟨go19, co19, eo19, gb19, gl19, cl19, HG19⟩ := Kd.R_form HO_3.out (by omega)
        (first | cases eo19 | (injection eo19 with ea_ en_ ec_; (first | subst ea_ | (injection ea_ with ea_; subst ea_)); subst ec_; clear en_))
        have GB19 := Aside0.mk gb19
        have GG19 := Aside0.mk HG19
        clear gb19 gl19 HG19
        (first | simp only [add_plain] at hx231_0 | skip)
        (first | simp only [add_plain] at hx232_0 | skip)
        (first | simp only [add_plain] at hx233_0 | skip)
        (first | simp only [add_plain] at hx234_0 | skip)
        obtain ⟨hx19_0, hf19_0⟩ := Kd.R_celln 0 HO_3.out (x24_3 : Int) p19 q19
        replace p19 := eq_true p19
        replace q19 := eq_true q19
        have HP22 := Kd.R_putg HO_3.out (x24_3 : Int) (rd x3_3 x24_3)
        go_wp2_with (first | ((with_reducible refine gate_store (t := 3) (p := 58) rfl ?_); (try (rw [drewN_self wr]; generalize hq_ : World.drewN wr _ = wr; replace HO_3 := Aside0.mk (Kd.R_at hq_ HO_3.out); replace HB := Aside0.mk (below_at hq_ HB.out); clear hq_; (try (obtain ⟨hy22_, hz22_⟩ := Kd.R_celln 0 HO_3.out (x24_3 : Int) (dT) (dT))); (try (have HP22 := Kd.R_putg HO_3.out (x24_3 : Int) (rd x3_3 x24_3))))); refine store_event (t := 3) (p := 58) (v := ?vo_w23) (w1 := (wr.setCell ⟨go19, (x24_3 : Int).toNat, none⟩ (.int .i64 (rd x3_3 x24_3)))) ?hg ?ho ?hn ?hr ?_; (case ho => rfl); (case hg => rfl); (case hn => rfl); (case hr => first | (go_simp; done) | (go_simp; rfl)); intro w23 hw; have hg : wr.grownBy w23 (some go19) := (by rw [hw]; exact HP22.2); have hp_ : Kd.R (Kd.int .i64) 3 w23 w.heap.size (fun _ => True) (.slice (some ⟨go19, 0, none⟩) x3_3.length co21) y235 := (by rw [hw, Ny235.out]; exact HP22.1); clear HP22; replace HO_3 := Aside0.mk (hp_); replace HB := Aside0.mk ((by rw [hw]; exact below_set (HB.out) GB19.out : Below w.heap.size w w23)); clear hg hw hp_; have p20 : 0 ≤ ((rd (rd_L1 l0 x18_2) x24_3) : Int) := dT; have q20 : ((rd (rd_L1 l0 x18_2) x24_3) : Int) < ((x3_3.length : Int) : Int) := dT; obtain ⟨hx20_0, hf20_0⟩ := Kd.R_celln 0 HO_3.out ((rd (rd_L1 l0 x18_2) x24_3) : Int) p20 q20; replace p20 := eq_true p20; replace q20 := eq_true q20; obtain ⟨hy24_, hz24_⟩ := Kd.R_celln 0 HO_3.out ((rd (rd_L1 l0 x18_2) x24_3) : Int) (dT) (dT); have HP24 := Kd.R_putg HO_3.out ((rd (rd_L1 l0 x18_2) x24_3) : Int) (rd x3_3 x24_3)) | ((with_reducible refine gate_store (t := 3) (p := 59) rfl ?_); (try (rw [drewN_self w23]; generalize hq_ : World.drewN w23 _ = w23; replace HO_3 := Aside0.mk (Kd.R_at hq_ HO_3.out); replace HB := Aside0.mk (below_at hq_ HB.out); clear hq_; (try (obtain ⟨hy24_, hz24_⟩ := Kd.R_celln 0 HO_3.out ((rd (rd_L1 l0 x18_2) x24_3) : Int) (dT) (dT))); (try (have HP24 := Kd.R_putg HO_3.out ((rd (rd_L1 l0 x18_2) x24_3) : Int) (rd x3_3 x24_3))))); refine store_event (t := 3) (p := 59) (v := ?vo_w25) (w1 := (w23.setCell ⟨go19, ((rd (rd_L1 l0 x18_2) x24_3) : Int).toNat, none⟩ (.int .i64 (rd x3_3 x24_3)))) ?hg ?ho ?hn ?hr ?_; (case ho => rfl); (case hg => rfl); (case hn => rfl); (case hr => first | (go_simp; done) | (go_simp; rfl)); intro w25 hw; have hg : w23.grownBy w25 (some go19) := (by rw [hw]; exact HP24.2); have hp_ : Kd.R (Kd.int .i64) 3 w25 w.heap.size (fun _ => True) (.slice (some ⟨go19, 0, none⟩) x3_3.length co21) y236 := (by rw [hw, Ny236.out]; exact HP24.1); clear HP24; replace HO_3 := Aside0.mk (hp_); replace HB := Aside0.mk ((by rw [hw]; exact below_set (HB.out) GB19.out : Below w.heap.size w w25)); clear hg hw hp_))
        repeat (go_quiet (first | ((with_reducible refine gate_store (t := 3) (p := 58) rfl ?_); (try (rw [drewN_self wr]; generalize hq_ : World.drewN wr _ = wr; replace HO_3 := Aside0.mk (Kd.R_at hq_ HO_3.out); replace HB := Aside0.mk (below_at hq_ HB.out); clear hq_; (try (obtain ⟨hy22_, hz22_⟩ := Kd.R_celln 0 HO_3.out (x24_3 : Int) (dT) (dT))); (try (have HP22 := Kd.R_putg HO_3.out (x24_3 : Int) (rd x3_3 x24_3))))); refine store_event (t := 3) (p := 58) (v := ?vo_w23) (w1 := (wr.setCell ⟨go19, (x24_3 : Int).toNat, none⟩ (.int .i64 (rd x3_3 x24_3)))) ?hg ?ho ?hn ?hr ?_; (case ho => rfl); (case hg => rfl); (case hn => rfl); (case hr => first | (go_simp; done) | (go_simp; rfl)); intro w23 hw; have hg : wr.grownBy w23 (some go19) := (by rw [hw]; exact HP22.2); have hp_ : Kd.R (Kd.int .i64) 3 w23 w.heap.size (fun _ => True) (.slice (some ⟨go19, 0, none⟩) x3_3.length co21) y235 := (by rw [hw, Ny235.out]; exact HP22.1); clear HP22; replace HO_3 := Aside0.mk (hp_); replace HB := Aside0.mk ((by rw [hw]; exact below_set (HB.out) GB19.out : Below w.heap.size w w23)); clear hg hw hp_; have p20 : 0 ≤ ((rd (rd_L1 l0 x18_2) x24_3) : Int) := dT; have q20 : ((rd (rd_L1 l0 x18_2) x24_3) : Int) < ((x3_3.length : Int) : Int) := dT; obtain ⟨hx20_0, hf20_0⟩ := Kd.R_celln 0 HO_3.out ((rd (rd_L1 l0 x18_2) x24_3) : Int) p20 q20; replace p20 := eq_true p20; replace q20 := eq_true q20; obtain ⟨hy24_, hz24_⟩ := Kd.R_celln 0 HO_3.out ((rd (rd_L1 l0 x18_2) x24_3) : Int) (dT) (dT); have HP24 := Kd.R_putg HO_3.out ((rd (rd_L1 l0 x18_2) x24_3) : Int) (rd x3_3 x24_3)) | ((with_reducible refine gate_store (t := 3) (p := 59) rfl ?_); (try (rw [drewN_self w23]; generalize hq_ : World.drewN w23 _ = w23; replace HO_3 := Aside0.mk (Kd.R_at hq_ HO_3.out); replace HB := Aside0.mk (below_at hq_ HB.out); clear hq_; (try (obtain ⟨hy24_, hz24_⟩ := Kd.R_celln 0 HO_3.out ((rd (rd_L1 l0 x18_2) x24_3) : Int) (dT) (dT))); (try (have HP24 := Kd.R_putg HO_3.out ((rd (rd_L1 l0 x18_2) x24_3) : Int) (rd x3_3 x24_3))))); refine store_event (t := 3) (p := 59) (v := ?vo_w25) (w1 := (w23.setCell ⟨go19, ((rd (rd_L1 l0 x18_2) x24_3) : Int).toNat, none⟩ (.int .i64 (rd x3_3 x24_3)))) ?hg ?ho ?hn ?hr ?_; (case ho => rfl); (case hg => rfl); (case hn => rfl); (case hr => first | (go_simp; done) | (go_simp; rfl)); intro w25 hw; have hg : w23.grownBy w25 (some go19) := (by rw [hw]; exact HP24.2); have hp_ : Kd.R (Kd.int .i64) 3 w25 w.heap.size (fun _ => True) (.slice (some ⟨go19, 0, none⟩) x3_3.length co21) y236 := (by rw [hw, Ny236.out]; exact HP24.1); clear HP24; replace HO_3 := Aside0.mk (hp_); replace HB := Aside0.mk ((by rw [hw]; exact below_set (HB.out) GB19.out : Below w.heap.size w w25)); clear hg hw hp_)); try go_wp2_with (first | ((with_reducible refine gate_store (t := 3) (p := 58) rfl ?_); (try (rw [drewN_self wr]; generalize hq_ : World.drewN wr _ = wr; replace HO_3 := Aside0.mk (Kd.R_at hq_ HO_3.out); replace HB := Aside0.mk (below_at hq_ HB.out); clear hq_; (try (obtain ⟨hy22_, hz22_⟩ := Kd.R_celln 0 HO_3.out (x24_3 : Int) (dT) (dT))); (try (have HP22 := Kd.R_putg HO_3.out (x24_3 : Int) (rd x3_3 x24_3))))); refine store_event (t := 3) (p := 58) (v := ?vo_w23) (w1 := (wr.setCell ⟨go19, (x24_3 : Int).toNat, none⟩ (.int .i64 (rd x3_3 x24_3)))) ?hg ?ho ?hn ?hr ?_; (case ho => rfl); (case hg => rfl); (case hn => rfl); (case hr => first | (go_simp; done) | (go_simp; rfl)); intro w23 hw; have hg : wr.grownBy w23 (some go19) := (by rw [hw]; exact HP22.2); have hp_ : Kd.R (Kd.int .i64) 3 w23 w.heap.size (fun _ => True) (.slice (some ⟨go19, 0, none⟩) x3_3.length co21) y235 := (by rw [hw, Ny235.out]; exact HP22.1); clear HP22; replace HO_3 := Aside0.mk (hp_); replace HB := Aside0.mk ((by rw [hw]; exact below_set (HB.out) GB19.out : Below w.heap.size w w23)); clear hg hw hp_; have p20 : 0 ≤ ((rd (rd_L1 l0 x18_2) x24_3) : Int) := dT; have q20 : ((rd (rd_L1 l0 x18_2) x24_3) : Int) < ((x3_3.length : Int) : Int) := dT; obtain ⟨hx20_0, hf20_0⟩ := Kd.R_celln 0 HO_3.out ((rd (rd_L1 l0 x18_2) x24_3) : Int) p20 q20; replace p20 := eq_true p20; replace q20 := eq_true q20; obtain ⟨hy24_, hz24_⟩ := Kd.R_celln 0 HO_3.out ((rd (rd_L1 l0 x18_2) x24_3) : Int) (dT) (dT); have HP24 := Kd.R_putg HO_3.out ((rd (rd_L1 l0 x18_2) x24_3) : Int) (rd x3_3 x24_3)) | ((with_reducible refine gate_store (t := 3) (p := 59) rfl ?_); (try (rw [drewN_self w23]; generalize hq_ : World.drewN w23 _ = w23; replace HO_3 := Aside0.mk (Kd.R_at hq_ HO_3.out); replace HB := Aside0.mk (below_at hq_ HB.out); clear hq_; (try (obtain ⟨hy24_, hz24_⟩ := Kd.R_celln 0 HO_3.out ((rd (rd_L1 l0 x18_2) x24_3) : Int) (dT) (dT))); (try (have HP24 := Kd.R_putg HO_3.out ((rd (rd_L1 l0 x18_2) x24_3) : Int) (rd x3_3 x24_3))))); refine store_event (t := 3) (p := 59) (v := ?vo_w25) (w1 := (w23.setCell ⟨go19, ((rd (rd_L1 l0 x18_2) x24_3) : Int).toNat, none⟩ (.int .i64 (rd x3_3 x24_3)))) ?hg ?ho ?hn ?hr ?_; (case ho => rfl); (case hg => rfl); (case hn => rfl); (case hr => first | (go_simp; done) | (go_simp; rfl)); intro w25 hw; have hg : w23.grownBy w25 (some go19) := (by rw [hw]; exact HP24.2); have hp_ : Kd.R (Kd.int .i64) 3 w25 w.heap.size (fun _ => True) (.slice (some ⟨go19, 0, none⟩) x3_3.length co21) y236 := (by rw [hw, Ny236.out]; exact HP24.1); clear HP24; replace HO_3 := Aside0.mk (hp_); replace HB := Aside0.mk ((by rw [hw]; exact below_set (HB.out) GB19.out : Below w.heap.size w w25)); clear hg hw hp_)))
        go_roundg k3
        case measure => have := HK1.out; have := HK2.out; have := HK3.out; omega
        case rel => exact ⟨(y236), (true), (wrap64 (x24_3 + 1)), eS, eS, H', ⟨by have := HK1.out; have := HK2.out; have := HK3.out; omega⟩, ⟨rP HO_3⟩, ⟨bP HB⟩⟩
 ·rw [if_neg c2] at H
  exact absurd H (by simp)

end Go.Proofs.Ytjnbbnaidjodlaa.F
