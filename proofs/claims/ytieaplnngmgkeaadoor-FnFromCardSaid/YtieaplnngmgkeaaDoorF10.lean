/- Contracts: what these Go functions return. -/
import Derived.Test.YtieaplnngmgkeaaDoorF0
import Derived.Test.YtieaplnngmgkeaaDoorF8
import Derived.Test.YtieaplnngmgkeaaDoorF9
namespace Go.Proofs.YtieaplnngmgkeaaDoor.F
open Go.RowKit Go.Proofs.YtieaplnngmgkeaaDoorW.PrintWords Go.Proofs.YtieaplnngmgkeaaDoorW.PrintLast Go.Proofs.YtieaplnngmgkeaaDoorW.PrintMore
attribute [local go_sem] max2_int min2_int max_two min_two max_three min_three max_four min_four
set_option linter.unusedVariables false
set_option linter.unusedSimpArgs false

/-! ### spec_PermText: function 16 -/
mutual
def spec_PermText.l0 : Nat → ByteArray → List (List Int) → Bool → Int → Option (ByteArray)
 | 0, _, _, _, _ => none
 | k + 1, x3, x4, x5, x6 => if x6 < (x4.length : Int) then (if 0 ≤ x6 then (if ((rd_L1 x4 x6).length : Int) < 2 then (spec_PermText.l0 k x3 x4 x5 (wrap64 (x6 + 1))) else (if x3.size + 1 ≤ 9223372036854775807 then (spec_PermText.l1 k (x3 ++ (⟨#[40]⟩ : ByteArray)) x4 x5 x6 0) else (none))) else (none)) else (if x5 = true then (if x3.toList = ([] : List UInt8) then (some (⟨#[40, 41]⟩ : ByteArray)) else (some x3)) else (some x3))
def spec_PermText.l1 : Nat → ByteArray → List (List Int) → Bool → Int → Int → Option (ByteArray)
 | 0, _, _, _, _, _ => none
 | k + 1, x3, x4, x5, x6, x7 => if 0 ≤ x6 then (if x6 < (x4.length : Int) then (if x7 < ((rd_L1 x4 x6).length : Int) then (if x7 > 0 then (if x3.size + 1 ≤ 9223372036854775807 then (if 0 ≤ x7 then ((spec_l6Dec.f k (rd (rd_L1 x4 x6) x7)).bind fun t187 => (if (x3 ++ (⟨#[44]⟩ : ByteArray)).size + t187.size ≤ 9223372036854775807 then (spec_PermText.l1 k ((x3 ++ (⟨#[44]⟩ : ByteArray)) ++ t187) x4 x5 x6 (wrap64 (x7 + 1))) else (none))) else (none)) else (none)) else (if 0 ≤ x7 then ((spec_l6Dec.f k (rd (rd_L1 x4 x6) x7)).bind fun t190 => (if x3.size + t190.size ≤ 9223372036854775807 then (spec_PermText.l1 k (x3 ++ t190) x4 x5 x6 (wrap64 (x7 + 1))) else (none))) else (none))) else (if x3.size + 1 ≤ 9223372036854775807 then (spec_PermText.l0 k (x3 ++ (⟨#[41]⟩ : ByteArray)) x4 x5 (wrap64 (x6 + 1))) else (none))) else (none)) else (none)
end
def spec_PermText.f (k : Nat) (l0 : List Int) : Option (ByteArray) := (spec_PermCycles.f k l0).bind fun bt179 => (spec_PermText.l0 k (⟨#[]⟩ : ByteArray) bt179.1 bt179.2 0)
set_option maxHeartbeats 8000000 in
set_option maxRecDepth 100000 in
theorem spec_PermText.calls (k : Nat) (A0 : Option Addr) (c0 : Nat) (l0 : List Int) (r : ByteArray) (w : World) (hr0 : Kd.C (Kd.int .i64) w A0 l0.length l0) (hc0 : l0.length ≤ c0) (h : spec_PermText.f k l0 = some r) :
 Calls Tryd.prog 16 #[.slice A0 l0.length c0] w fun e w' => e = .returned (.string r) ∧ Below w.heap.size w w' := by
 have HR0 := Aside0.mk hr0
 have HC0 := Aside0.mk hc0
 clear hr0 hc0
 have HB := Aside0.mk (Below.refl w.heap.size w)
 have H : ((spec_PermCycles.f k l0).bind fun bt179 => (spec_PermText.l0 k (⟨#[]⟩ : ByteArray) bt179.1 bt179.2 0)) = some r := h
 clear h
 replace H := Option.bind_eq_some_iff.mp H
 obtain ⟨⟨t179, t180⟩, A20, H⟩ := H
 replace H : (spec_PermText.l0 k (⟨#[]⟩ : ByteArray) t179 t180 0) = some r := H
 have A2 := Aside0.mk A20
 clear A20
 have H' := Aside0.mk H
 clear H
 go_enter Tryd.func16, Tryd.ntmps16
 go_wp2_with (first | ((with_reducible refine gate_callee (f := 36) rfl ?_); refine gL (some 10) Tryd.func36 #[.slice A0 l0.length c0] ?_; (with_reducible refine (spec_PermCycles.calls k _ _ l0 t179 t180 _ ?side1 ?side2 A2.out).mono ?_); (case side1 => repeat (first | exact HR0.out | (with_reducible refine Kd.C_alloc ?_ _) | (with_reducible refine Kd.C_drewN ?_ _) | (with_reducible refine Kd.C_drew ?_))); (case side2 => exact HC0.out); rintro e w3 ⟨v181, rfl, ho0, hb⟩; refine ⟨_, rfl, ?_⟩; have HO182 := Aside0.mk (Kd.S_lower ho0 (below_size (bP HB))); replace HB := bS HB hb; (try clear hb); (try clear hb2); (try clear hk); (try clear hi); (try clear ho0)))
 go_loopg [3, 6] k (fun kq v3 v6 w' => ∃ (x3_1 : ByteArray) (x6_1 : Int), v3 = .string x3_1 ∧ v6 = .int .i64 x6_1 ∧ Aside0 (spec_PermText.l0 kq x3_1 t179 t180 x6_1 = some r) ∧ Aside0 (kq ≤ k) ∧ Aside0 (Kd.S (Kd.slice 3 (Kd.int .i64)) 22 w' w.heap.size (fun _ => True) v181 t179) ∧ Aside0 (Below w.heap.size w w'))
 case atStart => exact ⟨((⟨#[]⟩ : ByteArray)), (0), eS, eS, H', ⟨Nat.le_refl _⟩, ⟨by (with_reducible repeat (first | apply Kd.S_alloc | apply Kd.S_drewN | apply Kd.S_drew)); exact HO182.out⟩, ⟨bP HB⟩⟩
 case round =>
  clear H'
  try clear c1
  try clear p2
  try clear c3
  obtain ⟨x3_1, x6_1, rfl, rfl, HA, HK1, HO_4, HB⟩ := hrel
  cases gk with
  | zero => exact absurd HA.out (by simp [spec_PermText.l0])
  | succ k1 =>
   have H := HA.out
   clear HA
   simp only [spec_PermText.l0] at H
   by_cases c4 : x6_1 < (t179.length : Int)
   ·rw [if_pos c4] at H
    have c4b0 : decide (x6_1 < (t179.length : Int)) = true := decide_eq_true c4
    clear c4
    by_cases c5 : 0 ≤ x6_1
    ·rw [if_pos c5] at H
     have c5b0 : decide (0 ≤ x6_1) = true := decide_eq_true c5
     clear c5
     by_cases c6 : ((rd_L1 t179 x6_1).length : Int) < 2
     ·rw [if_pos c6] at H
      have c6b0 : decide (((rd_L1 t179 x6_1).length : Int) < 2) = true := decide_eq_true c6
      have c6b1 : decide ((rd_L1 t179 x6_1).length < 2) = true := decide_eq_true (by omega)
      clear c6
      have H' := Aside0.mk H
      clear H
      obtain ⟨Ao7, co7, eo7⟩ := Kd.S_slice HO_4.out
      subst eo7
      have p183 : 0 ≤ (x6_1 : Int) := dT
      have q183 : x6_1 < (t179.length : Int) := dT
      obtain ⟨ad183, A183_0, c183_0, e183, hx183_0, hl183_0, hi183_0⟩ := at_L1 (Kd.S_reads' HO_4.out).2.2 x6_1 p183 q183
      cases e183
      obtain ⟨ce183, hce183, hMe183, hcc183⟩ := Kd.S_get HO_4.out [] x6_1 p183 (by first | exact q183 | exact dT | (have e_ := (Kd.S_reads' HO_4.out).1; omega))
      obtain ⟨ve183_0, rfl, ge183_0⟩ := hMe183
      have hv183_0 := hcc183 0 _ rfl
      rw [Nat.add_zero, show ((Kd.slice 3 (Kd.int .i64))).sz = 1 from rfl, Nat.mul_one] at hv183_0
      replace hv183_0 := Option.some.inj (hv183_0.symm.trans hx183_0)
      rw [hv183_0] at ge183_0
      have HL183_0 := Aside0.mk (show Kd.R (Kd.int .i64) 3 _ _ _ _ (rd_L1 t179 x6_1) from ge183_0)
      clear hv183_0 ge183_0
      clear hcc183 hce183
      have HR183_0 := Aside0.mk hi183_0
      have HC183_0 := Aside0.mk hl183_0
      clear hi183_0 hl183_0
      replace p183 := eq_true p183
      replace q183 := eq_true q183
      go_wp2
      go_roundg k1
      case measure => have := HK1.out; omega
      case rel => exact ⟨(x3_1), (wrap64 (x6_1 + 1)), eS, eS, H', ⟨by have := HK1.out; omega⟩, ⟨by (with_reducible repeat (first | apply Kd.S_alloc | apply Kd.S_drewN | apply Kd.S_drew)); exact HO_4.out⟩, ⟨bP HB⟩⟩
     ·rw [if_neg c6] at H
      have c6b0 : decide (((rd_L1 t179 x6_1).length : Int) < 2) = false := decide_eq_false c6
      have c6b1 : decide ((rd_L1 t179 x6_1).length < 2) = false := decide_eq_false (by omega)
      clear c6
      by_cases c8 : x3_1.size + 1 ≤ 9223372036854775807
      ·rw [if_pos c8] at H
       have c8b0 := eq_true c8
       have c8b1 : decide (x3_1.size + 1 ≤ 9223372036854775807) = true := decide_eq_true c8
       try have c8b2 : (9223372036854775807 < x3_1.size + 1) = False := eq_false (Nat.not_lt.2 c8)
       have H' := Aside0.mk H
       clear H
       obtain ⟨Ao9, co9, eo9⟩ := Kd.S_slice HO_4.out
       subst eo9
       have p183 : 0 ≤ (x6_1 : Int) := dT
       have q183 : x6_1 < (t179.length : Int) := dT
       obtain ⟨ad183, A183_0, c183_0, e183, hx183_0, hl183_0, hi183_0⟩ := at_L1 (Kd.S_reads' HO_4.out).2.2 x6_1 p183 q183
       cases e183
       obtain ⟨ce183, hce183, hMe183, hcc183⟩ := Kd.S_get HO_4.out [] x6_1 p183 (by first | exact q183 | exact dT | (have e_ := (Kd.S_reads' HO_4.out).1; omega))
       obtain ⟨ve183_0, rfl, ge183_0⟩ := hMe183
       have hv183_0 := hcc183 0 _ rfl
       rw [Nat.add_zero, show ((Kd.slice 3 (Kd.int .i64))).sz = 1 from rfl, Nat.mul_one] at hv183_0
       replace hv183_0 := Option.some.inj (hv183_0.symm.trans hx183_0)
       rw [hv183_0] at ge183_0
       have HL183_0 := Aside0.mk (show Kd.R (Kd.int .i64) 3 _ _ _ _ (rd_L1 t179 x6_1) from ge183_0)
       clear hv183_0 ge183_0
       clear hcc183 hce183
       have HR183_0 := Aside0.mk hi183_0
       have HC183_0 := Aside0.mk hl183_0
       clear hi183_0 hl183_0
       replace p183 := eq_true p183
       replace q183 := eq_true q183
       go_wp2
       go_loopg [3, 7] k1 (fun kq v3 v7 w' => ∃ (x3_2 : ByteArray) (x7_2 : Int), v3 = .string x3_2 ∧ v7 = .int .i64 x7_2 ∧ Aside0 (spec_PermText.l1 kq x3_2 t179 t180 x6_1 x7_2 = some r) ∧ Aside0 (kq ≤ k1) ∧ Aside0 (Kd.S (Kd.slice 3 (Kd.int .i64)) 22 w' w.heap.size (fun _ => True) (.slice (some ad183) t179.length co9) t179) ∧ Aside0 (Kd.C (Kd.int .i64) w' A183_0 (rd_L1 t179 x6_1).length (rd_L1 t179 x6_1)) ∧ Aside0 (Below w.heap.size w w'))
       case atStart => exact ⟨(x3_1 ++ (⟨#[40]⟩ : ByteArray)), (0), eS, eS, H', ⟨Nat.le_refl _⟩, ⟨by (with_reducible repeat (first | apply Kd.S_alloc | apply Kd.S_drewN | apply Kd.S_drew)); exact HO_4.out⟩, ⟨by repeat (first | (with_reducible exact HR183_0.out) | (with_reducible refine Kd.C_alloc ?_ _) | (with_reducible refine Kd.C_drewN ?_ _) | (with_reducible refine Kd.C_drew ?_) | exact HR183_0.out)⟩, ⟨bP HB⟩⟩
       case round =>
        clear H'
        try clear c1
        try clear p1
        try clear q1
        try clear hx1
        try clear p2
        try clear c3
        try clear c4
        try clear c4b0
        try clear c5
        try clear c5b0
        try clear c6
        try clear c6b0
        try clear c6b1
        try clear p6
        try clear c8
        try clear c8b0
        try clear c8b1
        try clear c8b2
        try clear hx183_0
        try clear p183
        try clear p2
        try clear q183
        obtain ⟨x3_2, x7_2, rfl, rfl, HA, HK2, HO_4, HR183_0, HB⟩ := hrel
        cases gk with
        | zero => exact absurd HA.out (by simp [spec_PermText.l1])
        | succ k2 =>
         have H := HA.out
         clear HA
         simp only [spec_PermText.l1] at H
         by_cases c10 : 0 ≤ x6_1
         ·rw [if_pos c10] at H
          have c10b0 : decide (0 ≤ x6_1) = true := decide_eq_true c10
          clear c10
          by_cases c11 : x6_1 < (t179.length : Int)
          ·rw [if_pos c11] at H
           have c11b0 : decide (x6_1 < (t179.length : Int)) = true := decide_eq_true c11
           clear c11
           by_cases c12 : x7_2 < ((rd_L1 t179 x6_1).length : Int)
           ·rw [if_pos c12] at H
            have c12b0 : decide (x7_2 < ((rd_L1 t179 x6_1).length : Int)) = true := decide_eq_true c12
            clear c12
            by_cases c13 : x7_2 > 0
            ·rw [if_pos c13] at H
             have c13b0 : decide (0 < x7_2) = true := decide_eq_true c13
             clear c13
             by_cases c14 : x3_2.size + 1 ≤ 9223372036854775807
             ·rw [if_pos c14] at H
              have c14b0 := eq_true c14
              have c14b1 : decide (x3_2.size + 1 ≤ 9223372036854775807) = true := decide_eq_true c14
              try have c14b2 : (9223372036854775807 < x3_2.size + 1) = False := eq_false (Nat.not_lt.2 c14)
              by_cases c15 : 0 ≤ x7_2
              ·rw [if_pos c15] at H
               have c15b0 : decide (0 ≤ x7_2) = true := decide_eq_true c15
               clear c15
               replace H := Option.bind_eq_some_iff.mp H
               obtain ⟨t187, A160, H⟩ := H
               replace H : (if (x3_2 ++ (⟨#[44]⟩ : ByteArray)).size + t187.size ≤ 9223372036854775807 then (spec_PermText.l1 k2 ((x3_2 ++ (⟨#[44]⟩ : ByteArray)) ++ t187) t179 t180 x6_1 (wrap64 (x7_2 + 1))) else (none)) = some r := H
               have A16 := Aside0.mk A160
               clear A160
               by_cases c17 : (x3_2 ++ (⟨#[44]⟩ : ByteArray)).size + t187.size ≤ 9223372036854775807
               ·rw [if_pos c17] at H
                have c17b0 := eq_true c17
                have c17b1 : decide ((x3_2 ++ (⟨#[44]⟩ : ByteArray)).size + t187.size ≤ 9223372036854775807) = true := decide_eq_true c17
                try have c17b2 : (9223372036854775807 < (x3_2 ++ (⟨#[44]⟩ : ByteArray)).size + t187.size) = False := eq_false (Nat.not_lt.2 c17)
                have c17b3 : x3_2.size + 1 + t187.size ≤ 9223372036854775807 := (by have e_ := c17; rw [ByteArray.size_append] at e_; exact e_)
                have c17b4 : (9223372036854775807 < x3_2.size + 1 + t187.size) = False := eq_false (Nat.not_lt.2 c17b3)
                have c17b5 := decide_eq_true c17b3
                clear c17b3
                have H' := Aside0.mk H
                clear H
                have p184 : 0 ≤ (x6_1 : Int) := dT
                have q184 : x6_1 < (t179.length : Int) := dT
                obtain ⟨ad184, A184_0, c184_0, e184, hx184_0, hl184_0, hi184_0⟩ := at_L1 (Kd.S_reads' HO_4.out).2.2 x6_1 p184 q184
                obtain rfl : ad183 = ad184 := (by injection e184)
                obtain ⟨ce184, hce184, hMe184, hcc184⟩ := Kd.S_get HO_4.out [] x6_1 p184 (by first | exact q184 | exact dT | (have e_ := (Kd.S_reads' HO_4.out).1; omega))
                obtain ⟨ve184_0, rfl, ge184_0⟩ := hMe184
                have hv184_0 := hcc184 0 _ rfl
                rw [Nat.add_zero, show ((Kd.slice 3 (Kd.int .i64))).sz = 1 from rfl, Nat.mul_one] at hv184_0
                replace hv184_0 := Option.some.inj (hv184_0.symm.trans hx184_0)
                rw [hv184_0] at ge184_0
                have HL184_0 := Aside0.mk (show Kd.R (Kd.int .i64) 3 _ _ _ _ (rd_L1 t179 x6_1) from ge184_0)
                clear hv184_0 ge184_0
                clear hcc184 hce184
                have HR184_0 := Aside0.mk hi184_0
                have HC184_0 := Aside0.mk hl184_0
                clear hi184_0 hl184_0
                replace p184 := eq_true p184
                replace q184 := eq_true q184
                have p185 : 0 ≤ (x6_1 : Int) := dT
                have q185 : x6_1 < (t179.length : Int) := dT
                obtain ⟨ad185, A185_0, c185_0, e185, hx185_0, hl185_0, hi185_0⟩ := at_L1 (Kd.S_reads' HO_4.out).2.2 x6_1 p185 q185
                obtain rfl : ad183 = ad185 := (by injection e185)
                obtain ⟨ce185, hce185, hMe185, hcc185⟩ := Kd.S_get HO_4.out [] x6_1 p185 (by first | exact q185 | exact dT | (have e_ := (Kd.S_reads' HO_4.out).1; omega))
                obtain ⟨ve185_0, rfl, ge185_0⟩ := hMe185
                have hv185_0 := hcc185 0 _ rfl
                rw [Nat.add_zero, show ((Kd.slice 3 (Kd.int .i64))).sz = 1 from rfl, Nat.mul_one] at hv185_0
                replace hv185_0 := Option.some.inj (hv185_0.symm.trans hx185_0)
                rw [hv185_0] at ge185_0
                have HL185_0 := Aside0.mk (show Kd.R (Kd.int .i64) 3 _ _ _ _ (rd_L1 t179 x6_1) from ge185_0)
                clear hv185_0 ge185_0
                clear hcc185 hce185
                have HR185_0 := Aside0.mk hi185_0
                have HC185_0 := Aside0.mk hl185_0
                clear hi185_0 hl185_0
                replace p185 := eq_true p185
                replace q185 := eq_true q185
                have ea_ := Option.some.inj (hx184_0.symm.trans hx185_0)
                injection ea_ with ea_ en_ ec_
                subst ea_
                subst ec_
                clear en_
                have p186 : 0 ≤ (x7_2 : Int) := dT
                have q186 : x7_2 < ((rd_L1 t179 x6_1).length : Int) := dT
                obtain ⟨ad186, e186, hx186_0⟩ := Kd.at_int (by repeat (first | (with_reducible exact HR185_0.out) | (with_reducible refine Kd.C_alloc ?_ _) | (with_reducible refine Kd.C_drewN ?_ _) | (with_reducible refine Kd.C_drew ?_) | exact HR185_0.out)) x7_2 p186 q186
                cases e186
                replace p186 := eq_true p186
                replace q186 := eq_true q186
                go_wp2_with (first | ((with_reducible refine gate_callee (f := 37) rfl ?_); refine gL (some 48) Tryd.func37 #[.int .i64 (rd (rd_L1 t179 x6_1) x7_2)] ?_; (with_reducible refine (spec_l6Dec.calls k2 (rd (rd_L1 t179 x6_1) x7_2) t187 _ A16.out).mono ?_); rintro e w18 ⟨rfl, hb⟩; refine ⟨_, rfl, ?_⟩; replace HO_4 := Aside0.mk (Kd.S_below (by (with_reducible repeat (first | apply Kd.S_alloc | apply Kd.S_drewN | apply Kd.S_drew)); exact HO_4.out) hb); replace HL184_0 := rB HL184_0 hb; replace HL185_0 := rB HL185_0 hb; replace HR183_0 := Aside0.mk (Kd.C_below (by repeat (first | (with_reducible exact HR183_0.out) | (with_reducible refine Kd.C_alloc ?_ _) | (with_reducible refine Kd.C_drewN ?_ _) | (with_reducible refine Kd.C_drew ?_) | exact HR183_0.out)) hb); replace HR184_0 := Aside0.mk (Kd.C_below (by repeat (first | (with_reducible exact HR184_0.out) | (with_reducible refine Kd.C_alloc ?_ _) | (with_reducible refine Kd.C_drewN ?_ _) | (with_reducible refine Kd.C_drew ?_) | exact HR184_0.out)) hb); replace HR185_0 := Aside0.mk (Kd.C_below (by repeat (first | (with_reducible exact HR185_0.out) | (with_reducible refine Kd.C_alloc ?_ _) | (with_reducible refine Kd.C_drewN ?_ _) | (with_reducible refine Kd.C_drew ?_) | exact HR185_0.out)) hb); replace HB := bS HB hb; (try clear hb); (try clear hb2); (try clear hk); (try clear hi)))
                go_roundg k2
                case measure => have := HK1.out; have := HK2.out; omega
                case rel => exact ⟨((x3_2 ++ (⟨#[44]⟩ : ByteArray)) ++ t187), (wrap64 (x7_2 + 1)), eS, eS, H', ⟨by have := HK1.out; have := HK2.out; omega⟩, ⟨by (with_reducible repeat (first | apply Kd.S_alloc | apply Kd.S_drewN | apply Kd.S_drew)); exact HO_4.out⟩, ⟨by repeat (first | (with_reducible exact HR183_0.out) | (with_reducible refine Kd.C_alloc ?_ _) | (with_reducible refine Kd.C_drewN ?_ _) | (with_reducible refine Kd.C_drew ?_) | exact HR183_0.out)⟩, ⟨bP HB⟩⟩
               ·rw [if_neg c17] at H
                exact absurd H (by simp)
              ·rw [if_neg c15] at H
               exact absurd H (by simp)
             ·rw [if_neg c14] at H
              exact absurd H (by simp)
            ·rw [if_neg c13] at H
             have c13b0 : decide (0 < x7_2) = false := decide_eq_false c13
             clear c13
             by_cases c19 : 0 ≤ x7_2
             ·rw [if_pos c19] at H
              have c19b0 : decide (0 ≤ x7_2) = true := decide_eq_true c19
              clear c19
              replace H := Option.bind_eq_some_iff.mp H
              obtain ⟨t190, A200, H⟩ := H
              replace H : (if x3_2.size + t190.size ≤ 9223372036854775807 then (spec_PermText.l1 k2 (x3_2 ++ t190) t179 t180 x6_1 (wrap64 (x7_2 + 1))) else (none)) = some r := H
              have A20 := Aside0.mk A200
              clear A200
              by_cases c21 : x3_2.size + t190.size ≤ 9223372036854775807
              ·rw [if_pos c21] at H
               have c21b0 := eq_true c21
               have c21b1 : decide (x3_2.size + t190.size ≤ 9223372036854775807) = true := decide_eq_true c21
               try have c21b2 : (9223372036854775807 < x3_2.size + t190.size) = False := eq_false (Nat.not_lt.2 c21)
               have H' := Aside0.mk H
               clear H
               have p184 : 0 ≤ (x6_1 : Int) := dT
               have q184 : x6_1 < (t179.length : Int) := dT
               obtain ⟨ad184, A184_0, c184_0, e184, hx184_0, hl184_0, hi184_0⟩ := at_L1 (Kd.S_reads' HO_4.out).2.2 x6_1 p184 q184
               obtain rfl : ad183 = ad184 := (by injection e184)
               obtain ⟨ce184, hce184, hMe184, hcc184⟩ := Kd.S_get HO_4.out [] x6_1 p184 (by first | exact q184 | exact dT | (have e_ := (Kd.S_reads' HO_4.out).1; omega))
               obtain ⟨ve184_0, rfl, ge184_0⟩ := hMe184
               have hv184_0 := hcc184 0 _ rfl
               rw [Nat.add_zero, show ((Kd.slice 3 (Kd.int .i64))).sz = 1 from rfl, Nat.mul_one] at hv184_0
               replace hv184_0 := Option.some.inj (hv184_0.symm.trans hx184_0)
               rw [hv184_0] at ge184_0
               have HL184_0 := Aside0.mk (show Kd.R (Kd.int .i64) 3 _ _ _ _ (rd_L1 t179 x6_1) from ge184_0)
               clear hv184_0 ge184_0
               clear hcc184 hce184
               have HR184_0 := Aside0.mk hi184_0
               have HC184_0 := Aside0.mk hl184_0
               clear hi184_0 hl184_0
               replace p184 := eq_true p184
               replace q184 := eq_true q184
               have p188 : 0 ≤ (x6_1 : Int) := dT
               have q188 : x6_1 < (t179.length : Int) := dT
               obtain ⟨ad188, A188_0, c188_0, e188, hx188_0, hl188_0, hi188_0⟩ := at_L1 (Kd.S_reads' HO_4.out).2.2 x6_1 p188 q188
               obtain rfl : ad183 = ad188 := (by injection e188)
               obtain ⟨ce188, hce188, hMe188, hcc188⟩ := Kd.S_get HO_4.out [] x6_1 p188 (by first | exact q188 | exact dT | (have e_ := (Kd.S_reads' HO_4.out).1; omega))
               obtain ⟨ve188_0, rfl, ge188_0⟩ := hMe188
               have hv188_0 := hcc188 0 _ rfl
               rw [Nat.add_zero, show ((Kd.slice 3 (Kd.int .i64))).sz = 1 from rfl, Nat.mul_one] at hv188_0
               replace hv188_0 := Option.some.inj (hv188_0.symm.trans hx188_0)
               rw [hv188_0] at ge188_0
               have HL188_0 := Aside0.mk (show Kd.R (Kd.int .i64) 3 _ _ _ _ (rd_L1 t179 x6_1) from ge188_0)
               clear hv188_0 ge188_0
               clear hcc188 hce188
               have HR188_0 := Aside0.mk hi188_0
               have HC188_0 := Aside0.mk hl188_0
               clear hi188_0 hl188_0
               replace p188 := eq_true p188
               replace q188 := eq_true q188
               have ea_ := Option.some.inj (hx184_0.symm.trans hx188_0)
               injection ea_ with ea_ en_ ec_
               subst ea_
               subst ec_
               clear en_
               have p189 : 0 ≤ (x7_2 : Int) := dT
               have q189 : x7_2 < ((rd_L1 t179 x6_1).length : Int) := dT
               obtain ⟨ad189, e189, hx189_0⟩ := Kd.at_int (by repeat (first | (with_reducible exact HR188_0.out) | (with_reducible refine Kd.C_alloc ?_ _) | (with_reducible refine Kd.C_drewN ?_ _) | (with_reducible refine Kd.C_drew ?_) | exact HR188_0.out)) x7_2 p189 q189
               cases e189
               replace p189 := eq_true p189
               replace q189 := eq_true q189
               go_wp2_with (first | ((with_reducible refine gate_callee (f := 37) rfl ?_); refine gL (some 48) Tryd.func37 #[.int .i64 (rd (rd_L1 t179 x6_1) x7_2)] ?_; (with_reducible refine (spec_l6Dec.calls k2 (rd (rd_L1 t179 x6_1) x7_2) t190 _ A20.out).mono ?_); rintro e w22 ⟨rfl, hb⟩; refine ⟨_, rfl, ?_⟩; replace HO_4 := Aside0.mk (Kd.S_below (by (with_reducible repeat (first | apply Kd.S_alloc | apply Kd.S_drewN | apply Kd.S_drew)); exact HO_4.out) hb); replace HL184_0 := rB HL184_0 hb; replace HL188_0 := rB HL188_0 hb; replace HR183_0 := Aside0.mk (Kd.C_below (by repeat (first | (with_reducible exact HR183_0.out) | (with_reducible refine Kd.C_alloc ?_ _) | (with_reducible refine Kd.C_drewN ?_ _) | (with_reducible refine Kd.C_drew ?_) | exact HR183_0.out)) hb); replace HR184_0 := Aside0.mk (Kd.C_below (by repeat (first | (with_reducible exact HR184_0.out) | (with_reducible refine Kd.C_alloc ?_ _) | (with_reducible refine Kd.C_drewN ?_ _) | (with_reducible refine Kd.C_drew ?_) | exact HR184_0.out)) hb); replace HR188_0 := Aside0.mk (Kd.C_below (by repeat (first | (with_reducible exact HR188_0.out) | (with_reducible refine Kd.C_alloc ?_ _) | (with_reducible refine Kd.C_drewN ?_ _) | (with_reducible refine Kd.C_drew ?_) | exact HR188_0.out)) hb); replace HB := bS HB hb; (try clear hb); (try clear hb2); (try clear hk); (try clear hi)))
               go_roundg k2
               case measure => have := HK1.out; have := HK2.out; omega
               case rel => exact ⟨(x3_2 ++ t190), (wrap64 (x7_2 + 1)), eS, eS, H', ⟨by have := HK1.out; have := HK2.out; omega⟩, ⟨by (with_reducible repeat (first | apply Kd.S_alloc | apply Kd.S_drewN | apply Kd.S_drew)); exact HO_4.out⟩, ⟨by repeat (first | (with_reducible exact HR183_0.out) | (with_reducible refine Kd.C_alloc ?_ _) | (with_reducible refine Kd.C_drewN ?_ _) | (with_reducible refine Kd.C_drew ?_) | exact HR183_0.out)⟩, ⟨bP HB⟩⟩
              ·rw [if_neg c21] at H
               exact absurd H (by simp)
             ·rw [if_neg c19] at H
              exact absurd H (by simp)
           ·rw [if_neg c12] at H
            have c12b0 : decide (x7_2 < ((rd_L1 t179 x6_1).length : Int)) = false := decide_eq_false c12
            clear c12
            by_cases c23 : x3_2.size + 1 ≤ 9223372036854775807
            ·rw [if_pos c23] at H
             have c23b0 := eq_true c23
             have c23b1 : decide (x3_2.size + 1 ≤ 9223372036854775807) = true := decide_eq_true c23
             try have c23b2 : (9223372036854775807 < x3_2.size + 1) = False := eq_false (Nat.not_lt.2 c23)
             have H' := Aside0.mk H
             clear H
             have p184 : 0 ≤ (x6_1 : Int) := dT
             have q184 : x6_1 < (t179.length : Int) := dT
             obtain ⟨ad184, A184_0, c184_0, e184, hx184_0, hl184_0, hi184_0⟩ := at_L1 (Kd.S_reads' HO_4.out).2.2 x6_1 p184 q184
             obtain rfl : ad183 = ad184 := (by injection e184)
             obtain ⟨ce184, hce184, hMe184, hcc184⟩ := Kd.S_get HO_4.out [] x6_1 p184 (by first | exact q184 | exact dT | (have e_ := (Kd.S_reads' HO_4.out).1; omega))
             obtain ⟨ve184_0, rfl, ge184_0⟩ := hMe184
             have hv184_0 := hcc184 0 _ rfl
             rw [Nat.add_zero, show ((Kd.slice 3 (Kd.int .i64))).sz = 1 from rfl, Nat.mul_one] at hv184_0
             replace hv184_0 := Option.some.inj (hv184_0.symm.trans hx184_0)
             rw [hv184_0] at ge184_0
             have HL184_0 := Aside0.mk (show Kd.R (Kd.int .i64) 3 _ _ _ _ (rd_L1 t179 x6_1) from ge184_0)
             clear hv184_0 ge184_0
             clear hcc184 hce184
             have HR184_0 := Aside0.mk hi184_0
             have HC184_0 := Aside0.mk hl184_0
             clear hi184_0 hl184_0
             replace p184 := eq_true p184
             replace q184 := eq_true q184
             go_wp2
             go_roundg k2
             case measure => have := HK1.out; have := HK2.out; omega
             case rel => exact ⟨(x3_2 ++ (⟨#[41]⟩ : ByteArray)), (wrap64 (x6_1 + 1)), eS, eS, H', ⟨by have := HK1.out; have := HK2.out; omega⟩, ⟨by (with_reducible repeat (first | apply Kd.S_alloc | apply Kd.S_drewN | apply Kd.S_drew)); exact HO_4.out⟩, ⟨bP HB⟩⟩
            ·rw [if_neg c23] at H
             exact absurd H (by simp)
          ·rw [if_neg c11] at H
           exact absurd H (by simp)
         ·rw [if_neg c10] at H
          exact absurd H (by simp)
      ·rw [if_neg c8] at H
       exact absurd H (by simp)
    ·rw [if_neg c5] at H
     exact absurd H (by simp)
   ·rw [if_neg c4] at H
    have c4b0 : decide (x6_1 < (t179.length : Int)) = false := decide_eq_false c4
    clear c4
    by_cases c24 : t180 = true
    ·subst c24
     have H1 : (if x3_1.toList = ([] : List UInt8) then (some (⟨#[40, 41]⟩ : ByteArray)) else (some x3_1)) = some r := by rw [if_pos rfl] at H; exact H
     clear H
     have H := H1
     clear H1
     by_cases c25 : x3_1.toList = ([] : List UInt8)
     ·rw [if_pos c25] at H
      have c25b0 : (x3_1.toList == ([] : List UInt8)) = true := beq_iff_eq.mpr c25
      have c25b1 : (x3_1.toList != ([] : List UInt8)) = false := bne_eq_false_iff_eq.mpr c25
      clear c25
      obtain rfl := Option.some.inj H
      obtain ⟨Ao26, co26, eo26⟩ := Kd.S_slice HO_4.out
      subst eo26
      go_wp2
      go_ret
      exact ⟨eR, bP HB⟩
     ·rw [if_neg c25] at H
      have c25b0 : (x3_1.toList == ([] : List UInt8)) = false := beq_eq_false_iff_ne.mpr c25
      have c25b1 : (x3_1.toList != ([] : List UInt8)) = true := bne_iff_ne.mpr c25
      obtain rfl := Option.some.inj H
      obtain ⟨Ao27, co27, eo27⟩ := Kd.S_slice HO_4.out
      subst eo27
      go_wp2
      go_ret
      exact ⟨eR, bP HB⟩
    ·replace c24 := Bool.eq_false_iff.mpr c24
     subst c24
     have H1 : (some x3_1) = some r := by rw [if_neg (show ¬ (false = true) by decide)] at H; exact H
     clear H
     have H := H1
     clear H1
     obtain rfl := Option.some.inj H
     obtain ⟨Ao28, co28, eo28⟩ := Kd.S_slice HO_4.out
     subst eo28
     go_wp2
     go_ret
     exact ⟨eR, bP HB⟩

end Go.Proofs.YtieaplnngmgkeaaDoor.F
