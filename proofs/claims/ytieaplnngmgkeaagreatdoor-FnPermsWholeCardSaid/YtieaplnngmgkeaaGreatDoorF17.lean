/- Contracts: what these Go functions return. -/
import Derived.Test.YtieaplnngmgkeaaGreatDoorF0
import Derived.Test.YtieaplnngmgkeaaGreatDoorF1
import Derived.Test.YtieaplnngmgkeaaGreatDoorF2
import Derived.Test.YtieaplnngmgkeaaGreatDoorF6
import Derived.Test.YtieaplnngmgkeaaGreatDoorF16
namespace Go.Proofs.YtieaplnngmgkeaaGreatDoor.F
open Go.RowKit Go.Proofs.YtieaplnngmgkeaaGreatDoorW.PrintWords Go.Proofs.YtieaplnngmgkeaaGreatDoorW.PrintLast Go.Proofs.YtieaplnngmgkeaaGreatDoorW.PrintMore
attribute [local go_sem] max2_int min2_int max_two min_two max_three min_three max_four min_four
set_option linter.unusedVariables false
set_option linter.unusedSimpArgs false

/-! ### impl_PermPower: function 13 -/
mutual
def impl_PermPower.j0 : Nat → List Int → Int → Bool → Option (List Int × Bool)
 | 0, _, _, _ => none
 | k + 1, x0, x1, x18 => if x18 = true then (some (([] : List Int), false)) else (if x1 < 0 then ((impl_back.f k x0).bind fun t222 => ((impl_still.f k (x0.length : Int)).bind fun t225 => (impl_PermPower.l0 k t222 t225 (wrap64 (-x1)) 0))) else ((impl_still.f k (x0.length : Int)).bind fun t231 => (impl_PermPower.l1 k x0 t231 x1 0)))
def impl_PermPower.l0 : Nat → List Int → List Int → Int → Int → Option (List Int × Bool)
 | 0, _, _, _, _ => none
 | k + 1, x6, x7, x29, x30 => if x30 < x29 then ((impl_mul.f k x7 x6).bind fun t228 => (impl_PermPower.l0 k x6 t228 x29 (wrap64 (x30 + 1)))) else (some (x7, true))
def impl_PermPower.l1 : Nat → List Int → List Int → Int → Int → Option (List Int × Bool)
 | 0, _, _, _, _ => none
 | k + 1, x6, x7, x29, x30 => if x30 < x29 then ((impl_mul.f k x7 x6).bind fun t234 => (impl_PermPower.l1 k x6 t234 x29 (wrap64 (x30 + 1)))) else (some (x7, true))
end
def impl_PermPower.f (k : Nat) (l0 : List Int) (a1 : Int) : Option (List Int × Bool) := (impl_PermValid.f l0).bind fun t221 => (if t221 = true then (if a1 < (-1000) then (impl_PermPower.j0 k l0 a1 true) else (impl_PermPower.j0 k l0 a1 (decide (a1 > 1000)))) else (impl_PermPower.j0 k l0 a1 true))
set_option maxHeartbeats 8000000 in
set_option maxRecDepth 100000 in
theorem impl_PermPower.calls (k : Nat) (A0 : Option Addr) (c0 : Nat) (l0 : List Int) (a1 : Int) (r1 : List Int) (r2 : Bool) (w : World) (hr0 : Kd.C (Kd.int .i64) w A0 l0.length l0) (hc0 : l0.length ≤ c0) (h : impl_PermPower.f k l0 a1 = some (r1, r2)) :
 Calls Tryz.prog 13 #[.slice A0 l0.length c0, .int .i64 a1] w fun e w' => ∃ v0_ : Value, e = .returned (.tuple #[v0_, .bool r2]) ∧ Kd.R (Kd.int .i64) 3 w' w.heap.size (fun _ => True) v0_ r1 ∧ Below w.heap.size w w' := by
 have HR0 := Aside0.mk hr0
 have HC0 := Aside0.mk hc0
 clear hr0 hc0
 have HB := Aside0.mk (Below.refl w.heap.size w)
 have H : ((impl_PermValid.f l0).bind fun t221 => (if t221 = true then (if a1 < (-1000) then (impl_PermPower.j0 k l0 a1 true) else (impl_PermPower.j0 k l0 a1 (decide (a1 > 1000)))) else (impl_PermPower.j0 k l0 a1 true))) = some (r1, r2) := h
 clear h
 have HC3 := Aside0.mk H
 clear H
 go_enter Tryz.func13, Tryz.ntmps13
 go_upto_region 1 with (fail)
 go_cut [18] (fun v18 wc => ∃ (kq : Nat) (x18_2 : Bool), v18 = .bool x18_2 ∧ Aside0 (impl_PermPower.j0 kq l0 a1 x18_2 = some (r1, r2)) ∧ Aside0 (kq ≤ k) ∧ Aside0 (Below w.heap.size w wc))
 case first =>
  have H := HC3.out
  clear HC3
  obtain ⟨t221, A40, H⟩ := Option.bind_eq_some_iff.mp H
  have A4 := Aside0.mk A40
  clear A40
  by_cases c5 : t221 = true
  case neg =>
   replace c5 := Bool.eq_false_iff.mpr c5
   subst c5
   rw [iF] at H
   have H' := Aside0.mk H
   clear H
   go_wp2_with (first | ((with_reducible refine gate_callee (f := 4) rfl ?_); refine gL (some 9) Tryz.func4 #[.slice A0 l0.length c0] ?_; (with_reducible refine (impl_PermValid.calls _ _ l0 false _ ?side1 ?side2 A4.out).mono ?_); (case side1 => exact cB HR0 HB); (case side2 => exact HC0.out); rintro e w9 ⟨rfl, hb⟩; refine ⟨_, rfl, ?_⟩; replace HB := bS HB hb; (try clear hb); (try clear hb2); (try clear hk); (try clear hi)))
   go_meet
   case rel => exact ⟨_, (true), eS, H', ⟨by first | omega | exact Nat.le_refl _⟩, ⟨bP HB⟩⟩
  subst c5
  rw [if_pos rfl] at H
  by_cases c6 : a1 < (-1000)
  ·rw [if_pos c6] at H
   have c6b0 : decide (a1 < (-1000)) = true := decide_eq_true c6
   clear c6
   (first | rw [c6b0] | (simp only [i64_w, i32_w]; rw [c6b0]) | skip)
   have H' := Aside0.mk H
   clear H
   go_wp2_with (first | ((with_reducible refine gate_callee (f := 4) rfl ?_); refine gL (some 9) Tryz.func4 #[.slice A0 l0.length c0] ?_; (with_reducible refine (impl_PermValid.calls _ _ l0 true _ ?side1 ?side2 A4.out).mono ?_); (case side1 => exact cB HR0 HB); (case side2 => exact HC0.out); rintro e w7 ⟨rfl, hb⟩; refine ⟨_, rfl, ?_⟩; replace HB := bS HB hb; (try clear hb); (try clear hb2); (try clear hk); (try clear hi)))
   go_meet
   case rel => exact ⟨_, (true), eS, H', ⟨by first | omega | exact Nat.le_refl _⟩, ⟨bP HB⟩⟩
  rw [if_neg c6] at H
  have c6b0 : decide (a1 < (-1000)) = false := decide_eq_false c6
  clear c6
  (first | rw [c6b0] | (simp only [i64_w, i32_w]; rw [c6b0]) | skip)
  have H' := Aside0.mk H
  clear H
  go_wp2_with (first | ((with_reducible refine gate_callee (f := 4) rfl ?_); refine gL (some 9) Tryz.func4 #[.slice A0 l0.length c0] ?_; (with_reducible refine (impl_PermValid.calls _ _ l0 true _ ?side1 ?side2 A4.out).mono ?_); (case side1 => exact cB HR0 HB); (case side2 => exact HC0.out); rintro e w8 ⟨rfl, hb⟩; refine ⟨_, rfl, ?_⟩; replace HB := bS HB hb; (try clear hb); (try clear hb2); (try clear hk); (try clear hi)))
  go_meet
  case rel => exact ⟨_, (decide (a1 > 1000)), eS, H', ⟨by first | omega | exact Nat.le_refl _⟩, ⟨bP HB⟩⟩
 case rest =>
  clear HC3
  try clear c1
  try clear p2
  try clear c4
  try clear c5
  try clear c6
  try clear c6b0
  obtain ⟨kq, x18_2, rfl, HA, HJ2, HB⟩ := hcut
  cases kq with
  | zero => exact absurd HA.out (by simp [impl_PermPower.j0])
  | succ kj2 =>
   have H := HA.out
   clear HA
   simp only [impl_PermPower.j0] at H
   by_cases c10 : x18_2 = true
   ·subst c10
    rw [if_pos rfl] at H
    simp only [Option.some.injEq, Prod.mk.injEq] at H
    obtain ⟨rfl, rfl⟩ := H
    go_wp2
    go_ret2
    exact ⟨_, eR, by first | exact Kd.R_nil _ _ _ _ _ | exact Kd.N_nil _ _ _ _ _ | exact Kd.V_nil _ _ _ _ _ | exact Kd.Q_nil _ _ _ _ _ | exact Kd.S_nil _ _ _ _ _, bP HB⟩
   ·replace c10 := Bool.eq_false_iff.mpr c10
    subst c10
    rw [iF] at H
    by_cases c11 : a1 < 0
    ·rw [if_pos c11] at H
     have c11b0 : decide (a1 < 0) = true := decide_eq_true c11
     clear c11
     obtain ⟨t222, A120, H⟩ := Option.bind_eq_some_iff.mp H
     have A12 := Aside0.mk A120
     clear A120
     obtain ⟨t225, A130, H⟩ := Option.bind_eq_some_iff.mp H
     have A13 := Aside0.mk A130
     clear A130
     have H' := Aside0.mk H
     clear H
     go_wp2_with (first | ((with_reducible refine gate_callee (f := 35) rfl ?_); refine gL (some 23) Tryz.func35 #[.slice A0 l0.length c0] ?_; (with_reducible refine (impl_back.calls kj2 _ _ l0 t222 _ ?side1 ?side2 A12.out).mono ?_); (case side1 => exact cB HR0 HB); (case side2 => exact HC0.out); rintro e w14 ⟨v223, rfl, ho0, hb⟩; refine ⟨_, rfl, ?_⟩; have HO224 := rL ho0 HB; replace HB := bS HB hb; (try clear hb); (try clear hb2); (try clear hk); (try clear hi); (try clear ho0)) | ((with_reducible refine gate_callee (f := 24) rfl ?_); refine gL (some 28) Tryz.func24 #[.int .i64 (l0.length : Int)] ?_; (with_reducible refine (impl_still.calls kj2 (l0.length : Int) t225 _ A13.out).mono ?_); rintro e w15 ⟨v226, rfl, ho0, hb⟩; refine ⟨_, rfl, ?_⟩; have HO227 := Aside0.mk (Kd.R_lower (Kd.R_new' ho0 (Kd.R_lt (rP HO224))) (below_size (bP HB))); replace HO224 := Aside0.mk (Kd.R_elder' (rP HO224) (Kd.R_base ho0) hb); replace HB := bS HB hb; (try clear hb); (try clear hb2); (try clear hk); (try clear hi); (try clear ho0)))
     go_loopg [7, 30] kj2 (fun kq v7 v30 w' => ∃ (x7_2 : List Int) (x30_2 : Int), v30 = .int .i64 x30_2 ∧ Aside0 (impl_PermPower.l0 kq t222 x7_2 (wrap64 (-a1)) x30_2 = some (r1, r2)) ∧ Aside0 (kq ≤ kj2) ∧ Aside0 (Kd.R (Kd.int .i64) 3 w' w.heap.size (fun k_ => some k_ ≠ (v7 : Value).ownBlock) v223 t222) ∧ Aside0 (Kd.R (Kd.int .i64) 3 w' w.heap.size (fun k_ => some k_ ≠ (v223 : Value).ownBlock) v7 x7_2) ∧ Aside0 (Below w.heap.size w w'))
     case atStart => exact ⟨(t225), (0), eS, H', ⟨Nat.le_refl _⟩, ⟨rT (Kd.R_mono HO224.out (fun _ hk => hk.2))⟩, ⟨rT (Kd.R_mono HO227.out (fun _ hk => hk.2))⟩, ⟨bP HB⟩⟩
     case round =>
      clear H'
      try clear c1
      try clear c2
      try clear p2
      try clear c3
      try clear c4
      try clear c5
      try clear c6
      try clear c6b0
      try clear p6
      try clear c10
      try clear c11
      try clear c11b0
      try clear c13
      try clear p2
      obtain ⟨x7_2, x30_2, rfl, HA, HK2, HO_6, HO_7, HB⟩ := hrel
      cases gk with
      | zero => exact absurd HA.out (by simp [impl_PermPower.l0])
      | succ k2 =>
       have H := HA.out
       clear HA
       simp only [impl_PermPower.l0] at H
       by_cases c16 : x30_2 < (wrap64 (-a1))
       case neg =>
        rw [if_neg c16] at H
        have c16b0 : decide (x30_2 < (wrap64 (-a1))) = false := decide_eq_false c16
        clear c16
        simp only [Option.some.injEq, Prod.mk.injEq] at H
        obtain ⟨rfl, rfl⟩ := H
        go_wp2
        go_ret2
        exact ⟨_, eR, rT (Kd.R_mono HO_7.out (fun _ hk => trivial)), bP HB⟩
       rw [if_pos c16] at H
       have c16b0 : decide (x30_2 < (wrap64 (-a1))) = true := decide_eq_true c16
       clear c16
       obtain ⟨t228, A170, H⟩ := Option.bind_eq_some_iff.mp H
       have A17 := Aside0.mk A170
       clear A170
       have H' := Aside0.mk H
       clear H
       obtain ⟨Ao18, co18, eo18⟩ := Kd.R_slice HO_7.out
       subst eo18
       obtain ⟨Ao19, co19, eo19⟩ := Kd.R_slice HO_6.out
       subst eo19
       go_wp2_with (first | ((with_reducible refine gate_callee (f := 18) rfl ?_); refine gL (some 34) Tryz.func18 #[.slice Ao18 x7_2.length co18, .slice Ao19 t222.length co19] ?_; (with_reducible refine (impl_mul.calls k2 _ _ x7_2 _ _ t222 t228 _ ?side1 ?side2 ?side3 ?side4 A17.out).mono ?_); (case side1 => exact cP (Kd.R_reads' HO_7.out).2.2); (case side2 => exact (Kd.R_reads' HO_7.out).2.1); (case side3 => exact cP (Kd.R_reads' HO_6.out).2.2); (case side4 => exact (Kd.R_reads' HO_6.out).2.1); rintro e w20 ⟨v229, rfl, ho0, hb⟩; refine ⟨_, rfl, ?_⟩; have HO230 := Aside0.mk (Kd.R_lower (Kd.R_new' (Kd.R_new' ho0 (Kd.R_lt (rP HO_6))) (Kd.R_lt (rP HO_7))) (below_size (bP HB))); replace HO_6 := Aside0.mk (Kd.R_elder' (rP HO_6) (Kd.R_base ho0) hb); replace HO_7 := Aside0.mk (Kd.R_elder' (rP HO_7) (Kd.R_base ho0) hb); replace HB := bS HB hb; (try clear hb); (try clear hb2); (try clear hk); (try clear hi); (try clear ho0)))
       go_roundg k2
       case measure => have := HJ2.out; have := HK2.out; omega
       case rel => exact ⟨(t228), (wrap64 (x30_2 + 1)), eS, H', ⟨by have := HJ2.out; have := HK2.out; omega⟩, ⟨rT (Kd.R_mono HO_6.out (fun _ hk => hk.2))⟩, ⟨rT (Kd.R_mono HO230.out (fun _ hk => hk.1.2))⟩, ⟨bP HB⟩⟩
    ·rw [if_neg c11] at H
     have c11b0 : decide (a1 < 0) = false := decide_eq_false c11
     clear c11
     obtain ⟨t231, A210, H⟩ := Option.bind_eq_some_iff.mp H
     have A21 := Aside0.mk A210
     clear A210
     have H' := Aside0.mk H
     clear H
     go_wp2_with (first | ((with_reducible refine gate_callee (f := 24) rfl ?_); refine gL (some 28) Tryz.func24 #[.int .i64 (l0.length : Int)] ?_; (with_reducible refine (impl_still.calls kj2 (l0.length : Int) t231 _ A21.out).mono ?_); rintro e w22 ⟨v232, rfl, ho0, hb⟩; refine ⟨_, rfl, ?_⟩; have HO233 := rL ho0 HB; replace HB := bS HB hb; (try clear hb); (try clear hb2); (try clear hk); (try clear hi); (try clear ho0)))
     go_loopg [7, 30] kj2 (fun kq v7 v30 w' => ∃ (x7_2 : List Int) (x30_2 : Int), v30 = .int .i64 x30_2 ∧ Aside0 (impl_PermPower.l1 kq l0 x7_2 a1 x30_2 = some (r1, r2)) ∧ Aside0 (kq ≤ kj2) ∧ Aside0 (Kd.R (Kd.int .i64) 3 w' w.heap.size (fun _ => True) v7 x7_2) ∧ Aside0 (Below w.heap.size w w'))
     case atStart => exact ⟨(t231), (0), eS, H', ⟨Nat.le_refl _⟩, ⟨rP HO233⟩, ⟨bP HB⟩⟩
     case round =>
      clear H'
      try clear c1
      try clear c2
      try clear p2
      try clear c3
      try clear c4
      try clear c5
      try clear c6
      try clear c6b0
      try clear p6
      try clear c10
      try clear c11
      try clear c11b0
      try clear c13
      try clear c16
      try clear c16b0
      try clear c18
      try clear p2
      try clear p6
      obtain ⟨x7_2, x30_2, rfl, HA, HK2, HO_7, HB⟩ := hrel
      cases gk with
      | zero => exact absurd HA.out (by simp [impl_PermPower.l1])
      | succ k2 =>
       have H := HA.out
       clear HA
       simp only [impl_PermPower.l1] at H
       by_cases c23 : x30_2 < a1
       ·rw [if_pos c23] at H
        have c23b0 : decide (x30_2 < a1) = true := decide_eq_true c23
        clear c23
        obtain ⟨t234, A240, H⟩ := Option.bind_eq_some_iff.mp H
        have A24 := Aside0.mk A240
        clear A240
        have H' := Aside0.mk H
        clear H
        obtain ⟨Ao25, co25, eo25⟩ := Kd.R_slice HO_7.out
        subst eo25
        go_wp2_with (first | ((with_reducible refine gate_callee (f := 18) rfl ?_); refine gL (some 34) Tryz.func18 #[.slice Ao25 x7_2.length co25, .slice A0 l0.length c0] ?_; (with_reducible refine (impl_mul.calls k2 _ _ x7_2 _ _ l0 t234 _ ?side1 ?side2 ?side3 ?side4 A24.out).mono ?_); (case side1 => exact cP (Kd.R_reads' HO_7.out).2.2); (case side2 => exact (Kd.R_reads' HO_7.out).2.1); (case side3 => exact cB HR0 HB); (case side4 => exact HC0.out); rintro e w26 ⟨v235, rfl, ho0, hb⟩; refine ⟨_, rfl, ?_⟩; have HO236 := Aside0.mk (Kd.R_lower (Kd.R_new' ho0 (Kd.R_lt (rP HO_7))) (below_size (bP HB))); replace HO_7 := Aside0.mk (Kd.R_elder' (rP HO_7) (Kd.R_base ho0) hb); replace HB := bS HB hb; (try clear hb); (try clear hb2); (try clear hk); (try clear hi); (try clear ho0)))
        go_roundg k2
        case measure => have := HJ2.out; have := HK2.out; omega
        case rel => exact ⟨(t234), (wrap64 (x30_2 + 1)), eS, H', ⟨by have := HJ2.out; have := HK2.out; omega⟩, ⟨rT (Kd.R_mono HO236.out (fun _ hk => trivial))⟩, ⟨bP HB⟩⟩
       ·rw [if_neg c23] at H
        have c23b0 : decide (x30_2 < a1) = false := decide_eq_false c23
        clear c23
        simp only [Option.some.injEq, Prod.mk.injEq] at H
        obtain ⟨rfl, rfl⟩ := H
        go_wp2
        go_ret2
        exact ⟨_, eR, rP HO_7, bP HB⟩

end Go.Proofs.YtieaplnngmgkeaaGreatDoor.F
