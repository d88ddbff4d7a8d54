/- Contracts: what these Go functions return. -/
import Derived.Test.YtieaplnngmgkeaaDoorF0
import Derived.Test.YtieaplnngmgkeaaDoorF6
import Derived.Test.YtieaplnngmgkeaaDoorF10
import Derived.Test.YtieaplnngmgkeaaDoorF12
import Derived.Test.YtieaplnngmgkeaaDoorF13
namespace Go.Proofs.YtieaplnngmgkeaaDoor.F
open Go.RowKit Go.Proofs.YtieaplnngmgkeaaDoorW.PrintWords Go.Proofs.YtieaplnngmgkeaaDoorW.PrintLast Go.Proofs.YtieaplnngmgkeaaDoorW.PrintMore
attribute [local go_sem] max2_int min2_int max_two min_two max_three min_three max_four min_four
set_option linter.unusedVariables false
set_option linter.unusedSimpArgs false

/-! ### spec_PermFrom: function 7 -/
mutual
def spec_PermFrom.l0 : Nat → Int → ByteArray → List Int → List Int → Int → Int → Option (List Int × Bool)
 | 0, _, _, _, _, _, _ => none
 | k + 1, x0, x1, x6, x7, x8, x9 => if x9 < (x7.length : Int) then (if 0 ≤ x9 then (if (rd x7 x9) < 0 then (spec_PermFrom.l0 k x0 x1 x6 x7 (wrap64 (x9 + 1)) (wrap64 (x9 + 1))) else (if (wrap64 (x9 + 1)) < (x7.length : Int) then (if 0 ≤ (wrap64 (x9 + 1)) then (spec_PermFrom.j1 k x0 x1 x6 x7 x8 x9 (rd x7 x9) (decide ((rd x7 (wrap64 (x9 + 1))) ≥ 0))) else (none)) else (spec_PermFrom.j1 k x0 x1 x6 x7 x8 x9 (rd x7 x9) false))) else (none)) else ((spec_PermText.f k x6).bind fun t235 => (if t235.toList = x1.toList then (some (x6, true)) else (some ((([] : List Int)), false))))
def spec_PermFrom.j1 : Nat → Int → ByteArray → List Int → List Int → Int → Int → Int → Bool → Option (List Int × Bool)
 | 0, _, _, _, _, _, _, _, _ => none
 | k + 1, x0, x1, x6, x7, x8, x9, x10, x48 => if x48 = true then (if 0 ≤ (wrap64 (x9 + 1)) then (if (wrap64 (x9 + 1)) < (x7.length : Int) then (spec_PermFrom.j2 k x0 x1 x6 x7 x8 x9 (rd x7 (wrap64 (x9 + 1)))) else (none)) else (none)) else (if x8 ≥ 0 then (if 0 ≤ x8 then (if x8 < (x7.length : Int) then (spec_PermFrom.j2 k x0 x1 x6 x7 x8 x9 (rd x7 x8)) else (none)) else (none)) else (spec_PermFrom.j2 k x0 x1 x6 x7 x8 x9 x10))
def spec_PermFrom.j2 : Nat → Int → ByteArray → List Int → List Int → Int → Int → Int → Option (List Int × Bool)
 | 0, _, _, _, _, _, _, _ => none
 | k + 1, x0, x1, x6, x7, x8, x9, x10 => if 0 ≤ x9 then (if x9 < (x7.length : Int) then ((spec_l6In.f (rd x7 x9) 0 (wrap64 (x0 - 1))).bind fun t245 => (if t245 = true then ((spec_l6In.f x10 0 (wrap64 (x0 - 1))).bind fun t246 => (if t246 = true then (if 0 ≤ (rd x7 x9) then (if (rd x7 x9) < (x6.length : Int) then (spec_PermFrom.l0 k x0 x1 (x6.set ((rd x7 x9) : Int).toNat x10) x7 x8 (wrap64 (x9 + 1))) else (none)) else (none)) else (some ((([] : List Int)), false)))) else (some ((([] : List Int)), false)))) else (none)) else (none)
end
def spec_PermFrom.f (k : Nat) (a0 : Int) (a1 : ByteArray) : Option (List Int × Bool) := (spec_l6In.f a0 1 12).bind fun t225 => (if t225 = true then ((spec_l1Same.f k a0).bind fun t229 => ((spec_l1Read.f k a1).bind fun t232 => (spec_PermFrom.l0 k a0 a1 t229 t232 (-1) 0))) else (some ((([] : List Int)), false)))
set_option maxHeartbeats 8000000 in
set_option maxRecDepth 100000 in
theorem spec_PermFrom.calls (k : Nat) (a0 : Int) (a1 : ByteArray) (r1 : List Int) (r2 : Bool) (w : World) (h : spec_PermFrom.f k a0 a1 = some (r1, r2)) :
 Calls Tryd.prog 7 #[.int .i64 a0, .string a1] w fun e w' => ∃ v0_ : Value, e = .returned (.tuple #[v0_, .bool r2]) ∧ Kd.R (Kd.int .i64) 3 w' w.heap.size (fun _ => True) v0_ r1 ∧ Below w.heap.size w w' := by
 have HB := Aside0.mk (Below.refl w.heap.size w)
 have H : ((spec_l6In.f a0 1 12).bind fun t225 => (if t225 = true then ((spec_l1Same.f k a0).bind fun t229 => ((spec_l1Read.f k a1).bind fun t232 => (spec_PermFrom.l0 k a0 a1 t229 t232 (-1) 0))) else (some ((([] : List Int)), false)))) = some (r1, r2) := h
 clear h
 replace H := Option.bind_eq_some_iff.mp H
 obtain ⟨t225, A30, H⟩ := H
 replace H : (if t225 = true then ((spec_l1Same.f k a0).bind fun t229 => ((spec_l1Read.f k a1).bind fun t232 => (spec_PermFrom.l0 k a0 a1 t229 t232 (-1) 0))) else (some ((([] : List Int)), false))) = some (r1, r2) := H
 have A3 := Aside0.mk A30
 clear A30
 by_cases c4 : t225 = true
 ·subst c4
  have H1 : ((spec_l1Same.f k a0).bind fun t229 => ((spec_l1Read.f k a1).bind fun t232 => (spec_PermFrom.l0 k a0 a1 t229 t232 (-1) 0))) = some (r1, r2) := by rw [if_pos rfl] at H; exact H
  clear H
  have H := H1
  clear H1
  replace H := Option.bind_eq_some_iff.mp H
  obtain ⟨t229, A50, H⟩ := H
  replace H : ((spec_l1Read.f k a1).bind fun t232 => (spec_PermFrom.l0 k a0 a1 t229 t232 (-1) 0)) = some (r1, r2) := H
  have A5 := Aside0.mk A50
  clear A50
  replace H := Option.bind_eq_some_iff.mp H
  obtain ⟨t232, A60, H⟩ := H
  replace H : (spec_PermFrom.l0 k a0 a1 t229 t232 (-1) 0) = some (r1, r2) := H
  have A6 := Aside0.mk A60
  clear A60
  have H' := Aside0.mk H
  clear H
  go_enter Tryd.func7, Tryd.ntmps7
  go_wp2_with (first | ((with_reducible refine gate_callee (f := 19) rfl ?_); refine gL (some 12) Tryd.func19 #[.int .i64 a0, .int .i64 1, .int .i64 12] ?_; (with_reducible refine (spec_l6In.calls a0 1 12 true _ A3.out).mono ?_); rintro e w' ⟨rfl, ⟨nd, rfl⟩⟩; refine ⟨_, rfl, ?_⟩) | ((with_reducible refine gate_callee (f := 20) rfl ?_); refine gL (some 16) Tryd.func20 #[.int .i64 a0] ?_; (with_reducible refine (spec_l1Same.calls k a0 t229 _ A5.out).mono ?_); rintro e w7 ⟨v230, rfl, ho0, hb⟩; refine ⟨_, rfl, ?_⟩; have HO231 := rL ho0 HB; replace HB := bS HB hb; (try clear hb); (try clear hb2); (try clear hk); (try clear hi); (try clear ho0)) | ((with_reducible refine gate_callee (f := 21) rfl ?_); refine gL (some 18) Tryd.func21 #[.string a1] ?_; (with_reducible refine (spec_l1Read.calls k a1 t232 _ A6.out).mono ?_); rintro e w8 ⟨v233, rfl, ho0, hb⟩; refine ⟨_, rfl, ?_⟩; have HO234 := Aside0.mk (Kd.R_lower (Kd.R_new' ho0 (Kd.R_lt (rP HO231))) (below_size (bP HB))); replace HO231 := Aside0.mk (Kd.R_elder' (rP HO231) (Kd.R_base ho0) hb); replace HB := bS HB hb; (try clear hb); (try clear hb2); (try clear hk); (try clear hi); (try clear ho0)))
  go_loopg [8, 9] k (fun kq v8 v9 w' => ∃ (x6_1 : List Int) (x8_1 : Int) (x9_1 : Int), v8 = .int .i64 x8_1 ∧ v9 = .int .i64 x9_1 ∧ Aside0 (spec_PermFrom.l0 kq a0 a1 x6_1 t232 x8_1 x9_1 = some (r1, r2)) ∧ Aside0 (kq ≤ k) ∧ Aside0 (Kd.R (Kd.int .i64) 3 w' w.heap.size (fun k_ => some k_ ≠ (v233 : Value).ownBlock) v230 x6_1) ∧ Aside0 (Kd.R (Kd.int .i64) 3 w' w.heap.size (fun k_ => some k_ ≠ (v230 : Value).ownBlock) v233 t232) ∧ Aside0 (Below w.heap.size w w'))
  case atStart => exact ⟨(t229), ((-1)), (0), eS, eS, H', ⟨Nat.le_refl _⟩, ⟨by (with_reducible repeat (first | apply Kd.R_alloc | apply Kd.R_drewN | apply Kd.R_drew)); exact Kd.R_mono HO231.out (fun _ hk => hk.2)⟩, ⟨by (with_reducible repeat (first | apply Kd.R_alloc | apply Kd.R_drewN | apply Kd.R_drew)); exact Kd.R_mono HO234.out (fun _ hk => hk.2)⟩, ⟨bP HB⟩⟩
  case round =>
   clear H'
   try clear c1
   try clear c2
   try clear p2
   try clear c4
   try clear c7
   obtain ⟨x6_1, x8_1, x9_1, rfl, rfl, HA, HK1, HO_6, HO_7, HB⟩ := hrel
   cases gk with
   | zero => exact absurd HA.out (by simp [spec_PermFrom.l0])
   | succ k1 =>
    have H := HA.out
    clear HA
    simp only [spec_PermFrom.l0] at H
    by_cases c9 : x9_1 < (t232.length : Int)
    ·rw [if_pos c9] at H
     have c9b0 : decide (x9_1 < (t232.length : Int)) = true := decide_eq_true c9
     clear c9
     by_cases c10 : 0 ≤ x9_1
     ·rw [if_pos c10] at H
      have c10b0 : decide (0 ≤ x9_1) = true := decide_eq_true c10
      clear c10
      by_cases c11 : (rd t232 x9_1) < 0
      ·rw [if_pos c11] at H
       have c11b0 : decide ((rd t232 x9_1) < 0) = true := decide_eq_true c11
       clear c11
       have H' := Aside0.mk H
       clear H
       obtain ⟨Ao12, co12, eo12⟩ := Kd.R_slice HO_7.out
       subst eo12
       have p239 : 0 ≤ (x9_1 : Int) := dT
       have q239 : x9_1 < (t232.length : Int) := dT
       obtain ⟨ad239, e239, hx239_0⟩ := Kd.at_int (Kd.R_reads' HO_7.out).2.2 x9_1 p239 q239
       cases e239
       replace p239 := eq_true p239
       replace q239 := eq_true q239
       go_wp2
       go_roundg k1
       case measure => have := HK1.out; omega
       case rel => exact ⟨(x6_1), (wrap64 (x9_1 + 1)), (wrap64 (x9_1 + 1)), eS, eS, H', ⟨by have := HK1.out; omega⟩, ⟨rP HO_6⟩, ⟨rP HO_7⟩, ⟨bP HB⟩⟩
      ·rw [if_neg c11] at H
       have c11b0 : decide ((rd t232 x9_1) < 0) = false := decide_eq_false c11
       clear c11
       have HC13 := Aside0.mk H
       clear H
       obtain ⟨Ao14, co14, eo14⟩ := Kd.R_slice HO_7.out
       subst eo14
       have p239 : 0 ≤ (x9_1 : Int) := dT
       have q239 : x9_1 < (t232.length : Int) := dT
       obtain ⟨ad239, e239, hx239_0⟩ := Kd.at_int (Kd.R_reads' HO_7.out).2.2 x9_1 p239 q239
       cases e239
       replace p239 := eq_true p239
       replace q239 := eq_true q239
       have p240 : 0 ≤ (x9_1 : Int) := dT
       have q240 : x9_1 < (t232.length : Int) := dT
       obtain ⟨ad240, e240, hx240_0⟩ := Kd.at_int (Kd.R_reads' HO_7.out).2.2 x9_1 p240 q240
       obtain rfl : ad239 = ad240 := (by injection e240)
       replace p240 := eq_true p240
       replace q240 := eq_true q240
       go_upto_region 12 with (fail)
       go_cut [48] (fun v48 wc => ∃ (kq : Nat) (x48_12 : Bool), v48 = .bool x48_12 ∧ Aside0 (spec_PermFrom.j1 kq a0 a1 x6_1 t232 x8_1 x9_1 (rd t232 x9_1) x48_12 = some (r1, r2)) ∧ Aside0 (kq ≤ k1) ∧ Aside0 (Kd.R (Kd.int .i64) 3 wc w.heap.size (fun k_ => some k_ ≠ ((.slice (some ad239) t232.length co14) : Value).ownBlock) v230 x6_1) ∧ Aside0 (Kd.R (Kd.int .i64) 3 wc w.heap.size (fun k_ => some k_ ≠ (v230 : Value).ownBlock) (.slice (some ad239) t232.length co14) t232) ∧ Aside0 (Below w.heap.size w wc))
       case first =>
        have H := HC13.out
        clear HC13
        by_cases c15 : (wrap64 (x9_1 + 1)) < (t232.length : Int)
        ·rw [if_pos c15] at H
         have c15b0 : decide ((wrap64 (x9_1 + 1)) < (t232.length : Int)) = true := decide_eq_true c15
         clear c15
         (first | rw [c15b0] | (simp only [i64_w, i32_w]; rw [c15b0]) | skip)
         obtain ⟨ji16, hji16⟩ : ∃ j_ : Int, (wrap64 (x9_1 + 1)) = j_ := ⟨_, rfl⟩
         replace H : (if 0 ≤ (ji16) then (spec_PermFrom.j1 k1 a0 a1 x6_1 t232 x8_1 x9_1 (rd t232 x9_1) (decide ((rd t232 (ji16)) ≥ 0))) else (none)) = some (r1, r2) := by first | (rw [hji16] at H; exact H) | (simp only [hji16] at H ⊢; exact H)
         (try rw [hji16] at c15b0)
         have hji16w : (IntKind.i64.wrap (x9_1 + 1)) = ji16 := (i64_w _).trans hji16
         by_cases c17 : 0 ≤ (ji16)
         ·rw [if_pos c17] at H
          have c17b0 : decide (0 ≤ (ji16)) = true := decide_eq_true c17
          clear c17
          have H' := Aside0.mk H
          clear H
          have p241 : 0 ≤ ((ji16) : Int) := dT
          have q241 : (ji16) < (t232.length : Int) := dT
          obtain ⟨ad241, e241, hx241_0⟩ := Kd.at_int (Kd.R_reads' HO_7.out).2.2 (ji16) p241 q241
          obtain rfl : ad239 = ad241 := (by injection e241)
          replace p241 := eq_true p241
          replace q241 := eq_true q241
          go_wp2
          go_meet
          case rel => exact ⟨_, (decide ((rd t232 (ji16)) ≥ 0)), (by first | rfl | (simp; done) | (simp only [← hji16] <;> (first | rfl | simp)) | (simp [*]; done)), H', ⟨by have := HK1.out; first | omega | exact Nat.le_refl _⟩, ⟨rP HO_6⟩, ⟨rP HO_7⟩, ⟨bP HB⟩⟩
         ·rw [if_neg c17] at H
          exact absurd H (by simp)
        ·rw [if_neg c15] at H
         have c15b0 : decide ((wrap64 (x9_1 + 1)) < (t232.length : Int)) = false := decide_eq_false c15
         clear c15
         (first | rw [c15b0] | (simp only [i64_w, i32_w]; rw [c15b0]) | skip)
         have H' := Aside0.mk H
         clear H
         go_wp2
         go_meet
         case rel => exact ⟨_, (false), eS, H', ⟨by have := HK1.out; first | omega | exact Nat.le_refl _⟩, ⟨rP HO_6⟩, ⟨rP HO_7⟩, ⟨bP HB⟩⟩
       case rest =>
        clear HC13
        try clear c1
        try clear c2
        try clear p2
        try clear q2
        try clear hx2
        try clear c4
        try clear p6
        try clear c7
        try clear c9
        try clear c9b0
        try clear c10
        try clear c10b0
        try clear c11
        try clear c11b0
        try clear c15
        try clear c15b0
        try clear c17
        try clear c17b0
        try clear hx239_0
        try clear hx240_0
        try clear hx241_0
        try clear p2
        try clear p239
        try clear p240
        try clear p241
        try clear q239
        try clear q240
        try clear q241
        obtain ⟨kq, x48_12, rfl, HA, HJ12, HO_6, HO_7, HB⟩ := hcut
        cases kq with
        | zero => exact absurd HA.out (by simp [spec_PermFrom.j1])
        | succ kj12 =>
         have H := HA.out
         clear HA
         simp only [spec_PermFrom.j1] at H
         have HC18 := Aside0.mk H
         clear H
         go_upto_if 48 with (fail)
         go_cut [10] (fun v10 wc => ∃ (kq : Nat) (x10_17 : Int), v10 = .int .i64 x10_17 ∧ Aside0 (spec_PermFrom.j2 kq a0 a1 x6_1 t232 x8_1 x9_1 x10_17 = some (r1, r2)) ∧ Aside0 (kq ≤ kj12) ∧ Aside0 (Kd.R (Kd.int .i64) 3 wc w.heap.size (fun k_ => some k_ ≠ ((.slice (some ad239) t232.length co14) : Value).ownBlock) v230 x6_1) ∧ Aside0 (Kd.R (Kd.int .i64) 3 wc w.heap.size (fun k_ => some k_ ≠ (v230 : Value).ownBlock) (.slice (some ad239) t232.length co14) t232) ∧ Aside0 (Below w.heap.size w wc))
         case first =>
          have H := HC18.out
          clear HC18
          by_cases c19 : x48_12 = true
          ·subst c19
           have H1 : (if 0 ≤ (wrap64 (x9_1 + 1)) then (if (wrap64 (x9_1 + 1)) < (t232.length : Int) then (spec_PermFrom.j2 kj12 a0 a1 x6_1 t232 x8_1 x9_1 (rd t232 (wrap64 (x9_1 + 1)))) else (none)) else (none)) = some (r1, r2) := by rw [if_pos rfl] at H; exact H
           clear H
           have H := H1
           clear H1
           obtain ⟨ji20, hji20⟩ : ∃ j_ : Int, (wrap64 (x9_1 + 1)) = j_ := ⟨_, rfl⟩
           replace H : (if 0 ≤ (ji20) then (if (ji20) < (t232.length : Int) then (spec_PermFrom.j2 kj12 a0 a1 x6_1 t232 x8_1 x9_1 (rd t232 (ji20))) else (none)) else (none)) = some (r1, r2) := by first | (rw [hji20] at H; exact H) | (simp only [hji20] at H ⊢; exact H)
           have hji20w : (IntKind.i64.wrap (x9_1 + 1)) = ji20 := (i64_w _).trans hji20
           by_cases c21 : 0 ≤ (ji20)
           ·rw [if_pos c21] at H
            have c21b0 : decide (0 ≤ (ji20)) = true := decide_eq_true c21
            clear c21
            (first | rw [c21b0] | (simp only [i64_w, i32_w]; rw [c21b0]) | skip)
            by_cases c22 : (ji20) < (t232.length : Int)
            ·rw [if_pos c22] at H
             have c22b0 : decide ((ji20) < (t232.length : Int)) = true := decide_eq_true c22
             clear c22
             have H' := Aside0.mk H
             clear H
             have p242 : 0 ≤ ((ji20) : Int) := dT
             have q242 : (ji20) < (t232.length : Int) := dT
             obtain ⟨ad242, e242, hx242_0⟩ := Kd.at_int (Kd.R_reads' HO_7.out).2.2 (ji20) p242 q242
             obtain rfl : ad239 = ad242 := (by injection e242)
             replace p242 := eq_true p242
             replace q242 := eq_true q242
             go_wp2
             go_meet
             case rel => exact ⟨_, (rd t232 (ji20)), (by first | rfl | (simp; done) | (simp only [← hji20] <;> (first | rfl | simp)) | (simp [*]; done)), H', ⟨by have := HK1.out; have := HJ12.out; first | omega | exact Nat.le_refl _⟩, ⟨rP HO_6⟩, ⟨rP HO_7⟩, ⟨bP HB⟩⟩
            ·rw [if_neg c22] at H
             exact absurd H (by simp)
           ·rw [if_neg c21] at H
            exact absurd H (by simp)
          ·replace c19 := Bool.eq_false_iff.mpr c19
           subst c19
           have H1 : (if x8_1 ≥ 0 then (if 0 ≤ x8_1 then (if x8_1 < (t232.length : Int) then (spec_PermFrom.j2 kj12 a0 a1 x6_1 t232 x8_1 x9_1 (rd t232 x8_1)) else (none)) else (none)) else (spec_PermFrom.j2 kj12 a0 a1 x6_1 t232 x8_1 x9_1 (rd t232 x9_1))) = some (r1, r2) := by rw [if_neg (show ¬ (false = true) by decide)] at H; exact H
           clear H
           have H := H1
           clear H1
           by_cases c23 : x8_1 ≥ 0
           ·rw [if_pos c23] at H
            have c23b0 : decide (0 ≤ x8_1) = true := decide_eq_true c23
            clear c23
            by_cases c24 : 0 ≤ x8_1
            ·rw [if_pos c24] at H
             have c24b0 : decide (0 ≤ x8_1) = true := decide_eq_true c24
             clear c24
             by_cases c25 : x8_1 < (t232.length : Int)
             ·rw [if_pos c25] at H
              have c25b0 : decide (x8_1 < (t232.length : Int)) = true := decide_eq_true c25
              clear c25
              have H' := Aside0.mk H
              clear H
              have p243 : 0 ≤ (x8_1 : Int) := dT
              have q243 : x8_1 < (t232.length : Int) := dT
              obtain ⟨ad243, e243, hx243_0⟩ := Kd.at_int (Kd.R_reads' HO_7.out).2.2 x8_1 p243 q243
              obtain rfl : ad239 = ad243 := (by injection e243)
              replace p243 := eq_true p243
              replace q243 := eq_true q243
              go_wp2
              go_meet
              case rel => exact ⟨_, (rd t232 x8_1), eS, H', ⟨by have := HK1.out; have := HJ12.out; first | omega | exact Nat.le_refl _⟩, ⟨rP HO_6⟩, ⟨rP HO_7⟩, ⟨bP HB⟩⟩
             ·rw [if_neg c25] at H
              exact absurd H (by simp)
            ·rw [if_neg c24] at H
             exact absurd H (by simp)
           ·rw [if_neg c23] at H
            have c23b0 : decide (0 ≤ x8_1) = false := decide_eq_false c23
            clear c23
            have H' := Aside0.mk H
            clear H
            go_wp2
            go_meet
            case rel => exact ⟨_, ((rd t232 x9_1)), eS, H', ⟨by have := HK1.out; have := HJ12.out; first | omega | exact Nat.le_refl _⟩, ⟨rP HO_6⟩, ⟨rP HO_7⟩, ⟨bP HB⟩⟩
         case rest =>
          clear HC18
          try clear c1
          try clear c2
          try clear p2
          try clear q2
          try clear hx2
          try clear c4
          try clear p6
          try clear c7
          try clear c9
          try clear c9b0
          try clear c10
          try clear c10b0
          try clear c11
          try clear c11b0
          try clear c15
          try clear c15b0
          try clear c17
          try clear c17b0
          try clear c19
          try clear c20
          try clear c21
          try clear c21b0
          try clear c22
          try clear c22b0
          try clear c23
          try clear c23b0
          try clear p23
          try clear q23
          try clear hx23
          try clear c24
          try clear c24b0
          try clear p24
          try clear q24
          try clear hx24
          try clear c25
          try clear c25b0
          try clear hx239_0
          try clear hx240_0
          try clear hx241_0
          try clear hx242_0
          try clear hx243_0
          try clear p2
          try clear p239
          try clear p240
          try clear p241
          try clear p242
          try clear p243
          try clear p6
          try clear q2
          try clear q239
          try clear q240
          try clear q241
          try clear q242
          try clear q243
          obtain ⟨kq, x10_17, rfl, HA, HJ17, HO_6, HO_7, HB⟩ := hcut
          cases kq with
          | zero => exact absurd HA.out (by simp [spec_PermFrom.j2])
          | succ kj17 =>
           have H := HA.out
           clear HA
           simp only [spec_PermFrom.j2] at H
           by_cases c26 : 0 ≤ x9_1
           ·rw [if_pos c26] at H
            have c26b0 : decide (0 ≤ x9_1) = true := decide_eq_true c26
            clear c26
            by_cases c27 : x9_1 < (t232.length : Int)
            ·rw [if_pos c27] at H
             have c27b0 : decide (x9_1 < (t232.length : Int)) = true := decide_eq_true c27
             clear c27
             replace H := Option.bind_eq_some_iff.mp H
             obtain ⟨t245, A280, H⟩ := H
             replace H : (if t245 = true then ((spec_l6In.f x10_17 0 (wrap64 (a0 - 1))).bind fun t246 => (if t246 = true then (if 0 ≤ (rd t232 x9_1) then (if (rd t232 x9_1) < (x6_1.length : Int) then (spec_PermFrom.l0 kj17 a0 a1 (x6_1.set ((rd t232 x9_1) : Int).toNat x10_17) t232 x8_1 (wrap64 (x9_1 + 1))) else (none)) else (none)) else (some ((([] : List Int)), false)))) else (some ((([] : List Int)), false))) = some (r1, r2) := H
             have A28 := Aside0.mk A280
             clear A280
             by_cases c29 : t245 = true
             ·subst c29
              have H1 : ((spec_l6In.f x10_17 0 (wrap64 (a0 - 1))).bind fun t246 => (if t246 = true then (if 0 ≤ (rd t232 x9_1) then (if (rd t232 x9_1) < (x6_1.length : Int) then (spec_PermFrom.l0 kj17 a0 a1 (x6_1.set ((rd t232 x9_1) : Int).toNat x10_17) t232 x8_1 (wrap64 (x9_1 + 1))) else (none)) else (none)) else (some ((([] : List Int)), false)))) = some (r1, r2) := by rw [if_pos rfl] at H; exact H
              clear H
              have H := H1
              clear H1
              replace H := Option.bind_eq_some_iff.mp H
              obtain ⟨t246, A300, H⟩ := H
              replace H : (if t246 = true then (if 0 ≤ (rd t232 x9_1) then (if (rd t232 x9_1) < (x6_1.length : Int) then (spec_PermFrom.l0 kj17 a0 a1 (x6_1.set ((rd t232 x9_1) : Int).toNat x10_17) t232 x8_1 (wrap64 (x9_1 + 1))) else (none)) else (none)) else (some ((([] : List Int)), false))) = some (r1, r2) := H
              have A30 := Aside0.mk A300
              clear A300
              by_cases c31 : t246 = true
              ·subst c31
               have H1 : (if 0 ≤ (rd t232 x9_1) then (if (rd t232 x9_1) < (x6_1.length : Int) then (spec_PermFrom.l0 kj17 a0 a1 (x6_1.set ((rd t232 x9_1) : Int).toNat x10_17) t232 x8_1 (wrap64 (x9_1 + 1))) else (none)) else (none)) = some (r1, r2) := by rw [if_pos rfl] at H; exact H
               clear H
               have H := H1
               clear H1
               by_cases c32 : 0 ≤ (rd t232 x9_1)
               ·rw [if_pos c32] at H
                have c32b0 : decide (0 ≤ (rd t232 x9_1)) = true := decide_eq_true c32
                clear c32
                by_cases c33 : (rd t232 x9_1) < (x6_1.length : Int)
                ·rw [if_pos c33] at H
                 have c33b0 : decide ((rd t232 x9_1) < (x6_1.length : Int)) = true := decide_eq_true c33
                 clear c33
                 obtain ⟨y248, hy248⟩ : ∃ y_ : List Int, y_ = (x6_1.set ((rd t232 x9_1) : Int).toNat x10_17) := ⟨_, rfl⟩
                 replace H : (spec_PermFrom.l0 kj17 a0 a1 y248 t232 x8_1 (wrap64 (x9_1 + 1))) = some (r1, r2) := by first | (rw [hy248]; with_reducible exact H) | (have H2_ := (Option.bind_some _ _).symm.trans H; rw [hy248]; with_reducible exact H2_) | (have H2_ := (Option.bind_some _ _).symm.trans H; with_reducible exact H2_) | with_reducible exact H | (rw [hy248]; exact H) | exact H
                 have Ny248 := Aside0.mk hy248
                 clear hy248
                 have H' := Aside0.mk H
                 clear H
                 have p244 : 0 ≤ (x9_1 : Int) := dT
                 have q244 : x9_1 < (t232.length : Int) := dT
                 obtain ⟨ad244, e244, hx244_0⟩ := Kd.at_int (Kd.R_reads' HO_7.out).2.2 x9_1 p244 q244
                 obtain rfl : ad239 = ad244 := (by injection e244)
                 replace p244 := eq_true p244
                 replace q244 := eq_true q244
                 go_wp2_with (first | ((with_reducible refine gate_callee (f := 19) rfl ?_); refine gL (some 66) Tryd.func19 #[.int .i64 (rd t232 x9_1), .int .i64 0, .int .i64 (wrap64 (a0 - 1))] ?_; (with_reducible refine (spec_l6In.calls (rd t232 x9_1) 0 (wrap64 (a0 - 1)) true _ A28.out).mono ?_); rintro e w' ⟨rfl, ⟨nd, rfl⟩⟩; refine ⟨_, rfl, ?_⟩; (try (rw [drewN_self wc]; generalize hq_ : World.drewN wc _ = wc; have n0_ : Aside0 (Kd.R (Kd.int .i64) 3 wc w.heap.size (fun k_ => some k_ ≠ (.slice (some ad239) t232.length co14 : Value).ownBlock) v230 x6_1) := ⟨by rw [← hq_]; exact (rP HO_6)⟩; have n1_ : Aside0 (Kd.R (Kd.int .i64) 3 wc w.heap.size (fun k_ => some k_ ≠ (v230 : Value).ownBlock) (.slice (some ad239) t232.length co14) t232) := ⟨by rw [← hq_]; exact (rP HO_7)⟩; have n2_ : Aside0 (Below w.heap.size w wc) := ⟨by rw [← hq_]; exact (bP HB)⟩; clear HO_6 HO_7 HB hq_; have HO_6 := n0_; have HO_7 := n1_; have HB := n2_; clear n0_ n1_ n2_))) | (go_at_call 19; (with_reducible refine (spec_l6In.calls x10_17 0 (wrap64 (a0 - 1)) true _ A30.out).mono ?_); rintro e w' ⟨rfl, ⟨nd, rfl⟩⟩; (try (rw [drewN_self wc]; generalize hq_ : World.drewN wc _ = wc; have n0_ : Aside0 (Kd.R (Kd.int .i64) 3 wc w.heap.size (fun k_ => some k_ ≠ (.slice (some ad239) t232.length co14 : Value).ownBlock) v230 x6_1) := ⟨by rw [← hq_]; exact (rP HO_6)⟩; have n1_ : Aside0 (Kd.R (Kd.int .i64) 3 wc w.heap.size (fun k_ => some k_ ≠ (v230 : Value).ownBlock) (.slice (some ad239) t232.length co14) t232) := ⟨by rw [← hq_]; exact (rP HO_7)⟩; have n2_ : Aside0 (Below w.heap.size w wc) := ⟨by rw [← hq_]; exact (bP HB)⟩; clear HO_6 HO_7 HB hq_; have HO_6 := n0_; have HO_7 := n1_; have HB := n2_; clear n0_ n1_ n2_)); have p247 : 0 ≤ (x9_1 : Int) := dT; have q247 : x9_1 < (t232.length : Int) := dT; obtain ⟨ad247, e247, hx247_0⟩ := Kd.at_int (Kd.R_reads' HO_7.out).2.2 x9_1 p247 q247; obtain rfl : ad239 = ad247 := (by injection e247); replace p247 := eq_true p247; replace q247 := eq_true q247; have p34 : 0 ≤ ((rd t232 x9_1) : Int) := dT; have q34 : ((rd t232 x9_1) : Int) < ((x6_1.length : Int) : Int) := dT; obtain ⟨go34, co34, eo34, gb34, gl34, cl34, HG34⟩ := Kd.R_form HO_6.out (by omega); (first | cases eo34 | (injection eo34 with ea_ en_ ec_; (first | subst ea_ | (injection ea_ with ea_; subst ea_)); subst ec_; clear en_)); have GB34 := Aside0.mk gb34; have GG34 := Aside0.mk HG34; clear gb34 gl34 HG34; obtain ⟨hx34_0, hf34_0⟩ := Kd.R_celln 0 HO_6.out ((rd t232 x9_1) : Int) p34 q34; replace p34 := eq_true p34; replace q34 := eq_true q34; obtain ⟨hy35_, hz35_⟩ := Kd.R_celln 0 HO_6.out ((rd t232 x9_1) : Int) (dT) (dT); have HP35 := Kd.R_putg HO_6.out ((rd t232 x9_1) : Int) x10_17) | ((with_reducible refine gate_store (t := 3) (p := 82) rfl ?_); refine store_event (t := 3) (p := 82) (v := ?vo_w36) (w1 := (wc.setCell ⟨go34, ((rd t232 x9_1) : Int).toNat, none⟩ (.int .i64 x10_17))) ?hg ?ho ?hn ?hr ?_; (case ho => rfl); (case hg => rfl); (case hn => rfl); (case hr => first | (go_simp; done) | (go_simp; rfl)); intro w36 hw; have hg : wc.grownBy w36 (some go34) := (by rw [hw]; exact HP35.2); have hp_ : Kd.R (Kd.int .i64) 3 w36 w.heap.size (fun k_ => some k_ ≠ (.slice (some ad239) t232.length co14 : Value).ownBlock) (.slice (some ⟨go34, 0, none⟩) x6_1.length co34) y248 := (by rw [hw, Ny248.out]; exact HP35.1); clear HP35; replace HO_6 := Aside0.mk (hp_); replace HO_7 := Aside0.mk (Kd.R_after (v := (.slice (some ⟨go34, 0, none⟩) x6_1.length co34)) (v1 := (.slice (some ⟨go34, 0, none⟩) x6_1.length co34)) (ok := (fun _ => True)) (by (with_reducible repeat (first | apply Kd.R_alloc | apply Kd.R_drewN | apply Kd.R_drew)); exact Kd.R_mono HO_7.out (fun _ hk => ⟨trivial, hk⟩)) hg (.inl rfl)); replace HB := Aside0.mk ((by rw [hw]; exact below_set (HB.out) GB34.out : Below w.heap.size w w36)); clear hg hw hp_))
                 go_roundg kj17
                 case measure => have := HK1.out; have := HJ12.out; have := HJ17.out; omega
                 case rel => exact ⟨(y248), (x8_1), (wrap64 (x9_1 + 1)), eS, eS, H', ⟨by have := HK1.out; have := HJ12.out; have := HJ17.out; omega⟩, ⟨rP HO_6⟩, ⟨by (with_reducible repeat (first | apply Kd.R_alloc | apply Kd.R_drewN | apply Kd.R_drew)); exact Kd.R_mono HO_7.out (fun _ hk => hk.2)⟩, ⟨bP HB⟩⟩
                ·rw [if_neg c33] at H
                 exact absurd H (by simp)
               ·rw [if_neg c32] at H
                exact absurd H (by simp)
              ·replace c31 := Bool.eq_false_iff.mpr c31
               subst c31
               have H1 : (some ((([] : List Int)), false)) = some (r1, r2) := by rw [if_neg (show ¬ (false = true) by decide)] at H; exact H
               clear H
               have H := H1
               clear H1
               obtain ⟨y249, hy249⟩ : ∃ y_ : List Int, y_ = (([] : List Int)) := ⟨_, rfl⟩
               replace H : (some (y249, false)) = some (r1, r2) := by first | (rw [hy249]; with_reducible exact H) | (have H2_ := (Option.bind_some _ _).symm.trans H; rw [hy249]; with_reducible exact H2_) | (have H2_ := (Option.bind_some _ _).symm.trans H; with_reducible exact H2_) | with_reducible exact H | (rw [hy249]; exact H) | exact H
               have Ny249 := Aside0.mk hy249
               clear hy249
               simp only [Option.some.injEq, Prod.mk.injEq] at H
               obtain ⟨rfl, rfl⟩ := H
               have p244 : 0 ≤ (x9_1 : Int) := dT
               have q244 : x9_1 < (t232.length : Int) := dT
               obtain ⟨ad244, e244, hx244_0⟩ := Kd.at_int (Kd.R_reads' HO_7.out).2.2 x9_1 p244 q244
               obtain rfl : ad239 = ad244 := (by injection e244)
               replace p244 := eq_true p244
               replace q244 := eq_true q244
               go_wp2_with (first | ((with_reducible refine gate_callee (f := 19) rfl ?_); refine gL (some 66) Tryd.func19 #[.int .i64 (rd t232 x9_1), .int .i64 0, .int .i64 (wrap64 (a0 - 1))] ?_; (with_reducible refine (spec_l6In.calls (rd t232 x9_1) 0 (wrap64 (a0 - 1)) true _ A28.out).mono ?_); rintro e w' ⟨rfl, ⟨nd, rfl⟩⟩; refine ⟨_, rfl, ?_⟩) | (go_at_call 19; (with_reducible refine (spec_l6In.calls x10_17 0 (wrap64 (a0 - 1)) false _ A30.out).mono ?_); rintro e w' ⟨rfl, ⟨nd, rfl⟩⟩) | ((with_reducible refine gate_dst (N := 75) rfl ?_); refine Kd.R_lit (Kd.int .i64) _ 3 ?hg (N := 75) ?hd (xs := ([] : List Int)) (inner := []) (ok := fun _ => True) (okp := fun _ => True) ?hr ?hp (fun _ hk => hk) trivial (Below.refl _ _) (Nat.le_refl _) (by simp) ?_; (case hd => rfl); (case hg => rfl); (case hr => first | (go_simp; done) | (go_simp; rfl)); (case hp => exact (Reps.none _ _)); intro v250 w37 ho38 hb hg_ hnew_; clear hg_ hnew_; (first | rw [← Ny249.out] at ho38 | (simp only [Int.reduceToNat] at ho38; rw [← Ny249.out] at ho38)); have HO251 := Aside0.mk (Kd.R_lower (Kd.R_new' (Kd.R_new' ho38 (Kd.R_lt (rP HO_6))) (Kd.R_lt (rP HO_7))) (below_size (bP HB))); replace HO_6 := Aside0.mk (Kd.R_elder' (rP HO_6) (Kd.R_base ho38) hb); replace HO_7 := Aside0.mk (Kd.R_elder' (rP HO_7) (Kd.R_base ho38) hb); replace HB := bS HB hb; clear hb ho38))
               go_ret2
               exact ⟨_, eR, by (with_reducible repeat (first | apply Kd.R_alloc | apply Kd.R_drewN | apply Kd.R_drew)); exact Kd.R_mono HO251.out (fun _ hk => trivial), bP HB⟩
             ·replace c29 := Bool.eq_false_iff.mpr c29
              subst c29
              have H1 : (some ((([] : List Int)), false)) = some (r1, r2) := by rw [if_neg (show ¬ (false = true) by decide)] at H; exact H
              clear H
              have H := H1
              clear H1
              obtain ⟨y252, hy252⟩ : ∃ y_ : List Int, y_ = (([] : List Int)) := ⟨_, rfl⟩
              replace H : (some (y252, false)) = some (r1, r2) := by first | (rw [hy252]; with_reducible exact H) | (have H2_ := (Option.bind_some _ _).symm.trans H; rw [hy252]; with_reducible exact H2_) | (have H2_ := (Option.bind_some _ _).symm.trans H; with_reducible exact H2_) | with_reducible exact H | (rw [hy252]; exact H) | exact H
              have Ny252 := Aside0.mk hy252
              clear hy252
              simp only [Option.some.injEq, Prod.mk.injEq] at H
              obtain ⟨rfl, rfl⟩ := H
              have p244 : 0 ≤ (x9_1 : Int) := dT
              have q244 : x9_1 < (t232.length : Int) := dT
              obtain ⟨ad244, e244, hx244_0⟩ := Kd.at_int (Kd.R_reads' HO_7.out).2.2 x9_1 p244 q244
              obtain rfl : ad239 = ad244 := (by injection e244)
              replace p244 := eq_true p244
              replace q244 := eq_true q244
              go_wp2_with (first | ((with_reducible refine gate_callee (f := 19) rfl ?_); refine gL (some 66) Tryd.func19 #[.int .i64 (rd t232 x9_1), .int .i64 0, .int .i64 (wrap64 (a0 - 1))] ?_; (with_reducible refine (spec_l6In.calls (rd t232 x9_1) 0 (wrap64 (a0 - 1)) false _ A28.out).mono ?_); rintro e w' ⟨rfl, ⟨nd, rfl⟩⟩; refine ⟨_, rfl, ?_⟩) | ((with_reducible refine gate_dst (N := 75) rfl ?_); refine Kd.R_lit (Kd.int .i64) _ 3 ?hg (N := 75) ?hd (xs := ([] : List Int)) (inner := []) (ok := fun _ => True) (okp := fun _ => True) ?hr ?hp (fun _ hk => hk) trivial (Below.refl _ _) (Nat.le_refl _) (by simp) ?_; (case hd => rfl); (case hg => rfl); (case hr => first | (go_simp; done) | (go_simp; rfl)); (case hp => exact (Reps.none _ _)); intro v253 w39 ho40 hb hg_ hnew_; clear hg_ hnew_; (first | rw [← Ny252.out] at ho40 | (simp only [Int.reduceToNat] at ho40; rw [← Ny252.out] at ho40)); have HO254 := Aside0.mk (Kd.R_lower (Kd.R_new' (Kd.R_new' ho40 (Kd.R_lt (rP HO_6))) (Kd.R_lt (rP HO_7))) (below_size (bP HB))); replace HO_6 := Aside0.mk (Kd.R_elder' (rP HO_6) (Kd.R_base ho40) hb); replace HO_7 := Aside0.mk (Kd.R_elder' (rP HO_7) (Kd.R_base ho40) hb); replace HB := bS HB hb; clear hb ho40))
              go_ret2
              exact ⟨_, eR, by (with_reducible repeat (first | apply Kd.R_alloc | apply Kd.R_drewN | apply Kd.R_drew)); exact Kd.R_mono HO254.out (fun _ hk => trivial), bP HB⟩
            ·rw [if_neg c27] at H
             exact absurd H (by simp)
           ·rw [if_neg c26] at H
            exact absurd H (by simp)
     ·rw [if_neg c10] at H
      exact absurd H (by simp)
    ·rw [if_neg c9] at H
     have c9b0 : decide (x9_1 < (t232.length : Int)) = false := decide_eq_false c9
     clear c9
     replace H := Option.bind_eq_some_iff.mp H
     obtain ⟨t235, A410, H⟩ := H
     replace H : (if t235.toList = a1.toList then (some (x6_1, true)) else (some ((([] : List Int)), false))) = some (r1, r2) := H
     have A41 := Aside0.mk A410
     clear A410
     by_cases c42 : t235.toList = a1.toList
     ·rw [if_pos c42] at H
      have c42b0 : (t235.toList == a1.toList) = true := beq_iff_eq.mpr c42
      have c42b1 : (t235.toList != a1.toList) = false := bne_eq_false_iff_eq.mpr c42
      clear c42
      simp only [Option.some.injEq, Prod.mk.injEq] at H
      obtain ⟨rfl, rfl⟩ := H
      obtain ⟨Ao43, co43, eo43⟩ := Kd.R_slice HO_7.out
      subst eo43
      obtain ⟨Ao44, co44, eo44⟩ := Kd.R_slice HO_6.out
      subst eo44
      go_wp2_with (first | ((with_reducible refine gate_callee (f := 16) rfl ?_); refine gL (some 84) Tryd.func16 #[.slice Ao44 x6_1.length co44] ?_; (with_reducible refine (spec_PermText.calls k1 _ _ x6_1 t235 _ ?side1 ?side2 A41.out).mono ?_); (case side1 => exact cP (Kd.R_reads' HO_6.out).2.2); (case side2 => exact (Kd.R_reads' HO_6.out).2.1); rintro e w45 ⟨rfl, hb⟩; refine ⟨_, rfl, ?_⟩; replace HO_6 := rB HO_6 hb; replace HO_7 := rB HO_7 hb; replace HB := bS HB hb; (try clear hb); (try clear hb2); (try clear hk); (try clear hi)))
      go_ret2
      exact ⟨_, eR, by (with_reducible repeat (first | apply Kd.R_alloc | apply Kd.R_drewN | apply Kd.R_drew)); exact Kd.R_mono HO_6.out (fun _ hk => trivial), bP HB⟩
     ·rw [if_neg c42] at H
      have c42b0 : (t235.toList == a1.toList) = false := beq_eq_false_iff_ne.mpr c42
      have c42b1 : (t235.toList != a1.toList) = true := bne_iff_ne.mpr c42
      obtain ⟨y236, hy236⟩ : ∃ y_ : List Int, y_ = (([] : List Int)) := ⟨_, rfl⟩
      replace H : (some (y236, false)) = some (r1, r2) := by first | (rw [hy236]; with_reducible exact H) | (have H2_ := (Option.bind_some _ _).symm.trans H; rw [hy236]; with_reducible exact H2_) | (have H2_ := (Option.bind_some _ _).symm.trans H; with_reducible exact H2_) | with_reducible exact H | (rw [hy236]; exact H) | exact H
      have Ny236 := Aside0.mk hy236
      clear hy236
      simp only [Option.some.injEq, Prod.mk.injEq] at H
      obtain ⟨rfl, rfl⟩ := H
      obtain ⟨Ao46, co46, eo46⟩ := Kd.R_slice HO_7.out
      subst eo46
      obtain ⟨Ao47, co47, eo47⟩ := Kd.R_slice HO_6.out
      subst eo47
      go_wp2_with (first | ((with_reducible refine gate_callee (f := 16) rfl ?_); refine gL (some 84) Tryd.func16 #[.slice Ao47 x6_1.length co47] ?_; (with_reducible refine (spec_PermText.calls k1 _ _ x6_1 t235 _ ?side1 ?side2 A41.out).mono ?_); (case side1 => exact cP (Kd.R_reads' HO_6.out).2.2); (case side2 => exact (Kd.R_reads' HO_6.out).2.1); rintro e w48 ⟨rfl, hb⟩; refine ⟨_, rfl, ?_⟩; replace HO_6 := rB HO_6 hb; replace HO_7 := rB HO_7 hb; replace HB := bS HB hb; (try clear hb); (try clear hb2); (try clear hk); (try clear hi)) | ((with_reducible refine gate_dst (N := 87) rfl ?_); refine Kd.R_lit (Kd.int .i64) _ 3 ?hg (N := 87) ?hd (xs := ([] : List Int)) (inner := []) (ok := fun _ => True) (okp := fun _ => True) ?hr ?hp (fun _ hk => hk) trivial (Below.refl _ _) (Nat.le_refl _) (by simp) ?_; (case hd => rfl); (case hg => rfl); (case hr => first | (go_simp; done) | (go_simp; rfl)); (case hp => exact (Reps.none _ _)); intro v237 w49 ho50 hb hg_ hnew_; clear hg_ hnew_; (first | rw [← Ny236.out] at ho50 | (simp only [Int.reduceToNat] at ho50; rw [← Ny236.out] at ho50)); have HO238 := Aside0.mk (Kd.R_lower (Kd.R_new' (Kd.R_new' ho50 (Kd.R_lt (rP HO_6))) (Kd.R_lt (rP HO_7))) (below_size (bP HB))); replace HO_6 := Aside0.mk (Kd.R_elder' (rP HO_6) (Kd.R_base ho50) hb); replace HO_7 := Aside0.mk (Kd.R_elder' (rP HO_7) (Kd.R_base ho50) hb); replace HB := bS HB hb; clear hb ho50))
      go_ret2
      exact ⟨_, eR, by (with_reducible repeat (first | apply Kd.R_alloc | apply Kd.R_drewN | apply Kd.R_drew)); exact Kd.R_mono HO238.out (fun _ hk => trivial), bP HB⟩
 ·replace c4 := Bool.eq_false_iff.mpr c4
  subst c4
  have H1 : (some ((([] : List Int)), false)) = some (r1, r2) := by rw [if_neg (show ¬ (false = true) by decide)] at H; exact H
  clear H
  have H := H1
  clear H1
  obtain ⟨y226, hy226⟩ : ∃ y_ : List Int, y_ = (([] : List Int)) := ⟨_, rfl⟩
  replace H : (some (y226, false)) = some (r1, r2) := by first | (rw [hy226]; with_reducible exact H) | (have H2_ := (Option.bind_some _ _).symm.trans H; rw [hy226]; with_reducible exact H2_) | (have H2_ := (Option.bind_some _ _).symm.trans H; with_reducible exact H2_) | with_reducible exact H | (rw [hy226]; exact H) | exact H
  have Ny226 := Aside0.mk hy226
  clear hy226
  simp only [Option.some.injEq, Prod.mk.injEq] at H
  obtain ⟨rfl, rfl⟩ := H
  go_enter Tryd.func7, Tryd.ntmps7
  go_wp2_with (first | ((with_reducible refine gate_callee (f := 19) rfl ?_); refine gL (some 12) Tryd.func19 #[.int .i64 a0, .int .i64 1, .int .i64 12] ?_; (with_reducible refine (spec_l6In.calls a0 1 12 false _ A3.out).mono ?_); rintro e w' ⟨rfl, ⟨nd, rfl⟩⟩; refine ⟨_, rfl, ?_⟩) | ((with_reducible refine gate_dst (N := 14) rfl ?_); refine Kd.R_lit (Kd.int .i64) _ 3 ?hg (N := 14) ?hd (xs := ([] : List Int)) (inner := []) (ok := fun _ => True) (okp := fun _ => True) ?hr ?hp (fun _ hk => hk) trivial (Below.refl _ _) (Nat.le_refl _) (by simp) ?_; (case hd => rfl); (case hg => rfl); (case hr => first | (go_simp; done) | (go_simp; rfl)); (case hp => exact (Reps.none _ _)); intro v227 w51 ho52 hb hg_ hnew_; clear hg_ hnew_; (first | rw [← Ny226.out] at ho52 | (simp only [Int.reduceToNat] at ho52; rw [← Ny226.out] at ho52)); have HO228 := rL ho52 HB; replace HB := bS HB hb; clear hb ho52))
  go_ret2
  exact ⟨_, eR, rP HO228, bP HB⟩

end Go.Proofs.YtieaplnngmgkeaaDoor.F
