/- Contracts: what these Go functions return. -/
import Derived.Test.YtieaplnngmgkeaaDoorF0
import Derived.Test.YtieaplnngmgkeaaDoorF5
import Derived.Test.YtieaplnngmgkeaaDoorF10
import Derived.Test.YtieaplnngmgkeaaDoorF20
import Derived.Test.YtieaplnngmgkeaaDoorF22
import Derived.Test.YtieaplnngmgkeaaDoorF25
namespace Go.Proofs.YtieaplnngmgkeaaDoor.F
open Go.RowKit Go.Proofs.YtieaplnngmgkeaaDoorW.PrintWords Go.Proofs.YtieaplnngmgkeaaDoorW.PrintLast Go.Proofs.YtieaplnngmgkeaaDoorW.PrintMore
attribute [local go_sem] max2_int min2_int max_two min_two max_three min_three max_four min_four
set_option linter.unusedVariables false
set_option linter.unusedSimpArgs false

/-! ### laws_FnText: function 6 -/
def laws_FnText.j0 : Nat → List Int → ByteArray → ByteArray → Bool → Option (Bool)
 | 0, _, _, _, _ => none
 | k + 1, x3, x4, x5, x26 => if x26 = true then (some (x4.toList == x5.toList)) else ((impl_PermFrom.f k (x3.length : Int) x4).bind fun bt354 => ((impl_PermFrom.f k (wrap64 ((x3.length : Int) + 1)) x4).bind fun bt358 => ((some (([] : List Int) : List Int)).bind fun y362 => (if y362.length + x3.length < 17592186044416 then ((some (y362 ++ x3 : List Int)).bind fun y365 => (if y365.length < 17592186044416 then ((some (y365 ++ [(x3.length : Int)] : List Int)).bind fun y368 => (if bt354.2 = true then ((laws_sameInts.f k bt354.1 x3).bind fun t371 => (if t371 = true then (if (x3.length : Int) = 12 then (if bt358.2 = true then ((laws_sameInts.f k bt358.1 y368).bind fun t372 => (some t372)) else (some true)) else (if bt358.2 = true then ((laws_sameInts.f k bt358.1 y368).bind fun t373 => (some t373)) else (some false))) else (some false))) else (some false))) else (none))) else (none)))))
def laws_FnText.f (k : Nat) (l0 : List Int) : Option (Bool) := if (l0.length : Int) > 1048576 then (some true) else ((spec_DrawPermText.f k l0).bind fun t349 => ((impl_PermText.f k t349).bind fun t352 => ((spec_PermText.f k t349).bind fun t353 => (if t352.toList = t353.toList then (laws_FnText.j0 k t349 t352 t353 (t352.toList == ([] : List UInt8))) else (laws_FnText.j0 k t349 t352 t353 true)))))
set_option maxHeartbeats 8000000 in
set_option maxRecDepth 100000 in
theorem laws_FnText.calls (k : Nat) (A0 : Option Addr) (c0 : Nat) (l0 : List Int) (r : Bool) (w : World) (m0_ : Int) (ev1_ ev2_ : Value) (hm0_ : w.cell? ⟨0, 0, none⟩ = some (.int .i64 m0_)) (hm1_ : w.cell? ⟨1, 0, none⟩ = some ev1_) (hm2_ : w.cell? ⟨2, 0, none⟩ = some ev2_) (hj1_ : ev1_ = .nilIface ∨ ∃ te pe, ev1_ = .iface te pe) (hj2_ : ev2_ = .nilIface ∨ ∃ te pe, ev2_ = .iface te pe) (hr0 : Kd.C (Kd.int .u8) w A0 l0.length l0) (hc0 : l0.length ≤ c0) (hr_ : Aside0 (r = true)) (h : laws_FnText.f k l0 = some r) :
 Calls Tryd.prog 6 #[.slice A0 l0.length c0] w fun e w' => e = .returned (.bool r) ∧ Below w.heap.size w w' := by
 have HR0 := Aside0.mk hr0
 have HC0 := Aside0.mk hc0
 clear hr0 hc0
 have HB := Aside0.mk (Below.refl w.heap.size w)
 have HM0_ := Aside0.mk hm0_
 have HM1_ := Aside0.mk hm1_
 have HM2_ := Aside0.mk hm2_
 have HJ1_ := Aside0.mk hj1_
 have HJ2_ := Aside0.mk hj2_
 clear hm0_ hm1_ hm2_ hj1_ hj2_
 have H : (if (l0.length : Int) > 1048576 then (some true) else ((spec_DrawPermText.f k l0).bind fun t349 => ((impl_PermText.f k t349).bind fun t352 => ((spec_PermText.f k t349).bind fun t353 => (if t352.toList = t353.toList then (laws_FnText.j0 k t349 t352 t353 (t352.toList == ([] : List UInt8))) else (laws_FnText.j0 k t349 t352 t353 true)))))) = some r := h
 clear h
 by_cases c2 : (l0.length : Int) > 1048576
 ·rw [if_pos c2] at H
  have c2b0 : decide (1048576 < (l0.length : Int)) = true := decide_eq_true c2
  have c2b1 : decide (1048576 < l0.length) = true := decide_eq_true (by omega)
  clear c2
  obtain rfl := Option.some.inj H
  go_enter Tryd.func6, Tryd.ntmps6
  go_wp2
  go_ret
  exact ⟨eR, bP HB⟩
 ·rw [if_neg c2] at H
  have c2b0 : decide (1048576 < (l0.length : Int)) = false := decide_eq_false c2
  have c2b1 : decide (1048576 < l0.length) = false := decide_eq_false (by omega)
  clear c2
  replace H := Option.bind_eq_some_iff.mp H
  obtain ⟨t349, A30, H⟩ := H
  replace H : ((impl_PermText.f k t349).bind fun t352 => ((spec_PermText.f k t349).bind fun t353 => (if t352.toList = t353.toList then (laws_FnText.j0 k t349 t352 t353 (t352.toList == ([] : List UInt8))) else (laws_FnText.j0 k t349 t352 t353 true)))) = some r := H
  have A3 := Aside0.mk A30
  clear A30
  replace H := Option.bind_eq_some_iff.mp H
  obtain ⟨t352, A40, H⟩ := H
  replace H : ((spec_PermText.f k t349).bind fun t353 => (if t352.toList = t353.toList then (laws_FnText.j0 k t349 t352 t353 (t352.toList == ([] : List UInt8))) else (laws_FnText.j0 k t349 t352 t353 true))) = some r := H
  have A4 := Aside0.mk A40
  clear A40
  replace H := Option.bind_eq_some_iff.mp H
  obtain ⟨t353, A50, H⟩ := H
  replace H : (if t352.toList = t353.toList then (laws_FnText.j0 k t349 t352 t353 (t352.toList == ([] : List UInt8))) else (laws_FnText.j0 k t349 t352 t353 true)) = some r := H
  have A5 := Aside0.mk A50
  clear A50
  have HC6 := Aside0.mk H
  clear H
  go_enter Tryd.func6, Tryd.ntmps6
  go_upto_region 6 with (first | ((with_reducible refine gate_callee (f := 18) rfl ?_); refine gL (some 15) Tryd.func18 #[.slice A0 l0.length c0] ?_; (with_reducible refine (spec_DrawPermText.calls k _ _ l0 t349 _ ?side1 ?side2 A3.out).mono ?_); (case side1 => repeat (first | exact HR0.out | (with_reducible refine Kd.C_alloc ?_ _) | (with_reducible refine Kd.C_drewN ?_ _) | (with_reducible refine Kd.C_drew ?_))); (case side2 => exact HC0.out); rintro e w7 ⟨v350, rfl, ho0, hb⟩; refine ⟨_, rfl, ?_⟩; have HO351 := rL ho0 HB; replace HB := bS HB hb; (try clear hb); (try clear hb2); (try clear hk); (try clear hi); (try clear ho0); obtain ⟨Ao8, co8, eo8⟩ := Kd.R_slice HO351.out; subst eo8) | ((with_reducible refine gate_callee (f := 15) rfl ?_); refine gL (some 17) Tryd.func15 #[.slice Ao8 t349.length co8] ?_; (with_reducible refine (impl_PermText.calls k _ _ t349 t352 _ ?side1 ?side2 A4.out).mono ?_); (case side1 => exact cP (Kd.R_reads' HO351.out).2.2); (case side2 => exact (Kd.R_reads' HO351.out).2.1); rintro e w9 ⟨rfl, hb⟩; refine ⟨_, rfl, ?_⟩; replace HO351 := rB HO351 hb; replace HB := bS HB hb; (try clear hb); (try clear hb2); (try clear hk); (try clear hi)) | ((with_reducible refine gate_callee (f := 16) rfl ?_); refine gL (some 19) Tryd.func16 #[.slice Ao8 t349.length co8] ?_; (with_reducible refine (spec_PermText.calls k _ _ t349 t353 _ ?side1 ?side2 A5.out).mono ?_); (case side1 => exact cP (Kd.R_reads' HO351.out).2.2); (case side2 => exact (Kd.R_reads' HO351.out).2.1); rintro e w10 ⟨rfl, hb⟩; refine ⟨_, rfl, ?_⟩; replace HO351 := rB HO351 hb; replace HB := bS HB hb; (try clear hb); (try clear hb2); (try clear hk); (try clear hi)))
  (try simp only [Act.put, List.setIfInBounds_toArray, List.set_cons_zero, List.set_cons_succ])
  go_cut [26] (fun v26 wc => ∃ (kq : Nat) (x26_5 : Bool), v26 = .bool x26_5 ∧ Aside0 (laws_FnText.j0 kq t349 t352 t353 x26_5 = some r) ∧ Aside0 (kq ≤ k) ∧ Aside0 (Kd.R (Kd.int .i64) 3 wc w.heap.size (fun _ => True) (.slice Ao8 t349.length co8) t349) ∧ Aside0 (Below w.heap.size w wc))
  case first =>
   have H := HC6.out
   clear HC6
   by_cases c11 : t352.toList = t353.toList
   ·rw [if_pos c11] at H
    have c11b0 : (t352.toList == t353.toList) = true := beq_iff_eq.mpr c11
    have c11b1 : (t352.toList != t353.toList) = false := bne_eq_false_iff_eq.mpr c11
    clear c11
    (first | rw [c11b0] | (simp only [i64_w, i32_w]; rw [c11b0]) | skip)
    have H' := Aside0.mk H
    clear H
    go_wp2
    go_meet
    case rel => exact ⟨_, ((t352.toList == ([] : List UInt8))), eS, H', ⟨by first | omega | exact Nat.le_refl _⟩, ⟨rP HO351⟩, ⟨bP HB⟩⟩
   ·rw [if_neg c11] at H
    have c11b0 : (t352.toList == t353.toList) = false := beq_eq_false_iff_ne.mpr c11
    have c11b1 : (t352.toList != t353.toList) = true := bne_iff_ne.mpr c11
    (first | rw [c11b0] | (simp only [i64_w, i32_w]; rw [c11b0]) | skip)
    have H' := Aside0.mk H
    clear H
    go_wp2
    go_meet
    case rel => exact ⟨_, (true), eS, H', ⟨by first | omega | exact Nat.le_refl _⟩, ⟨rP HO351⟩, ⟨bP HB⟩⟩
  case rest =>
   clear HC6
   try clear c1
   try clear c2
   try clear c2b0
   try clear c2b1
   try clear p2
   try clear c6
   try clear c11
   try clear c11b0
   try clear c11b1
   obtain ⟨kq, x26_5, rfl, HA, HJ5, HO_3, HB⟩ := hcut
   cases kq with
   | zero => exact absurd HA.out (by simp [laws_FnText.j0])
   | succ kj5 =>
    have H := HA.out
    clear HA
    simp only [laws_FnText.j0] at H
    by_cases c12 : x26_5 = true
    ·subst c12
     have H1 : (some (t352.toList == t353.toList)) = some r := by rw [if_pos rfl] at H; exact H
     clear H
     have H := H1
     clear H1
     obtain rfl := Option.some.inj H
     go_wp2
     go_ret
     exact ⟨eR, bP HB⟩
    ·replace c12 := Bool.eq_false_iff.mpr c12
     subst c12
     have H1 : ((impl_PermFrom.f kj5 (t349.length : Int) t352).bind fun bt354 => ((impl_PermFrom.f kj5 (wrap64 ((t349.length : Int) + 1)) t352).bind fun bt358 => ((some (([] : List Int) : List Int)).bind fun y362 => (if y362.length + t349.length < 17592186044416 then ((some (y362 ++ t349 : List Int)).bind fun y365 => (if y365.length < 17592186044416 then ((some (y365 ++ [(t349.length : Int)] : List Int)).bind fun y368 => (if bt354.2 = true then ((laws_sameInts.f kj5 bt354.1 t349).bind fun t371 => (if t371 = true then (if (t349.length : Int) = 12 then (if bt358.2 = true then ((laws_sameInts.f kj5 bt358.1 y368).bind fun t372 => (some t372)) else (some true)) else (if bt358.2 = true then ((laws_sameInts.f kj5 bt358.1 y368).bind fun t373 => (some t373)) else (some false))) else (some false))) else (some false))) else (none))) else (none))))) = some r := by rw [if_neg (show ¬ (false = true) by decide)] at H; exact H
     clear H
     have H := H1
     clear H1
     replace H := Option.bind_eq_some_iff.mp H
     obtain ⟨⟨t354, t355⟩, A130, H⟩ := H
     replace H : ((impl_PermFrom.f kj5 (wrap64 ((t349.length : Int) + 1)) t352).bind fun bt358 => ((some (([] : List Int) : List Int)).bind fun y362 => (if y362.length + t349.length < 17592186044416 then ((some (y362 ++ t349 : List Int)).bind fun y365 => (if y365.length < 17592186044416 then ((some (y365 ++ [(t349.length : Int)] : List Int)).bind fun y368 => (if t355 = true then ((laws_sameInts.f kj5 t354 t349).bind fun t371 => (if t371 = true then (if (t349.length : Int) = 12 then (if bt358.2 = true then ((laws_sameInts.f kj5 bt358.1 y368).bind fun t372 => (some t372)) else (some true)) else (if bt358.2 = true then ((laws_sameInts.f kj5 bt358.1 y368).bind fun t373 => (some t373)) else (some false))) else (some false))) else (some false))) else (none))) else (none)))) = some r := H
     have A13 := Aside0.mk A130
     clear A130
     replace H := Option.bind_eq_some_iff.mp H
     obtain ⟨⟨t358, t359⟩, A140, H⟩ := H
     replace H : ((some (([] : List Int) : List Int)).bind fun y362 => (if y362.length + t349.length < 17592186044416 then ((some (y362 ++ t349 : List Int)).bind fun y365 => (if y365.length < 17592186044416 then ((some (y365 ++ [(t349.length : Int)] : List Int)).bind fun y368 => (if t355 = true then ((laws_sameInts.f kj5 t354 t349).bind fun t371 => (if t371 = true then (if (t349.length : Int) = 12 then (if t359 = true then ((laws_sameInts.f kj5 t358 y368).bind fun t372 => (some t372)) else (some true)) else (if t359 = true then ((laws_sameInts.f kj5 t358 y368).bind fun t373 => (some t373)) else (some false))) else (some false))) else (some false))) else (none))) else (none))) = some r := H
     have A14 := Aside0.mk A140
     clear A140
     obtain ⟨y362, hy362⟩ : ∃ y_ : List Int, y_ = (([] : List Int)) := ⟨_, rfl⟩
     replace H : (if y362.length + t349.length < 17592186044416 then ((some (y362 ++ t349 : List Int)).bind fun y365 => (if y365.length < 17592186044416 then ((some (y365 ++ [(t349.length : Int)] : List Int)).bind fun y368 => (if t355 = true then ((laws_sameInts.f kj5 t354 t349).bind fun t371 => (if t371 = true then (if (t349.length : Int) = 12 then (if t359 = true then ((laws_sameInts.f kj5 t358 y368).bind fun t372 => (some t372)) else (some true)) else (if t359 = true then ((laws_sameInts.f kj5 t358 y368).bind fun t373 => (some t373)) else (some false))) else (some false))) else (some false))) else (none))) else (none)) = some r := by first | (rw [hy362]; with_reducible exact H) | (have H2_ := (Option.bind_some _ _).symm.trans H; rw [hy362]; with_reducible exact H2_) | (have H2_ := (Option.bind_some _ _).symm.trans H; with_reducible exact H2_) | with_reducible exact H | (rw [hy362]; exact H) | exact H
     have Ny362 := Aside0.mk hy362
     clear hy362
     by_cases c15 : y362.length + t349.length < 17592186044416
     ·rw [if_pos c15] at H
      have LMc15 := Aside0.mk c15
      clear c15
      obtain ⟨y365, hy365⟩ : ∃ y_ : List Int, y_ = (y362 ++ t349) := ⟨_, rfl⟩
      replace H : (if y365.length < 17592186044416 then ((some (y365 ++ [(t349.length : Int)] : List Int)).bind fun y368 => (if t355 = true then ((laws_sameInts.f kj5 t354 t349).bind fun t371 => (if t371 = true then (if (t349.length : Int) = 12 then (if t359 = true then ((laws_sameInts.f kj5 t358 y368).bind fun t372 => (some t372)) else (some true)) else (if t359 = true then ((laws_sameInts.f kj5 t358 y368).bind fun t373 => (some t373)) else (some false))) else (some false))) else (some false))) else (none)) = some r := by first | (rw [hy365]; with_reducible exact H) | (have H2_ := (Option.bind_some _ _).symm.trans H; rw [hy365]; with_reducible exact H2_) | (have H2_ := (Option.bind_some _ _).symm.trans H; with_reducible exact H2_) | with_reducible exact H | (rw [hy365]; exact H) | exact H
      have Ny365 := Aside0.mk hy365
      clear hy365
      by_cases c16 : y365.length < 17592186044416
      ·rw [if_pos c16] at H
       have LMc16 := Aside0.mk c16
       clear c16
       obtain ⟨y368, hy368⟩ : ∃ y_ : List Int, y_ = (y365 ++ [(t349.length : Int)]) := ⟨_, rfl⟩
       replace H : (if t355 = true then ((laws_sameInts.f kj5 t354 t349).bind fun t371 => (if t371 = true then (if (t349.length : Int) = 12 then (if t359 = true then ((laws_sameInts.f kj5 t358 y368).bind fun t372 => (some t372)) else (some true)) else (if t359 = true then ((laws_sameInts.f kj5 t358 y368).bind fun t373 => (some t373)) else (some false))) else (some false))) else (some false)) = some r := by first | (rw [hy368]; with_reducible exact H) | (have H2_ := (Option.bind_some _ _).symm.trans H; rw [hy368]; with_reducible exact H2_) | (have H2_ := (Option.bind_some _ _).symm.trans H; with_reducible exact H2_) | with_reducible exact H | (rw [hy368]; exact H) | exact H
       have Ny368 := Aside0.mk hy368
       clear hy368
       by_cases c17 : t355 = true
       ·subst c17
        have H1 : ((laws_sameInts.f kj5 t354 t349).bind fun t371 => (if t371 = true then (if (t349.length : Int) = 12 then (if t359 = true then ((laws_sameInts.f kj5 t358 y368).bind fun t372 => (some t372)) else (some true)) else (if t359 = true then ((laws_sameInts.f kj5 t358 y368).bind fun t373 => (some t373)) else (some false))) else (some false))) = some r := by rw [if_pos rfl] at H; exact H
        clear H
        have H := H1
        clear H1
        replace H := Option.bind_eq_some_iff.mp H
        obtain ⟨t371, A180, H⟩ := H
        replace H : (if t371 = true then (if (t349.length : Int) = 12 then (if t359 = true then ((laws_sameInts.f kj5 t358 y368).bind fun t372 => (some t372)) else (some true)) else (if t359 = true then ((laws_sameInts.f kj5 t358 y368).bind fun t373 => (some t373)) else (some false))) else (some false)) = some r := H
        have A18 := Aside0.mk A180
        clear A180
        by_cases c19 : t371 = true
        ·subst c19
         have H1 : (if (t349.length : Int) = 12 then (if t359 = true then ((laws_sameInts.f kj5 t358 y368).bind fun t372 => (some t372)) else (some true)) else (if t359 = true then ((laws_sameInts.f kj5 t358 y368).bind fun t373 => (some t373)) else (some false))) = some r := by rw [if_pos rfl] at H; exact H
         clear H
         have H := H1
         clear H1
         by_cases c20 : (t349.length : Int) = 12
         ·rw [if_pos c20] at H
          have c20b0 : ((t349.length : Int) == 12) = true := beq_iff_eq.mpr c20
          have c20b1 : ((t349.length : Int) != 12) = false := bne_eq_false_iff_eq.mpr c20
          clear c20
          by_cases c21 : t359 = true
          ·subst c21
           have H1 : ((laws_sameInts.f kj5 t358 y368).bind fun t372 => (some t372)) = some r := by rw [if_pos rfl] at H; exact H
           clear H
           have H := H1
           clear H1
           replace H := Option.bind_eq_some_iff.mp H
           obtain ⟨t372, A220, H⟩ := H
           replace H : (some t372) = some r := H
           have A22 := Aside0.mk A220
           clear A220
           obtain rfl := Option.some.inj H
           go_wp2_with (first | ((with_reducible refine gate_callee (f := 8) rfl ?_); refine gL (some 34) Tryd.func8 #[.int .i64 (t349.length : Int), .string t352] ?_; (with_reducible refine (impl_PermFrom.calls kj5 (t349.length : Int) t352 t354 true _ m0_ ev1_ ev2_ ?pm0 ?pm1 ?pm2 HJ1_.out HJ2_.out A13.out).mono ?_); (case pm0 => exact (Below.cell (bP HB) (World.block_lt_of_cell? w _ HM0_.out)).trans HM0_.out); (case pm1 => exact (Below.cell (bP HB) (World.block_lt_of_cell? w _ HM1_.out)).trans HM1_.out); (case pm2 => exact (Below.cell (bP HB) (World.block_lt_of_cell? w _ HM2_.out)).trans HM2_.out); rintro e w23 ⟨v356, rfl, ho0, hb⟩; refine ⟨_, rfl, ?_⟩; have HO357 := Aside0.mk (Kd.R_lower (Kd.R_new' ho0 (Kd.R_lt (rP HO_3))) (below_size (bP HB))); replace HO_3 := Aside0.mk (Kd.R_elder' (rP HO_3) (Kd.R_base ho0) hb); replace HB := bS HB hb; (try clear hb); (try clear hb2); (try clear hk); (try clear hi); (try clear ho0)) | ((with_reducible refine gate_callee (f := 8) rfl ?_); refine gL (some 42) Tryd.func8 #[.int .i64 (wrap64 ((t349.length : Int) + 1)), .string t352] ?_; (with_reducible refine (impl_PermFrom.calls kj5 (wrap64 ((t349.length : Int) + 1)) t352 t358 true _ m0_ ev1_ ev2_ ?pm0 ?pm1 ?pm2 HJ1_.out HJ2_.out A14.out).mono ?_); (case pm0 => exact (Below.cell (bP HB) (World.block_lt_of_cell? w _ HM0_.out)).trans HM0_.out); (case pm1 => exact (Below.cell (bP HB) (World.block_lt_of_cell? w _ HM1_.out)).trans HM1_.out); (case pm2 => exact (Below.cell (bP HB) (World.block_lt_of_cell? w _ HM2_.out)).trans HM2_.out); rintro e w24 ⟨v360, rfl, ho0, hb⟩; refine ⟨_, rfl, ?_⟩; have HO361 := Aside0.mk (Kd.R_lower (Kd.R_new' (Kd.R_new' ho0 (Kd.R_lt (rP HO_3))) (Kd.R_lt (rP HO357))) (below_size (bP HB))); replace HO_3 := Aside0.mk (Kd.R_elder' (rP HO_3) (Kd.R_base ho0) hb); replace HO357 := Aside0.mk (Kd.R_elder' (rP HO357) (Kd.R_base ho0) hb); replace HB := bS HB hb; (try clear hb); (try clear hb2); (try clear hk); (try clear hi); (try clear ho0)) | ((with_reducible refine gate_dst (N := 45) rfl ?_); (try (refine gate_guard (by rfl) ?_; dsimp only)); refine Kd.R_lit (Kd.int .i64) _ 3 ?hg (N := 45) ?hd (xs := ([] : List Int)) (inner := []) (ok := fun _ => True) (okp := fun _ => True) ?hr ?hp (fun _ hk => hk) trivial (Below.refl _ _) (Nat.le_refl _) (by simp) ?_; (case hd => rfl); (case hg => rfl); (case hr => first | (go_simp; done) | (go_simp; rfl)); (case hp => exact (Reps.none _ _)); intro v363 w25 ho26 hb hg_ hnew_; clear hg_ hnew_; (first | rw [← Ny362.out] at ho26 | (simp only [Int.reduceToNat] at ho26; rw [← Ny362.out] at ho26)); have HO364 := Aside0.mk (Kd.R_lower (Kd.R_new' (Kd.R_new' (Kd.R_new' ho26 (Kd.R_lt (rP HO_3))) (Kd.R_lt (rP HO357))) (Kd.R_lt (rP HO361))) (below_size (bP HB))); replace HO_3 := Aside0.mk (Kd.R_elder' (rP HO_3) (Kd.R_base ho26) hb); replace HO357 := Aside0.mk (Kd.R_elder' (rP HO357) (Kd.R_base ho26) hb); replace HO361 := Aside0.mk (Kd.R_elder' (rP HO361) (Kd.R_base ho26) hb); replace HB := bS HB hb; clear hb ho26) | ((with_reducible refine gate_builtin (b := .append) (xs := #[.tmp 45, .tmp 46]) rfl ?_); (try (refine gate_guard (by rfl) ?_; dsimp only)); at_builtin; refine Kd.R_append_rows (Kd.int .i64) (w0 := w) w.heap.size rfl (.tmp 45) (.tmp 46) 22 3 (.int .i64 0) 8 rfl Tryd.underlying22 info3 rfl (by decide) (by omega) v363 y362 t349 _ _ _ (fun k_ => oN k_ Ao8 t349 co8 ∧ some k_ ≠ (v356 : Value).ownBlock ∧ some k_ ≠ (v360 : Value).ownBlock) (fun _ => False) rfl rfl ?aO ?aR (fun _ _ h => h) (fun _ h => h.elim) ?aF ?aB ?aS ?aL ?_; (case aR => exact cP (Kd.R_reads' HO_3.out).2.2); (case aB => exact (bP HB)); (case aF => exact (fun k_ hk => ⟨Kd.fresh' (Kd.R_lt (rP HO_3)) k_ hk, Kd.fresh' (Kd.R_lt (rP HO357)) k_ hk, Kd.fresh' (Kd.R_lt (rP HO361)) k_ hk⟩)); (case aO => exact (by (with_reducible repeat (first | apply Kd.R_alloc | apply Kd.R_drewN | apply Kd.R_drew)); exact Kd.R_mono HO364.out (fun _ hk => ⟨hk.1.1.2, ⟨hk.1.2, hk.2⟩⟩))); (case aS => exact (below_size (bP HB))); (case aL => have := LMc15.out; omega); intro v366 w27 ho hb hg hat; rw [← Ny365.out] at ho; replace HO_3 := Aside0.mk (Kd.R_after (ok := (fun k_ => some k_ ≠ (v356 : Value).ownBlock ∧ some k_ ≠ (v360 : Value).ownBlock)) (by (with_reducible repeat (first | apply Kd.R_alloc | apply Kd.R_drewN | apply Kd.R_drew)); exact Kd.R_mono HO_3.out (fun _ hk => ⟨⟨hk.1.1.2, hk.1.2⟩, hk.2⟩)) hg hat); replace HO357 := Aside0.mk (Kd.R_after (ok := (fun k_ => oN k_ Ao8 t349 co8 ∧ some k_ ≠ (v360 : Value).ownBlock)) (by (with_reducible repeat (first | apply Kd.R_alloc | apply Kd.R_drewN | apply Kd.R_drew)); exact Kd.R_mono HO357.out (fun _ hk => ⟨⟨hk.1.1.2, hk.1.2⟩, hk.2⟩)) hg hat); replace HO361 := Aside0.mk (Kd.R_after (ok := (fun k_ => oN k_ Ao8 t349 co8 ∧ some k_ ≠ (v356 : Value).ownBlock)) (by (with_reducible repeat (first | apply Kd.R_alloc | apply Kd.R_drewN | apply Kd.R_drew)); exact Kd.R_mono HO361.out (fun _ hk => ⟨⟨hk.1.1.2, hk.1.2⟩, hk.2⟩)) hg hat); replace HB := Aside0.mk (hb); have HO367 := Aside0.mk (ho); clear HO364; clear ho hb hg hat) | ((with_reducible refine gate_builtin (b := .append) (xs := #[.tmp 47, .tmp 50]) rfl ?_); (try (refine gate_guard (by rfl) ?_; dsimp only)); at_builtin; refine Kd.R_append (Kd.int .i64) (w0 := w) w.heap.size rfl (.tmp 47) (.tmp 50) 22 3 (.int .i64 0) 8 rfl Tryd.underlying22 info3 rfl (by decide) (by omega) v366 y365 (t349.length : Int) [.int .i64 (t349.length : Int)] (fun k_ => oN k_ Ao8 t349 co8 ∧ some k_ ≠ (v356 : Value).ownBlock ∧ some k_ ≠ (v360 : Value).ownBlock) (fun _ => False) rfl rfl ?aP (fun _ hk => hk.elim) ?aF ?aO ?aB ?aS ?aL ?_; (case aP => exact rfl); (case aB => exact (bP HB)); (case aF => exact (fun k_ hk => ⟨Kd.fresh' (Kd.R_lt (rP HO_3)) k_ hk, Kd.fresh' (Kd.R_lt (rP HO357)) k_ hk, Kd.fresh' (Kd.R_lt (rP HO361)) k_ hk⟩)); (case aO => exact (rP HO367)); (case aS => exact (below_size (bP HB))); (case aL => have := LMc16.out; omega); intro v369 w28 ho hb hg hat; rw [← Ny368.out] at ho; replace HO_3 := Aside0.mk (Kd.R_after (ok := (fun k_ => some k_ ≠ (v356 : Value).ownBlock ∧ some k_ ≠ (v360 : Value).ownBlock)) (rP HO_3) hg hat); replace HO357 := Aside0.mk (Kd.R_after (ok := (fun k_ => oN k_ Ao8 t349 co8 ∧ some k_ ≠ (v360 : Value).ownBlock)) (rP HO357) hg hat); replace HO361 := Aside0.mk (Kd.R_after (ok := (fun k_ => oN k_ Ao8 t349 co8 ∧ some k_ ≠ (v356 : Value).ownBlock)) (rP HO361) hg hat); replace HB := Aside0.mk (hb); have HO370 := Aside0.mk (ho); clear HO367; clear ho hb hg hat; obtain ⟨Ao29, co29, eo29⟩ := Kd.R_slice HO357.out; subst eo29) | (go_at_call 13; (with_reducible refine (laws_sameInts.calls kj5 _ _ t354 _ _ t349 true _ ?side1 ?side2 ?side3 ?side4 A18.out).mono ?_); (case side1 => exact cP (Kd.R_reads' HO357.out).2.2); (case side2 => exact (Kd.R_reads' HO357.out).2.1); (case side3 => exact cP (Kd.R_reads' HO_3.out).2.2); (case side4 => exact (Kd.R_reads' HO_3.out).2.1); rintro e w' ⟨rfl, ⟨nd, rfl⟩⟩; obtain ⟨Ao30, co30, eo30⟩ := Kd.R_slice HO361.out; subst eo30; obtain ⟨Ao31, co31, eo31⟩ := Kd.R_slice HO370.out; subst eo31) | (go_at_call 13; (with_reducible refine (laws_sameInts.calls kj5 _ _ t358 _ _ y368 t372 _ ?side1 ?side2 ?side3 ?side4 A22.out).mono ?_); (case side1 => exact cP (Kd.R_reads' HO361.out).2.2); (case side2 => exact (Kd.R_reads' HO361.out).2.1); (case side3 => exact cP (Kd.R_reads' HO370.out).2.2); (case side4 => exact (Kd.R_reads' HO370.out).2.1); rintro e w' ⟨rfl, ⟨nd, rfl⟩⟩))
           go_ret
           exact ⟨eR, bP HB⟩
          ·replace c21 := Bool.eq_false_iff.mpr c21
           subst c21
           have H1 : (some true) = some r := by rw [if_neg (show ¬ (false = true) by decide)] at H; exact H
           clear H
           have H := H1
           clear H1
           obtain rfl := Option.some.inj H
           go_wp2_with (first | ((with_reducible refine gate_callee (f := 8) rfl ?_); refine gL (some 34) Tryd.func8 #[.int .i64 (t349.length : Int), .string t352] ?_; (with_reducible refine (impl_PermFrom.calls kj5 (t349.length : Int) t352 t354 true _ m0_ ev1_ ev2_ ?pm0 ?pm1 ?pm2 HJ1_.out HJ2_.out A13.out).mono ?_); (case pm0 => exact (Below.cell (bP HB) (World.block_lt_of_cell? w _ HM0_.out)).trans HM0_.out); (case pm1 => exact (Below.cell (bP HB) (World.block_lt_of_cell? w _ HM1_.out)).trans HM1_.out); (case pm2 => exact (Below.cell (bP HB) (World.block_lt_of_cell? w _ HM2_.out)).trans HM2_.out); rintro e w32 ⟨v356, rfl, ho0, hb⟩; refine ⟨_, rfl, ?_⟩; have HO357 := Aside0.mk (Kd.R_lower (Kd.R_new' ho0 (Kd.R_lt (rP HO_3))) (below_size (bP HB))); replace HO_3 := Aside0.mk (Kd.R_elder' (rP HO_3) (Kd.R_base ho0) hb); replace HB := bS HB hb; (try clear hb); (try clear hb2); (try clear hk); (try clear hi); (try clear ho0)) | ((with_reducible refine gate_callee (f := 8) rfl ?_); refine gL (some 42) Tryd.func8 #[.int .i64 (wrap64 ((t349.length : Int) + 1)), .string t352] ?_; (with_reducible refine (impl_PermFrom.calls kj5 (wrap64 ((t349.length : Int) + 1)) t352 t358 false _ m0_ ev1_ ev2_ ?pm0 ?pm1 ?pm2 HJ1_.out HJ2_.out A14.out).mono ?_); (case pm0 => exact (Below.cell (bP HB) (World.block_lt_of_cell? w _ HM0_.out)).trans HM0_.out); (case pm1 => exact (Below.cell (bP HB) (World.block_lt_of_cell? w _ HM1_.out)).trans HM1_.out); (case pm2 => exact (Below.cell (bP HB) (World.block_lt_of_cell? w _ HM2_.out)).trans HM2_.out); rintro e w33 ⟨v360, rfl, ho0, hb⟩; refine ⟨_, rfl, ?_⟩; have HO361 := Aside0.mk (Kd.R_lower (Kd.R_new' (Kd.R_new' ho0 (Kd.R_lt (rP HO_3))) (Kd.R_lt (rP HO357))) (below_size (bP HB))); replace HO_3 := Aside0.mk (Kd.R_elder' (rP HO_3) (Kd.R_base ho0) hb); replace HO357 := Aside0.mk (Kd.R_elder' (rP HO357) (Kd.R_base ho0) hb); replace HB := bS HB hb; (try clear hb); (try clear hb2); (try clear hk); (try clear hi); (try clear ho0)) | ((with_reducible refine gate_dst (N := 45) rfl ?_); (try (refine gate_guard (by rfl) ?_; dsimp only)); refine Kd.R_lit (Kd.int .i64) _ 3 ?hg (N := 45) ?hd (xs := ([] : List Int)) (inner := []) (ok := fun _ => True) (okp := fun _ => True) ?hr ?hp (fun _ hk => hk) trivial (Below.refl _ _) (Nat.le_refl _) (by simp) ?_; (case hd => rfl); (case hg => rfl); (case hr => first | (go_simp; done) | (go_simp; rfl)); (case hp => exact (Reps.none _ _)); intro v363 w34 ho35 hb hg_ hnew_; clear hg_ hnew_; (first | rw [← Ny362.out] at ho35 | (simp only [Int.reduceToNat] at ho35; rw [← Ny362.out] at ho35)); have HO364 := Aside0.mk (Kd.R_lower (Kd.R_new' (Kd.R_new' (Kd.R_new' ho35 (Kd.R_lt (rP HO_3))) (Kd.R_lt (rP HO357))) (Kd.R_lt (rP HO361))) (below_size (bP HB))); replace HO_3 := Aside0.mk (Kd.R_elder' (rP HO_3) (Kd.R_base ho35) hb); replace HO357 := Aside0.mk (Kd.R_elder' (rP HO357) (Kd.R_base ho35) hb); replace HO361 := Aside0.mk (Kd.R_elder' (rP HO361) (Kd.R_base ho35) hb); replace HB := bS HB hb; clear hb ho35) | ((with_reducible refine gate_builtin (b := .append) (xs := #[.tmp 45, .tmp 46]) rfl ?_); (try (refine gate_guard (by rfl) ?_; dsimp only)); at_builtin; refine Kd.R_append_rows (Kd.int .i64) (w0 := w) w.heap.size rfl (.tmp 45) (.tmp 46) 22 3 (.int .i64 0) 8 rfl Tryd.underlying22 info3 rfl (by decide) (by omega) v363 y362 t349 _ _ _ (fun k_ => oN k_ Ao8 t349 co8 ∧ some k_ ≠ (v356 : Value).ownBlock ∧ some k_ ≠ (v360 : Value).ownBlock) (fun _ => False) rfl rfl ?aO ?aR (fun _ _ h => h) (fun _ h => h.elim) ?aF ?aB ?aS ?aL ?_; (case aR => exact cP (Kd.R_reads' HO_3.out).2.2); (case aB => exact (bP HB)); (case aF => exact (fun k_ hk => ⟨Kd.fresh' (Kd.R_lt (rP HO_3)) k_ hk, Kd.fresh' (Kd.R_lt (rP HO357)) k_ hk, Kd.fresh' (Kd.R_lt (rP HO361)) k_ hk⟩)); (case aO => exact (by (with_reducible repeat (first | apply Kd.R_alloc | apply Kd.R_drewN | apply Kd.R_drew)); exact Kd.R_mono HO364.out (fun _ hk => ⟨hk.1.1.2, ⟨hk.1.2, hk.2⟩⟩))); (case aS => exact (below_size (bP HB))); (case aL => have := LMc15.out; omega); intro v366 w36 ho hb hg hat; rw [← Ny365.out] at ho; replace HO_3 := Aside0.mk (Kd.R_after (ok := (fun k_ => some k_ ≠ (v356 : Value).ownBlock ∧ some k_ ≠ (v360 : Value).ownBlock)) (by (with_reducible repeat (first | apply Kd.R_alloc | apply Kd.R_drewN | apply Kd.R_drew)); exact Kd.R_mono HO_3.out (fun _ hk => ⟨⟨hk.1.1.2, hk.1.2⟩, hk.2⟩)) hg hat); replace HO357 := Aside0.mk (Kd.R_after (ok := (fun k_ => oN k_ Ao8 t349 co8 ∧ some k_ ≠ (v360 : Value).ownBlock)) (by (with_reducible repeat (first | apply Kd.R_alloc | apply Kd.R_drewN | apply Kd.R_drew)); exact Kd.R_mono HO357.out (fun _ hk => ⟨⟨hk.1.1.2, hk.1.2⟩, hk.2⟩)) hg hat); replace HO361 := Aside0.mk (Kd.R_after (ok := (fun k_ => oN k_ Ao8 t349 co8 ∧ some k_ ≠ (v356 : Value).ownBlock)) (by (with_reducible repeat (first | apply Kd.R_alloc | apply Kd.R_drewN | apply Kd.R_drew)); exact Kd.R_mono HO361.out (fun _ hk => ⟨⟨hk.1.1.2, hk.1.2⟩, hk.2⟩)) hg hat); replace HB := Aside0.mk (hb); have HO367 := Aside0.mk (ho); clear HO364; clear ho hb hg hat) | ((with_reducible refine gate_builtin (b := .append) (xs := #[.tmp 47, .tmp 50]) rfl ?_); (try (refine gate_guard (by rfl) ?_; dsimp only)); at_builtin; refine Kd.R_append (Kd.int .i64) (w0 := w) w.heap.size rfl (.tmp 47) (.tmp 50) 22 3 (.int .i64 0) 8 rfl Tryd.underlying22 info3 rfl (by decide) (by omega) v366 y365 (t349.length : Int) [.int .i64 (t349.length : Int)] (fun k_ => oN k_ Ao8 t349 co8 ∧ some k_ ≠ (v356 : Value).ownBlock ∧ some k_ ≠ (v360 : Value).ownBlock) (fun _ => False) rfl rfl ?aP (fun _ hk => hk.elim) ?aF ?aO ?aB ?aS ?aL ?_; (case aP => exact rfl); (case aB => exact (bP HB)); (case aF => exact (fun k_ hk => ⟨Kd.fresh' (Kd.R_lt (rP HO_3)) k_ hk, Kd.fresh' (Kd.R_lt (rP HO357)) k_ hk, Kd.fresh' (Kd.R_lt (rP HO361)) k_ hk⟩)); (case aO => exact (rP HO367)); (case aS => exact (below_size (bP HB))); (case aL => have := LMc16.out; omega); intro v369 w37 ho hb hg hat; rw [← Ny368.out] at ho; replace HO_3 := Aside0.mk (Kd.R_after (ok := (fun k_ => some k_ ≠ (v356 : Value).ownBlock ∧ some k_ ≠ (v360 : Value).ownBlock)) (rP HO_3) hg hat); replace HO357 := Aside0.mk (Kd.R_after (ok := (fun k_ => oN k_ Ao8 t349 co8 ∧ some k_ ≠ (v360 : Value).ownBlock)) (rP HO357) hg hat); replace HO361 := Aside0.mk (Kd.R_after (ok := (fun k_ => oN k_ Ao8 t349 co8 ∧ some k_ ≠ (v356 : Value).ownBlock)) (rP HO361) hg hat); replace HB := Aside0.mk (hb); have HO370 := Aside0.mk (ho); clear HO367; clear ho hb hg hat; obtain ⟨Ao38, co38, eo38⟩ := Kd.R_slice HO357.out; subst eo38) | (go_at_call 13; (with_reducible refine (laws_sameInts.calls kj5 _ _ t354 _ _ t349 true _ ?side1 ?side2 ?side3 ?side4 A18.out).mono ?_); (case side1 => exact cP (Kd.R_reads' HO357.out).2.2); (case side2 => exact (Kd.R_reads' HO357.out).2.1); (case side3 => exact cP (Kd.R_reads' HO_3.out).2.2); (case side4 => exact (Kd.R_reads' HO_3.out).2.1); rintro e w' ⟨rfl, ⟨nd, rfl⟩⟩))
           go_ret
           exact ⟨eR, bP HB⟩
         ·rw [if_neg c20] at H
          have c20b0 : ((t349.length : Int) == 12) = false := beq_eq_false_iff_ne.mpr c20
          have c20b1 : ((t349.length : Int) != 12) = true := bne_iff_ne.mpr c20
          by_cases c39 : t359 = true
          ·subst c39
           have H1 : ((laws_sameInts.f kj5 t358 y368).bind fun t373 => (some t373)) = some r := by rw [if_pos rfl] at H; exact H
           clear H
           have H := H1
           clear H1
           replace H := Option.bind_eq_some_iff.mp H
           obtain ⟨t373, A400, H⟩ := H
           replace H : (some t373) = some r := H
           have A40 := Aside0.mk A400
           clear A400
           obtain rfl := Option.some.inj H
           go_wp2_with (first | ((with_reducible refine gate_callee (f := 8) rfl ?_); refine gL (some 34) Tryd.func8 #[.int .i64 (t349.length : Int), .string t352] ?_; (with_reducible refine (impl_PermFrom.calls kj5 (t349.length : Int) t352 t354 true _ m0_ ev1_ ev2_ ?pm0 ?pm1 ?pm2 HJ1_.out HJ2_.out A13.out).mono ?_); (case pm0 => exact (Below.cell (bP HB) (World.block_lt_of_cell? w _ HM0_.out)).trans HM0_.out); (case pm1 => exact (Below.cell (bP HB) (World.block_lt_of_cell? w _ HM1_.out)).trans HM1_.out); (case pm2 => exact (Below.cell (bP HB) (World.block_lt_of_cell? w _ HM2_.out)).trans HM2_.out); rintro e w41 ⟨v356, rfl, ho0, hb⟩; refine ⟨_, rfl, ?_⟩; have HO357 := Aside0.mk (Kd.R_lower (Kd.R_new' ho0 (Kd.R_lt (rP HO_3))) (below_size (bP HB))); replace HO_3 := Aside0.mk (Kd.R_elder' (rP HO_3) (Kd.R_base ho0) hb); replace HB := bS HB hb; (try clear hb); (try clear hb2); (try clear hk); (try clear hi); (try clear ho0)) | ((with_reducible refine gate_callee (f := 8) rfl ?_); refine gL (some 42) Tryd.func8 #[.int .i64 (wrap64 ((t349.length : Int) + 1)), .string t352] ?_; (with_reducible refine (impl_PermFrom.calls kj5 (wrap64 ((t349.length : Int) + 1)) t352 t358 true _ m0_ ev1_ ev2_ ?pm0 ?pm1 ?pm2 HJ1_.out HJ2_.out A14.out).mono ?_); (case pm0 => exact (Below.cell (bP HB) (World.block_lt_of_cell? w _ HM0_.out)).trans HM0_.out); (case pm1 => exact (Below.cell (bP HB) (World.block_lt_of_cell? w _ HM1_.out)).trans HM1_.out); (case pm2 => exact (Below.cell (bP HB) (World.block_lt_of_cell? w _ HM2_.out)).trans HM2_.out); rintro e w42 ⟨v360, rfl, ho0, hb⟩; refine ⟨_, rfl, ?_⟩; have HO361 := Aside0.mk (Kd.R_lower (Kd.R_new' (Kd.R_new' ho0 (Kd.R_lt (rP HO_3))) (Kd.R_lt (rP HO357))) (below_size (bP HB))); replace HO_3 := Aside0.mk (Kd.R_elder' (rP HO_3) (Kd.R_base ho0) hb); replace HO357 := Aside0.mk (Kd.R_elder' (rP HO357) (Kd.R_base ho0) hb); replace HB := bS HB hb; (try clear hb); (try clear hb2); (try clear hk); (try clear hi); (try clear ho0)) | ((with_reducible refine gate_dst (N := 45) rfl ?_); (try (refine gate_guard (by rfl) ?_; dsimp only)); refine Kd.R_lit (Kd.int .i64) _ 3 ?hg (N := 45) ?hd (xs := ([] : List Int)) (inner := []) (ok := fun _ => True) (okp := fun _ => True) ?hr ?hp (fun _ hk => hk) trivial (Below.refl _ _) (Nat.le_refl _) (by simp) ?_; (case hd => rfl); (case hg => rfl); (case hr => first | (go_simp; done) | (go_simp; rfl)); (case hp => exact (Reps.none _ _)); intro v363 w43 ho44 hb hg_ hnew_; clear hg_ hnew_; (first | rw [← Ny362.out] at ho44 | (simp only [Int.reduceToNat] at ho44; rw [← Ny362.out] at ho44)); have HO364 := Aside0.mk (Kd.R_lower (Kd.R_new' (Kd.R_new' (Kd.R_new' ho44 (Kd.R_lt (rP HO_3))) (Kd.R_lt (rP HO357))) (Kd.R_lt (rP HO361))) (below_size (bP HB))); replace HO_3 := Aside0.mk (Kd.R_elder' (rP HO_3) (Kd.R_base ho44) hb); replace HO357 := Aside0.mk (Kd.R_elder' (rP HO357) (Kd.R_base ho44) hb); replace HO361 := Aside0.mk (Kd.R_elder' (rP HO361) (Kd.R_base ho44) hb); replace HB := bS HB hb; clear hb ho44) | ((with_reducible refine gate_builtin (b := .append) (xs := #[.tmp 45, .tmp 46]) rfl ?_); (try (refine gate_guard (by rfl) ?_; dsimp only)); at_builtin; refine Kd.R_append_rows (Kd.int .i64) (w0 := w) w.heap.size rfl (.tmp 45) (.tmp 46) 22 3 (.int .i64 0) 8 rfl Tryd.underlying22 info3 rfl (by decide) (by omega) v363 y362 t349 _ _ _ (fun k_ => oN k_ Ao8 t349 co8 ∧ some k_ ≠ (v356 : Value).ownBlock ∧ some k_ ≠ (v360 : Value).ownBlock) (fun _ => False) rfl rfl ?aO ?aR (fun _ _ h => h) (fun _ h => h.elim) ?aF ?aB ?aS ?aL ?_; (case aR => exact cP (Kd.R_reads' HO_3.out).2.2); (case aB => exact (bP HB)); (case aF => exact (fun k_ hk => ⟨Kd.fresh' (Kd.R_lt (rP HO_3)) k_ hk, Kd.fresh' (Kd.R_lt (rP HO357)) k_ hk, Kd.fresh' (Kd.R_lt (rP HO361)) k_ hk⟩)); (case aO => exact (by (with_reducible repeat (first | apply Kd.R_alloc | apply Kd.R_drewN | apply Kd.R_drew)); exact Kd.R_mono HO364.out (fun _ hk => ⟨hk.1.1.2, ⟨hk.1.2, hk.2⟩⟩))); (case aS => exact (below_size (bP HB))); (case aL => have := LMc15.out; omega); intro v366 w45 ho hb hg hat; rw [← Ny365.out] at ho; replace HO_3 := Aside0.mk (Kd.R_after (ok := (fun k_ => some k_ ≠ (v356 : Value).ownBlock ∧ some k_ ≠ (v360 : Value).ownBlock)) (by (with_reducible repeat (first | apply Kd.R_alloc | apply Kd.R_drewN | apply Kd.R_drew)); exact Kd.R_mono HO_3.out (fun _ hk => ⟨⟨hk.1.1.2, hk.1.2⟩, hk.2⟩)) hg hat); replace HO357 := Aside0.mk (Kd.R_after (ok := (fun k_ => oN k_ Ao8 t349 co8 ∧ some k_ ≠ (v360 : Value).ownBlock)) (by (with_reducible repeat (first | apply Kd.R_alloc | apply Kd.R_drewN | apply Kd.R_drew)); exact Kd.R_mono HO357.out (fun _ hk => ⟨⟨hk.1.1.2, hk.1.2⟩, hk.2⟩)) hg hat); replace HO361 := Aside0.mk (Kd.R_after (ok := (fun k_ => oN k_ Ao8 t349 co8 ∧ some k_ ≠ (v356 : Value).ownBlock)) (by (with_reducible repeat (first | apply Kd.R_alloc | apply Kd.R_drewN | apply Kd.R_drew)); exact Kd.R_mono HO361.out (fun _ hk => ⟨⟨hk.1.1.2, hk.1.2⟩, hk.2⟩)) hg hat); replace HB := Aside0.mk (hb); have HO367 := Aside0.mk (ho); clear HO364; clear ho hb hg hat) | ((with_reducible refine gate_builtin (b := .append) (xs := #[.tmp 47, .tmp 50]) rfl ?_); (try (refine gate_guard (by rfl) ?_; dsimp only)); at_builtin; refine Kd.R_append (Kd.int .i64) (w0 := w) w.heap.size rfl (.tmp 47) (.tmp 50) 22 3 (.int .i64 0) 8 rfl Tryd.underlying22 info3 rfl (by decide) (by omega) v366 y365 (t349.length : Int) [.int .i64 (t349.length : Int)] (fun k_ => oN k_ Ao8 t349 co8 ∧ some k_ ≠ (v356 : Value).ownBlock ∧ some k_ ≠ (v360 : Value).ownBlock) (fun _ => False) rfl rfl ?aP (fun _ hk => hk.elim) ?aF ?aO ?aB ?aS ?aL ?_; (case aP => exact rfl); (case aB => exact (bP HB)); (case aF => exact (fun k_ hk => ⟨Kd.fresh' (Kd.R_lt (rP HO_3)) k_ hk, Kd.fresh' (Kd.R_lt (rP HO357)) k_ hk, Kd.fresh' (Kd.R_lt (rP HO361)) k_ hk⟩)); (case aO => exact (rP HO367)); (case aS => exact (below_size (bP HB))); (case aL => have := LMc16.out; omega); intro v369 w46 ho hb hg hat; rw [← Ny368.out] at ho; replace HO_3 := Aside0.mk (Kd.R_after (ok := (fun k_ => some k_ ≠ (v356 : Value).ownBlock ∧ some k_ ≠ (v360 : Value).ownBlock)) (rP HO_3) hg hat); replace HO357 := Aside0.mk (Kd.R_after (ok := (fun k_ => oN k_ Ao8 t349 co8 ∧ some k_ ≠ (v360 : Value).ownBlock)) (rP HO357) hg hat); replace HO361 := Aside0.mk (Kd.R_after (ok := (fun k_ => oN k_ Ao8 t349 co8 ∧ some k_ ≠ (v356 : Value).ownBlock)) (rP HO361) hg hat); replace HB := Aside0.mk (hb); have HO370 := Aside0.mk (ho); clear HO367; clear ho hb hg hat; obtain ⟨Ao47, co47, eo47⟩ := Kd.R_slice HO357.out; subst eo47) | (go_at_call 13; (with_reducible refine (laws_sameInts.calls kj5 _ _ t354 _ _ t349 true _ ?side1 ?side2 ?side3 ?side4 A18.out).mono ?_); (case side1 => exact cP (Kd.R_reads' HO357.out).2.2); (case side2 => exact (Kd.R_reads' HO357.out).2.1); (case side3 => exact cP (Kd.R_reads' HO_3.out).2.2); (case side4 => exact (Kd.R_reads' HO_3.out).2.1); rintro e w' ⟨rfl, ⟨nd, rfl⟩⟩; obtain ⟨Ao48, co48, eo48⟩ := Kd.R_slice HO361.out; subst eo48; obtain ⟨Ao49, co49, eo49⟩ := Kd.R_slice HO370.out; subst eo49) | (go_at_call 13; (with_reducible refine (laws_sameInts.calls kj5 _ _ t358 _ _ y368 t373 _ ?side1 ?side2 ?side3 ?side4 A40.out).mono ?_); (case side1 => exact cP (Kd.R_reads' HO361.out).2.2); (case side2 => exact (Kd.R_reads' HO361.out).2.1); (case side3 => exact cP (Kd.R_reads' HO370.out).2.2); (case side4 => exact (Kd.R_reads' HO370.out).2.1); rintro e w' ⟨rfl, ⟨nd, rfl⟩⟩))
           go_ret
           exact ⟨eR, bP HB⟩
          ·replace c39 := Bool.eq_false_iff.mpr c39
           subst c39
           have H1 : (some false) = some r := by rw [if_neg (show ¬ (false = true) by decide)] at H; exact H
           clear H
           have H := H1
           clear H1
           exact absurd ((Option.some.inj H).trans hr_.out) (by decide)
        ·replace c19 := Bool.eq_false_iff.mpr c19
         subst c19
         have H1 : (some false) = some r := by rw [if_neg (show ¬ (false = true) by decide)] at H; exact H
         clear H
         have H := H1
         clear H1
         exact absurd ((Option.some.inj H).trans hr_.out) (by decide)
       ·replace c17 := Bool.eq_false_iff.mpr c17
        subst c17
        have H1 : (some false) = some r := by rw [if_neg (show ¬ (false = true) by decide)] at H; exact H
        clear H
        have H := H1
        clear H1
        exact absurd ((Option.some.inj H).trans hr_.out) (by decide)
      ·rw [if_neg c16] at H
       exact absurd H (by simp)
     ·rw [if_neg c15] at H
      exact absurd H (by simp)

/-- THE ONE PURE STATEMENT of laws_FnText: yours. -/
def laws_FnText.Pure : Prop := ∀ (l0 : List Int), l0.length ≤ maxLen → l0.length * 1 ≤ 140737488351232 → (∀ x ∈ l0, (Lit.int .u8 x).wf = true) → ∃ k, laws_FnText.f k l0 = some true
theorem laws_FnText.walk (P : laws_FnText.Pure) (a0 : Option Addr) (len0 cap0 : Nat) (z0 : List Int) (w : World) (m0_ : Int) (ev1_ ev2_ : Value) (hm0_ : w.cell? ⟨0, 0, none⟩ = some (.int .i64 m0_)) (hm1_ : w.cell? ⟨1, 0, none⟩ = some ev1_) (hm2_ : w.cell? ⟨2, 0, none⟩ = some ev2_) (hj1_ : ev1_ = .nilIface ∨ ∃ te pe, ev1_ = .iface te pe) (hj2_ : ev2_ = .nilIface ∨ ∃ te pe, ev2_ = .iface te pe) (w0 : (a0 = none ∧ len0 = 0 ∧ cap0 = 0 ∧ z0 = []) ∨ ∃ x, a0 = some x ∧ len0 ≤ cap0 ∧ cap0 ≤ maxLen ∧ z0.length = cap0 ∧ (∀ i, i < z0.length → w.cell? (x.add i) = some (.int .u8 (z0.getD i 0))) ∧ ∀ n ∈ z0, (Lit.int .u8 n).wf = true) (y0 : len0 * 1 ≤ 140737488351232) :
 Calls Tryd.prog 6 #[.slice a0 len0 cap0] w fun e w' => e = .returned (.bool true) ∧ Below w.heap.size w w' := by
 obtain ⟨l0, rfl, hr0, hm0, hw0, hc0⟩ := ReadsInt.ofRowC w0
 obtain ⟨k, h⟩ := P l0 hm0 y0 hw0
 refine (laws_FnText.calls k _ _ l0 true w m0_ ev1_ ev2_ hm0_ hm1_ hm2_ hj1_ hj2_ (Kd.C_of_reads (d := (0 : Int)) (h1 := fun _ => rfl) hr0) hc0 ⟨rfl⟩ h).mono ?_
 rintro e w' ⟨rfl, hd⟩
 exact ⟨rfl, hd⟩

end Go.Proofs.YtieaplnngmgkeaaDoor.F
