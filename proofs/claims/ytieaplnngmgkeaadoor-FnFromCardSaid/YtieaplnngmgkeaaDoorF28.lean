/- Contracts: what these Go functions return. -/
import Derived.Test.YtieaplnngmgkeaaDoorF0
import Derived.Test.YtieaplnngmgkeaaDoorF2
import Derived.Test.YtieaplnngmgkeaaDoorF5
import Derived.Test.YtieaplnngmgkeaaDoorF14
import Derived.Test.YtieaplnngmgkeaaDoorF20
import Derived.Test.YtieaplnngmgkeaaDoorF22
import Derived.Test.YtieaplnngmgkeaaDoorF27
namespace Go.Proofs.YtieaplnngmgkeaaDoor.F
open Go.RowKit Go.Proofs.YtieaplnngmgkeaaDoorW.PrintWords Go.Proofs.YtieaplnngmgkeaaDoorW.PrintLast Go.Proofs.YtieaplnngmgkeaaDoorW.PrintMore
attribute [local go_sem] max2_int min2_int max_two min_two max_three min_three max_four min_four
set_option linter.unusedVariables false
set_option linter.unusedSimpArgs false

/-! ### laws_FnFrom: function 4 -/
def laws_FnFrom.j0 : Nat → Int → ByteArray → List Int → Bool → List Int → Bool → Bool → Option (Bool)
 | 0, _, _, _, _, _, _, _ => none
 | k + 1, x3, x4, x5, x6, x7, x8, x43 => if x43 = true then (if (x6 == x8) = true then ((laws_sameInts.f k x5 x7).bind fun t416 => (some t416)) else (some false)) else (if x4.size + 1 ≤ 9223372036854775807 then ((impl_PermFrom.f k x3 (x4 ++ (⟨#[41]⟩ : ByteArray))).bind fun bt417 => ((impl_PermValid.f x5).bind fun t421 => (if t421 = true then (if (x5.length : Int) = x3 then ((impl_PermText.f k x5).bind fun t422 => (if t422.toList = x4.toList then (some (!bt417.2)) else (some false))) else (some false)) else (some false)))) else (none))
def laws_FnFrom.f (k : Nat) (l0 : List Int) : Option (Bool) := if (l0.length : Int) > 1048576 then (some true) else ((spec_DrawPermFrom.f k l0).bind fun bt405 => ((impl_PermFrom.f k bt405.1 bt405.2).bind fun bt407 => ((spec_PermFrom.f k bt405.1 bt405.2).bind fun bt411 => (if (bt407.2 != bt411.2) = true then (laws_FnFrom.j0 k bt405.1 bt405.2 bt407.1 bt407.2 bt411.1 bt411.2 true) else ((laws_sameInts.f k bt407.1 bt411.1).bind fun t415 => (if t415 = true then (laws_FnFrom.j0 k bt405.1 bt405.2 bt407.1 bt407.2 bt411.1 bt411.2 (!bt407.2)) else (laws_FnFrom.j0 k bt405.1 bt405.2 bt407.1 bt407.2 bt411.1 bt411.2 true)))))))
set_option maxHeartbeats 8000000 in
set_option maxRecDepth 100000 in
theorem laws_FnFrom.calls (k : Nat) (A0 : Option Addr) (c0 : Nat) (l0 : List Int) (r : Bool) (w : World) (m0_ : Int) (ev1_ ev2_ : Value) (hm0_ : w.cell? ⟨0, 0, none⟩ = some (.int .i64 m0_)) (hm1_ : w.cell? ⟨1, 0, none⟩ = some ev1_) (hm2_ : w.cell? ⟨2, 0, none⟩ = some ev2_) (hj1_ : ev1_ = .nilIface ∨ ∃ te pe, ev1_ = .iface te pe) (hj2_ : ev2_ = .nilIface ∨ ∃ te pe, ev2_ = .iface te pe) (hr0 : Kd.C (Kd.int .u8) w A0 l0.length l0) (hc0 : l0.length ≤ c0) (hr_ : Aside0 (r = true)) (h : laws_FnFrom.f k l0 = some r) :
 Calls Tryd.prog 4 #[.slice A0 l0.length c0] w fun e w' => e = .returned (.bool r) ∧ Below w.heap.size w w' := by
 have HR0 := Aside0.mk hr0
 have HC0 := Aside0.mk hc0
 clear hr0 hc0
 have HB := Aside0.mk (Below.refl w.heap.size w)
 have HM0_ := Aside0.mk hm0_
 have HM1_ := Aside0.mk hm1_
 have HM2_ := Aside0.mk hm2_
 have HJ1_ := Aside0.mk hj1_
 have HJ2_ := Aside0.mk hj2_
 clear hm0_ hm1_ hm2_ hj1_ hj2_
 have H : (if (l0.length : Int) > 1048576 then (some true) else ((spec_DrawPermFrom.f k l0).bind fun bt405 => ((impl_PermFrom.f k bt405.1 bt405.2).bind fun bt407 => ((spec_PermFrom.f k bt405.1 bt405.2).bind fun bt411 => (if (bt407.2 != bt411.2) = true then (laws_FnFrom.j0 k bt405.1 bt405.2 bt407.1 bt407.2 bt411.1 bt411.2 true) else ((laws_sameInts.f k bt407.1 bt411.1).bind fun t415 => (if t415 = true then (laws_FnFrom.j0 k bt405.1 bt405.2 bt407.1 bt407.2 bt411.1 bt411.2 (!bt407.2)) else (laws_FnFrom.j0 k bt405.1 bt405.2 bt407.1 bt407.2 bt411.1 bt411.2 true)))))))) = some r := h
 clear h
 by_cases c2 : (l0.length : Int) > 1048576
 ·rw [if_pos c2] at H
  have c2b0 : decide (1048576 < (l0.length : Int)) = true := decide_eq_true c2
  have c2b1 : decide (1048576 < l0.length) = true := decide_eq_true (by omega)
  clear c2
  obtain rfl := Option.some.inj H
  go_enter Tryd.func4, Tryd.ntmps4
  go_wp2
  go_ret
  exact ⟨eR, bP HB⟩
 ·rw [if_neg c2] at H
  have c2b0 : decide (1048576 < (l0.length : Int)) = false := decide_eq_false c2
  have c2b1 : decide (1048576 < l0.length) = false := decide_eq_false (by omega)
  clear c2
  replace H := Option.bind_eq_some_iff.mp H
  obtain ⟨⟨t405, t406⟩, A30, H⟩ := H
  replace H : ((impl_PermFrom.f k t405 t406).bind fun bt407 => ((spec_PermFrom.f k t405 t406).bind fun bt411 => (if (bt407.2 != bt411.2) = true then (laws_FnFrom.j0 k t405 t406 bt407.1 bt407.2 bt411.1 bt411.2 true) else ((laws_sameInts.f k bt407.1 bt411.1).bind fun t415 => (if t415 = true then (laws_FnFrom.j0 k t405 t406 bt407.1 bt407.2 bt411.1 bt411.2 (!bt407.2)) else (laws_FnFrom.j0 k t405 t406 bt407.1 bt407.2 bt411.1 bt411.2 true)))))) = some r := H
  have A3 := Aside0.mk A30
  clear A30
  replace H := Option.bind_eq_some_iff.mp H
  obtain ⟨⟨t407, t408⟩, A40, H⟩ := H
  replace H : ((spec_PermFrom.f k t405 t406).bind fun bt411 => (if (t408 != bt411.2) = true then (laws_FnFrom.j0 k t405 t406 t407 t408 bt411.1 bt411.2 true) else ((laws_sameInts.f k t407 bt411.1).bind fun t415 => (if t415 = true then (laws_FnFrom.j0 k t405 t406 t407 t408 bt411.1 bt411.2 (!t408)) else (laws_FnFrom.j0 k t405 t406 t407 t408 bt411.1 bt411.2 true))))) = some r := H
  have A4 := Aside0.mk A40
  clear A40
  replace H := Option.bind_eq_some_iff.mp H
  obtain ⟨⟨t411, t412⟩, A50, H⟩ := H
  replace H : (if (t408 != t412) = true then (laws_FnFrom.j0 k t405 t406 t407 t408 t411 t412 true) else ((laws_sameInts.f k t407 t411).bind fun t415 => (if t415 = true then (laws_FnFrom.j0 k t405 t406 t407 t408 t411 t412 (!t408)) else (laws_FnFrom.j0 k t405 t406 t407 t408 t411 t412 true)))) = some r := H
  have A5 := Aside0.mk A50
  clear A50
  have HC6 := Aside0.mk H
  clear H
  go_enter Tryd.func4, Tryd.ntmps4
  go_upto_region 6 with (first | ((with_reducible refine gate_callee (f := 12) rfl ?_); refine gL (some 16) Tryd.func12 #[.slice A0 l0.length c0] ?_; (with_reducible refine (spec_DrawPermFrom.calls k _ _ l0 t405 t406 _ ?side1 ?side2 A3.out).mono ?_); (case side1 => repeat (first | exact HR0.out | (with_reducible refine Kd.C_alloc ?_ _) | (with_reducible refine Kd.C_drewN ?_ _) | (with_reducible refine Kd.C_drew ?_))); (case side2 => exact HC0.out); rintro e w7 ⟨rfl, hb⟩; refine ⟨_, rfl, ?_⟩; replace HB := bS HB hb; (try clear hb); (try clear hb2); (try clear hk); (try clear hi)) | ((with_reducible refine gate_callee (f := 8) rfl ?_); refine gL (some 22) Tryd.func8 #[.int .i64 t405, .string t406] ?_; (with_reducible refine (impl_PermFrom.calls k t405 t406 t407 t408 _ m0_ ev1_ ev2_ ?pm0 ?pm1 ?pm2 HJ1_.out HJ2_.out A4.out).mono ?_); (case pm0 => exact (Below.cell (bP HB) (World.block_lt_of_cell? w _ HM0_.out)).trans HM0_.out); (case pm1 => exact (Below.cell (bP HB) (World.block_lt_of_cell? w _ HM1_.out)).trans HM1_.out); (case pm2 => exact (Below.cell (bP HB) (World.block_lt_of_cell? w _ HM2_.out)).trans HM2_.out); rintro e w8 ⟨v409, rfl, ho0, hb⟩; refine ⟨_, rfl, ?_⟩; have HO410 := rL ho0 HB; replace HB := bS HB hb; (try clear hb); (try clear hb2); (try clear hk); (try clear hi); (try clear ho0)) | ((with_reducible refine gate_callee (f := 7) rfl ?_); refine gL (some 28) Tryd.func7 #[.int .i64 t405, .string t406] ?_; (with_reducible refine (spec_PermFrom.calls k t405 t406 t411 t412 _ A5.out).mono ?_); rintro e w9 ⟨v413, rfl, ho0, hb⟩; refine ⟨_, rfl, ?_⟩; have HO414 := Aside0.mk (Kd.R_lower (Kd.R_new' ho0 (Kd.R_lt (rP HO410))) (below_size (bP HB))); replace HO410 := Aside0.mk (Kd.R_elder' (rP HO410) (Kd.R_base ho0) hb); replace HB := bS HB hb; (try clear hb); (try clear hb2); (try clear hk); (try clear hi); (try clear ho0)))
  (try simp only [Act.put, List.setIfInBounds_toArray, List.set_cons_zero, List.set_cons_succ])
  go_cut [43] (fun v43 wc => ∃ (kq : Nat) (x43_5 : Bool), v43 = .bool x43_5 ∧ Aside0 (laws_FnFrom.j0 kq t405 t406 t407 t408 t411 t412 x43_5 = some r) ∧ Aside0 (kq ≤ k) ∧ Aside0 (Kd.R (Kd.int .i64) 3 wc w.heap.size (fun k_ => some k_ ≠ (v413 : Value).ownBlock) v409 t407) ∧ Aside0 (Kd.R (Kd.int .i64) 3 wc w.heap.size (fun k_ => some k_ ≠ (v409 : Value).ownBlock) v413 t411) ∧ Aside0 (Below w.heap.size w wc))
  case first =>
   have H := HC6.out
   clear HC6
   by_cases c10 : (t408 != t412) = true
   ·rw [if_pos c10] at H
    have c10b0 : (t408 != t412) = true := c10
    (try (have c10b1 : decide (t408 = t412) = false := by simpa using c10))
    (try (have c10b2 : (t408 == t412) = false := by simpa using c10))
    (try (have c10b3 : ¬ (t408 = t412) := by simpa using c10))
    clear c10
    (first | rw [c10b0] | (simp only [i64_w, i32_w]; rw [c10b0]) | skip)
    have H' := Aside0.mk H
    clear H
    go_wp2
    go_meet
    case rel => exact ⟨_, (true), eS, H', ⟨by first | omega | exact Nat.le_refl _⟩, ⟨by (with_reducible repeat (first | apply Kd.R_alloc | apply Kd.R_drewN | apply Kd.R_drew)); exact Kd.R_mono HO410.out (fun _ hk => hk.2)⟩, ⟨by (with_reducible repeat (first | apply Kd.R_alloc | apply Kd.R_drewN | apply Kd.R_drew)); exact Kd.R_mono HO414.out (fun _ hk => hk.2)⟩, ⟨bP HB⟩⟩
   ·rw [if_neg c10] at H
    have c10b0 : (t408 != t412) = false := by simpa using c10
    (try (have c10b1 : decide (t408 = t412) = true := by simpa using c10))
    (try (have c10b2 : (t408 == t412) = true := by simpa using c10))
    clear c10
    (first | rw [c10b0] | (simp only [i64_w, i32_w]; rw [c10b0]) | skip)
    replace H := Option.bind_eq_some_iff.mp H
    obtain ⟨t415, A110, H⟩ := H
    replace H : (if t415 = true then (laws_FnFrom.j0 k t405 t406 t407 t408 t411 t412 (!t408)) else (laws_FnFrom.j0 k t405 t406 t407 t408 t411 t412 true)) = some r := H
    have A11 := Aside0.mk A110
    clear A110
    by_cases c12 : t415 = true
    ·subst c12
     have H1 : (laws_FnFrom.j0 k t405 t406 t407 t408 t411 t412 (!t408)) = some r := by rw [if_pos rfl] at H; exact H
     clear H
     have H := H1
     clear H1
     have H' := Aside0.mk H
     clear H
     obtain ⟨Ao13, co13, eo13⟩ := Kd.R_slice HO410.out
     subst eo13
     obtain ⟨Ao14, co14, eo14⟩ := Kd.R_slice HO414.out
     subst eo14
     go_wp2_with (first | (go_at_call 13; (with_reducible refine (laws_sameInts.calls k _ _ t407 _ _ t411 true _ ?side1 ?side2 ?side3 ?side4 A11.out).mono ?_); (case side1 => exact cP (Kd.R_reads' HO410.out).2.2); (case side2 => exact (Kd.R_reads' HO410.out).2.1); (case side3 => exact cP (Kd.R_reads' HO414.out).2.2); (case side4 => exact (Kd.R_reads' HO414.out).2.1); rintro e w' ⟨rfl, ⟨nd, rfl⟩⟩))
     go_meet
     case rel => exact ⟨_, (!t408), eS, H', ⟨by first | omega | exact Nat.le_refl _⟩, ⟨by (with_reducible repeat (first | apply Kd.R_alloc | apply Kd.R_drewN | apply Kd.R_drew)); exact Kd.R_mono HO410.out (fun _ hk => hk.2)⟩, ⟨by (with_reducible repeat (first | apply Kd.R_alloc | apply Kd.R_drewN | apply Kd.R_drew)); exact Kd.R_mono HO414.out (fun _ hk => hk.2)⟩, ⟨bP HB⟩⟩
    ·replace c12 := Bool.eq_false_iff.mpr c12
     subst c12
     have H1 : (laws_FnFrom.j0 k t405 t406 t407 t408 t411 t412 true) = some r := by rw [if_neg (show ¬ (false = true) by decide)] at H; exact H
     clear H
     have H := H1
     clear H1
     have H' := Aside0.mk H
     clear H
     obtain ⟨Ao15, co15, eo15⟩ := Kd.R_slice HO410.out
     subst eo15
     obtain ⟨Ao16, co16, eo16⟩ := Kd.R_slice HO414.out
     subst eo16
     go_wp2_with (first | (go_at_call 13; (with_reducible refine (laws_sameInts.calls k _ _ t407 _ _ t411 false _ ?side1 ?side2 ?side3 ?side4 A11.out).mono ?_); (case side1 => exact cP (Kd.R_reads' HO410.out).2.2); (case side2 => exact (Kd.R_reads' HO410.out).2.1); (case side3 => exact cP (Kd.R_reads' HO414.out).2.2); (case side4 => exact (Kd.R_reads' HO414.out).2.1); rintro e w' ⟨rfl, ⟨nd, rfl⟩⟩))
     go_meet
     case rel => exact ⟨_, (true), eS, H', ⟨by first | omega | exact Nat.le_refl _⟩, ⟨by (with_reducible repeat (first | apply Kd.R_alloc | apply Kd.R_drewN | apply Kd.R_drew)); exact Kd.R_mono HO410.out (fun _ hk => hk.2)⟩, ⟨by (with_reducible repeat (first | apply Kd.R_alloc | apply Kd.R_drewN | apply Kd.R_drew)); exact Kd.R_mono HO414.out (fun _ hk => hk.2)⟩, ⟨bP HB⟩⟩
  case rest =>
   clear HC6
   try clear c1
   try clear c2
   try clear c2b0
   try clear c2b1
   try clear p2
   try clear c4
   try clear c7
   try clear c8
   try clear c10
   try clear c10b0
   try clear c10b1
   try clear c10b2
   try clear c12
   obtain ⟨kq, x43_5, rfl, HA, HJ5, HO_5, HO_7, HB⟩ := hcut
   cases kq with
   | zero => exact absurd HA.out (by simp [laws_FnFrom.j0])
   | succ kj5 =>
    have H := HA.out
    clear HA
    simp only [laws_FnFrom.j0] at H
    by_cases c17 : x43_5 = true
    ·subst c17
     have H1 : (if (t408 == t412) = true then ((laws_sameInts.f kj5 t407 t411).bind fun t416 => (some t416)) else (some false)) = some r := by rw [if_pos rfl] at H; exact H
     clear H
     have H := H1
     clear H1
     by_cases c18 : (t408 == t412) = true
     ·rw [if_pos c18] at H
      have c18b0 : (t408 == t412) = true := c18
      (try (have c18b1 : decide (t408 = t412) = true := by simpa using c18))
      (try (have c18b2 : (t408 == t412) = true := by simpa using c18))
      clear c18
      replace H := Option.bind_eq_some_iff.mp H
      obtain ⟨t416, A190, H⟩ := H
      replace H : (some t416) = some r := H
      have A19 := Aside0.mk A190
      clear A190
      obtain rfl := Option.some.inj H
      obtain ⟨Ao20, co20, eo20⟩ := Kd.R_slice HO_5.out
      subst eo20
      obtain ⟨Ao21, co21, eo21⟩ := Kd.R_slice HO_7.out
      subst eo21
      go_wp2_with (first | (go_at_call 13; (with_reducible refine (laws_sameInts.calls kj5 _ _ t407 _ _ t411 t416 _ ?side1 ?side2 ?side3 ?side4 A19.out).mono ?_); (case side1 => exact cP (Kd.R_reads' HO_5.out).2.2); (case side2 => exact (Kd.R_reads' HO_5.out).2.1); (case side3 => exact cP (Kd.R_reads' HO_7.out).2.2); (case side4 => exact (Kd.R_reads' HO_7.out).2.1); rintro e w' ⟨rfl, ⟨nd, rfl⟩⟩))
      go_ret
      exact ⟨eR, bP HB⟩
     ·rw [if_neg c18] at H
      have c18b0 : (t408 == t412) = false := by simpa using c18
      (try (have c18b1 : decide (t408 = t412) = false := by simpa using c18))
      (try (have c18b2 : (t408 == t412) = false := by simpa using c18))
      (try (have c18b3 : ¬ (t408 = t412) := by simpa using c18))
      clear c18
      exact absurd ((Option.some.inj H).trans hr_.out) (by decide)
    ·replace c17 := Bool.eq_false_iff.mpr c17
     subst c17
     have H1 : (if t406.size + 1 ≤ 9223372036854775807 then ((impl_PermFrom.f kj5 t405 (t406 ++ (⟨#[41]⟩ : ByteArray))).bind fun bt417 => ((impl_PermValid.f t407).bind fun t421 => (if t421 = true then (if (t407.length : Int) = t405 then ((impl_PermText.f kj5 t407).bind fun t422 => (if t422.toList = t406.toList then (some (!bt417.2)) else (some false))) else (some false)) else (some false)))) else (none)) = some r := by rw [if_neg (show ¬ (false = true) by decide)] at H; exact H
     clear H
     have H := H1
     clear H1
     by_cases c22 : t406.size + 1 ≤ 9223372036854775807
     ·rw [if_pos c22] at H
      have c22b0 := eq_true c22
      have c22b1 : decide (t406.size + 1 ≤ 9223372036854775807) = true := decide_eq_true c22
      try have c22b2 : (9223372036854775807 < t406.size + 1) = False := eq_false (Nat.not_lt.2 c22)
      replace H := Option.bind_eq_some_iff.mp H
      obtain ⟨⟨t417, t418⟩, A230, H⟩ := H
      replace H : ((impl_PermValid.f t407).bind fun t421 => (if t421 = true then (if (t407.length : Int) = t405 then ((impl_PermText.f kj5 t407).bind fun t422 => (if t422.toList = t406.toList then (some (!t418)) else (some false))) else (some false)) else (some false))) = some r := H
      have A23 := Aside0.mk A230
      clear A230
      replace H := Option.bind_eq_some_iff.mp H
      obtain ⟨t421, A240, H⟩ := H
      replace H : (if t421 = true then (if (t407.length : Int) = t405 then ((impl_PermText.f kj5 t407).bind fun t422 => (if t422.toList = t406.toList then (some (!t418)) else (some false))) else (some false)) else (some false)) = some r := H
      have A24 := Aside0.mk A240
      clear A240
      by_cases c25 : t421 = true
      ·subst c25
       have H1 : (if (t407.length : Int) = t405 then ((impl_PermText.f kj5 t407).bind fun t422 => (if t422.toList = t406.toList then (some (!t418)) else (some false))) else (some false)) = some r := by rw [if_pos rfl] at H; exact H
       clear H
       have H := H1
       clear H1
       by_cases c26 : (t407.length : Int) = t405
       ·rw [if_pos c26] at H
        have c26b0 : ((t407.length : Int) == t405) = true := beq_iff_eq.mpr c26
        have c26b1 : ((t407.length : Int) != t405) = false := bne_eq_false_iff_eq.mpr c26
        clear c26
        replace H := Option.bind_eq_some_iff.mp H
        obtain ⟨t422, A270, H⟩ := H
        replace H : (if t422.toList = t406.toList then (some (!t418)) else (some false)) = some r := H
        have A27 := Aside0.mk A270
        clear A270
        by_cases c28 : t422.toList = t406.toList
        ·rw [if_pos c28] at H
         have c28b0 : (t422.toList == t406.toList) = true := beq_iff_eq.mpr c28
         have c28b1 : (t422.toList != t406.toList) = false := bne_eq_false_iff_eq.mpr c28
         clear c28
         obtain rfl := Option.some.inj H
         go_wp2_with (first | ((with_reducible refine gate_callee (f := 8) rfl ?_); refine gL (some 56) Tryd.func8 #[.int .i64 t405, .string (t406 ++ (⟨#[41]⟩ : ByteArray))] ?_; (with_reducible refine (impl_PermFrom.calls kj5 t405 (t406 ++ (⟨#[41]⟩ : ByteArray)) t417 t418 _ m0_ ev1_ ev2_ ?pm0 ?pm1 ?pm2 HJ1_.out HJ2_.out A23.out).mono ?_); (case pm0 => exact (Below.cell (bP HB) (World.block_lt_of_cell? w _ HM0_.out)).trans HM0_.out); (case pm1 => exact (Below.cell (bP HB) (World.block_lt_of_cell? w _ HM1_.out)).trans HM1_.out); (case pm2 => exact (Below.cell (bP HB) (World.block_lt_of_cell? w _ HM2_.out)).trans HM2_.out); rintro e w29 ⟨v419, rfl, ho0, hb⟩; refine ⟨_, rfl, ?_⟩; have HO420 := Aside0.mk (Kd.R_lower (Kd.R_new' (Kd.R_new' ho0 (Kd.R_lt (rP HO_5))) (Kd.R_lt (rP HO_7))) (below_size (bP HB))); replace HO_5 := Aside0.mk (Kd.R_elder' (rP HO_5) (Kd.R_base ho0) hb); replace HO_7 := Aside0.mk (Kd.R_elder' (rP HO_7) (Kd.R_base ho0) hb); replace HB := bS HB hb; (try clear hb); (try clear hb2); (try clear hk); (try clear hi); (try clear ho0); obtain ⟨Ao30, co30, eo30⟩ := Kd.R_slice HO_5.out; subst eo30) | ((with_reducible refine gate_callee (f := 14) rfl ?_); refine gL (some 60) Tryd.func14 #[.slice Ao30 t407.length co30] ?_; (with_reducible refine (impl_PermValid.calls _ _ t407 true _ ?side1 ?side2 A24.out).mono ?_); (case side1 => exact cP (Kd.R_reads' HO_5.out).2.2); (case side2 => exact (Kd.R_reads' HO_5.out).2.1); rintro e w31 ⟨rfl, hb⟩; refine ⟨_, rfl, ?_⟩; replace HO_5 := rB HO_5 hb; replace HO_7 := rB HO_7 hb; replace HO420 := rB HO420 hb; replace HB := bS HB hb; (try clear hb); (try clear hb2); (try clear hk); (try clear hi)) | (go_at_call 15; (with_reducible refine (impl_PermText.calls kj5 _ _ t407 t422 _ ?side1 ?side2 A27.out).mono ?_); (case side1 => exact cP (Kd.R_reads' HO_5.out).2.2); (case side2 => exact (Kd.R_reads' HO_5.out).2.1); rintro e w32 ⟨rfl, hb⟩; replace HO_5 := rB HO_5 hb; replace HO_7 := rB HO_7 hb; replace HO420 := rB HO420 hb; replace HB := bS HB hb; (try clear hb); (try clear hb2); (try clear hk); (try clear hi)))
         go_ret
         exact ⟨eR, bP HB⟩
        ·rw [if_neg c28] at H
         have c28b0 : (t422.toList == t406.toList) = false := beq_eq_false_iff_ne.mpr c28
         have c28b1 : (t422.toList != t406.toList) = true := bne_iff_ne.mpr c28
         exact absurd ((Option.some.inj H).trans hr_.out) (by decide)
       ·rw [if_neg c26] at H
        have c26b0 : ((t407.length : Int) == t405) = false := beq_eq_false_iff_ne.mpr c26
        have c26b1 : ((t407.length : Int) != t405) = true := bne_iff_ne.mpr c26
        exact absurd ((Option.some.inj H).trans hr_.out) (by decide)
      ·replace c25 := Bool.eq_false_iff.mpr c25
       subst c25
       have H1 : (some false) = some r := by rw [if_neg (show ¬ (false = true) by decide)] at H; exact H
       clear H
       have H := H1
       clear H1
       exact absurd ((Option.some.inj H).trans hr_.out) (by decide)
     ·rw [if_neg c22] at H
      exact absurd H (by simp)

/-- THE ONE PURE STATEMENT of laws_FnFrom: yours. -/
def laws_FnFrom.Pure : Prop := ∀ (l0 : List Int), l0.length ≤ maxLen → l0.length * 1 ≤ 140737488351232 → (∀ x ∈ l0, (Lit.int .u8 x).wf = true) → ∃ k, laws_FnFrom.f k l0 = some true
theorem laws_FnFrom.walk (P : laws_FnFrom.Pure) (a0 : Option Addr) (len0 cap0 : Nat) (z0 : List Int) (w : World) (m0_ : Int) (ev1_ ev2_ : Value) (hm0_ : w.cell? ⟨0, 0, none⟩ = some (.int .i64 m0_)) (hm1_ : w.cell? ⟨1, 0, none⟩ = some ev1_) (hm2_ : w.cell? ⟨2, 0, none⟩ = some ev2_) (hj1_ : ev1_ = .nilIface ∨ ∃ te pe, ev1_ = .iface te pe) (hj2_ : ev2_ = .nilIface ∨ ∃ te pe, ev2_ = .iface te pe) (w0 : (a0 = none ∧ len0 = 0 ∧ cap0 = 0 ∧ z0 = []) ∨ ∃ x, a0 = some x ∧ len0 ≤ cap0 ∧ cap0 ≤ maxLen ∧ z0.length = cap0 ∧ (∀ i, i < z0.length → w.cell? (x.add i) = some (.int .u8 (z0.getD i 0))) ∧ ∀ n ∈ z0, (Lit.int .u8 n).wf = true) (y0 : len0 * 1 ≤ 140737488351232) :
 Calls Tryd.prog 4 #[.slice a0 len0 cap0] w fun e w' => e = .returned (.bool true) ∧ Below w.heap.size w w' := by
 obtain ⟨l0, rfl, hr0, hm0, hw0, hc0⟩ := ReadsInt.ofRowC w0
 obtain ⟨k, h⟩ := P l0 hm0 y0 hw0
 refine (laws_FnFrom.calls k _ _ l0 true w m0_ ev1_ ev2_ hm0_ hm1_ hm2_ hj1_ hj2_ (Kd.C_of_reads (d := (0 : Int)) (h1 := fun _ => rfl) hr0) hc0 ⟨rfl⟩ h).mono ?_
 rintro e w' ⟨rfl, hd⟩
 exact ⟨rfl, hd⟩

end Go.Proofs.YtieaplnngmgkeaaDoor.F
