/- Contracts: what these Go functions return. -/
import Derived.Test.YteffimfifgnleaaF0
import Derived.Test.YteffimfifgnleaaF17
import Derived.Test.YteffimfifgnleaaF23
import Derived.Test.YteffimfifgnleaaF24
import Derived.Test.YteffimfifgnleaaF25
import Derived.Test.YteffimfifgnleaaF26
import Derived.Test.YteffimfifgnleaaF27
namespace Go.Proofs.Yteffimfifgnleaa.F
open Go.RowKit Go.Proofs.YteffimfifgnleaaW.PrintWords Go.Proofs.YteffimfifgnleaaW.PrintLast Go.Proofs.YteffimfifgnleaaW.PrintMore
attribute [local go_sem] max2_int min2_int max_two min_two max_three min_three max_four min_four
set_option linter.unusedVariables false
set_option linter.unusedSimpArgs false

/-! ### laws_FnBack: function 4 -/
def laws_FnBack.j0 : Nat → List Int → List Int → Bool → List Int → Bool → Bool → Option (Bool)
 | 0, _, _, _, _, _, _ => none
 | k + 1, x3, x4, x5, x6, x7, x45 => if x45 = true then (if (x5 == x7) = true then ((laws_sameInts.f k x4 x6).bind fun t443 => (some t443)) else (some false)) else ((impl_PermBack.f k x4).bind fun bt444 => ((impl_PermMul.f k x3 x4).bind fun bt448 => ((impl_PermMul.f k x4 x3).bind fun bt452 => ((impl_PermType.f k x3).bind fun bt456 => ((impl_PermType.f k x4).bind fun bt460 => (if bt444.2 = true then (if bt448.2 = true then (if bt452.2 = true then (if bt456.2 = true then (if bt460.2 = true then ((laws_sameInts.f k bt444.1 x3).bind fun t464 => (if t464 = true then ((laws_stayOf.f k (x3.length : Int)).bind fun t465 => ((laws_sameInts.f k bt448.1 t465).bind fun t468 => (if t468 = true then ((laws_stayOf.f k (x3.length : Int)).bind fun t469 => ((laws_sameInts.f k bt452.1 t469).bind fun t472 => (if t472 = true then ((laws_sameInts.f k bt456.1 bt460.1).bind fun t473 => (some t473)) else (some false)))) else (some false)))) else (some false))) else (some false)) else (some false)) else (some false)) else (some false)) else (some false)))))))
def laws_FnBack.f (k : Nat) (l0 : List Int) : Option (Bool) := if (l0.length : Int) > 1048576 then (some true) else ((spec_DrawPermBack.f k l0).bind fun t431 => ((impl_PermBack.f k t431).bind fun bt434 => ((spec_PermBack.f k t431).bind fun bt438 => (if (bt434.2 != bt438.2) = true then (laws_FnBack.j0 k t431 bt434.1 bt434.2 bt438.1 bt438.2 true) else ((laws_sameInts.f k bt434.1 bt438.1).bind fun t442 => (if t442 = true then (laws_FnBack.j0 k t431 bt434.1 bt434.2 bt438.1 bt438.2 (!bt434.2)) else (laws_FnBack.j0 k t431 bt434.1 bt434.2 bt438.1 bt438.2 true)))))))
theorem laws_FnBack.mono_l : ∀ k, (∀ y0 y1 y2 y3 y4 y5, LeO (laws_FnBack.j0 k y0 y1 y2 y3 y4 y5) (laws_FnBack.j0 (k + 1) y0 y1 y2 y3 y4 y5))
 | 0 => fun _ _ _ _ _ _ r h => by simp [laws_FnBack.j0] at h
 | k + 1 => by
  have ih0 := laws_FnBack.mono_l k
  ·intro y0 y1 y2 y3 y4 y5
   unfold laws_FnBack.j0
   repeat' first
   | (with_reducible exact ih0 _ _ _ _ _ _)
   | (with_reducible exact impl_PermBack.mono _ _)
   | (with_reducible exact impl_PermMul.mono _ _ _)
   | (with_reducible exact impl_PermType.mono _ _)
   | (with_reducible exact laws_sameInts.mono _ _ _)
   | (with_reducible exact laws_stayOf.mono _ _)
   | (with_reducible exact spec_DrawPermBack.mono _ _)
   | (with_reducible exact spec_PermBack.mono _ _)
   | (with_reducible exact LeO.refl _)
   | (with_reducible exact LeO.none _)
   | (with_reducible refine LeO.ite ?_ ?_)
   | (with_reducible refine LeO.bind ?_ (fun _ => ?_))
   | exact ih0 _ _ _ _ _ _
   | exact impl_PermBack.mono _ _
   | exact impl_PermMul.mono _ _ _
   | exact impl_PermType.mono _ _
   | exact laws_sameInts.mono _ _ _
   | exact laws_stayOf.mono _ _
   | exact spec_DrawPermBack.mono _ _
   | exact spec_PermBack.mono _ _
   | exact LeO.none _
   | refine LeO.ite ?_ ?_
   | refine LeO.bind ?_ (fun _ => ?_)
theorem laws_FnBack.mono : ∀ a0 k, LeO (laws_FnBack.f k a0) (laws_FnBack.f (k + 1) a0) := by
 intro a0 k
 have ih0 := laws_FnBack.mono_l k
 unfold laws_FnBack.f
 repeat' first
  | (with_reducible exact ih0 _ _ _ _ _ _)
  | (with_reducible exact impl_PermBack.mono _ _)
  | (with_reducible exact impl_PermMul.mono _ _ _)
  | (with_reducible exact impl_PermType.mono _ _)
  | (with_reducible exact laws_sameInts.mono _ _ _)
  | (with_reducible exact laws_stayOf.mono _ _)
  | (with_reducible exact spec_DrawPermBack.mono _ _)
  | (with_reducible exact spec_PermBack.mono _ _)
  | (with_reducible exact LeO.refl _)
  | (with_reducible exact LeO.none _)
  | (with_reducible refine LeO.ite ?_ ?_)
  | (with_reducible refine LeO.bind ?_ (fun _ => ?_))
  | exact ih0 _ _ _ _ _ _
  | exact impl_PermBack.mono _ _
  | exact impl_PermMul.mono _ _ _
  | exact impl_PermType.mono _ _
  | exact laws_sameInts.mono _ _ _
  | exact laws_stayOf.mono _ _
  | exact spec_DrawPermBack.mono _ _
  | exact spec_PermBack.mono _ _
  | exact LeO.none _
  | refine LeO.ite ?_ ?_
  | refine LeO.bind ?_ (fun _ => ?_)
set_option maxHeartbeats 8000000 in
set_option maxRecDepth 100000 in
theorem laws_FnBack.calls (k : Nat) (A0 : Option Addr) (c0 : Nat) (l0 : List Int) (r : Bool) (w : World) (hr0 : Kd.C (Kd.int .u8) w A0 l0.length l0) (hc0 : l0.length ≤ c0) (hr_ : Aside0 (r = true)) (h : laws_FnBack.f k l0 = some r) :
 Calls Try.prog 4 #[.slice A0 l0.length c0] w fun e w' => e = .returned (.bool r) ∧ Below w.heap.size w w' := by
 have HR0 := Aside0.mk hr0
 have HC0 := Aside0.mk hc0
 clear hr0 hc0
 have HB := Aside0.mk (Below.refl w.heap.size w)
 have H : (if (l0.length : Int) > 1048576 then (some true) else ((spec_DrawPermBack.f k l0).bind fun t431 => ((impl_PermBack.f k t431).bind fun bt434 => ((spec_PermBack.f k t431).bind fun bt438 => (if (bt434.2 != bt438.2) = true then (laws_FnBack.j0 k t431 bt434.1 bt434.2 bt438.1 bt438.2 true) else ((laws_sameInts.f k bt434.1 bt438.1).bind fun t442 => (if t442 = true then (laws_FnBack.j0 k t431 bt434.1 bt434.2 bt438.1 bt438.2 (!bt434.2)) else (laws_FnBack.j0 k t431 bt434.1 bt434.2 bt438.1 bt438.2 true)))))))) = some r := h
 clear h
 by_cases c2 : (l0.length : Int) > 1048576
 ·rw [if_pos c2] at H
  have c2b0 : decide (1048576 < (l0.length : Int)) = true := decide_eq_true c2
  have c2b1 : decide (1048576 < l0.length) = true := decide_eq_true (by omega)
  clear c2
  obtain rfl := Option.some.inj H
  go_enter Try.func4, Try.ntmps4
  go_wp2
  go_ret
  exact ⟨eR, bP HB⟩
 ·rw [if_neg c2] at H
  have c2b0 : decide (1048576 < (l0.length : Int)) = false := decide_eq_false c2
  have c2b1 : decide (1048576 < l0.length) = false := decide_eq_false (by omega)
  clear c2
  replace H := Option.bind_eq_some_iff.mp H
  obtain ⟨t431, A30, H⟩ := H
  replace H : ((impl_PermBack.f k t431).bind fun bt434 => ((spec_PermBack.f k t431).bind fun bt438 => (if (bt434.2 != bt438.2) = true then (laws_FnBack.j0 k t431 bt434.1 bt434.2 bt438.1 bt438.2 true) else ((laws_sameInts.f k bt434.1 bt438.1).bind fun t442 => (if t442 = true then (laws_FnBack.j0 k t431 bt434.1 bt434.2 bt438.1 bt438.2 (!bt434.2)) else (laws_FnBack.j0 k t431 bt434.1 bt434.2 bt438.1 bt438.2 true)))))) = some r := H
  have A3 := Aside0.mk A30
  clear A30
  replace H := Option.bind_eq_some_iff.mp H
  obtain ⟨⟨t434, t435⟩, A40, H⟩ := H
  replace H : ((spec_PermBack.f k t431).bind fun bt438 => (if (t435 != bt438.2) = true then (laws_FnBack.j0 k t431 t434 t435 bt438.1 bt438.2 true) else ((laws_sameInts.f k t434 bt438.1).bind fun t442 => (if t442 = true then (laws_FnBack.j0 k t431 t434 t435 bt438.1 bt438.2 (!t435)) else (laws_FnBack.j0 k t431 t434 t435 bt438.1 bt438.2 true))))) = some r := H
  have A4 := Aside0.mk A40
  clear A40
  replace H := Option.bind_eq_some_iff.mp H
  obtain ⟨⟨t438, t439⟩, A50, H⟩ := H
  replace H : (if (t435 != t439) = true then (laws_FnBack.j0 k t431 t434 t435 t438 t439 true) else ((laws_sameInts.f k t434 t438).bind fun t442 => (if t442 = true then (laws_FnBack.j0 k t431 t434 t435 t438 t439 (!t435)) else (laws_FnBack.j0 k t431 t434 t435 t438 t439 true)))) = some r := H
  have A5 := Aside0.mk A50
  clear A50
  have HC6 := Aside0.mk H
  clear H
  go_enter Try.func4, Try.ntmps4
  go_upto_region 6 with (first | ((with_reducible refine gate_callee (f := 15) rfl ?_); refine gL (some 22) Try.func15 #[.slice A0 l0.length c0] ?_; (with_reducible refine (spec_DrawPermBack.calls k _ _ l0 t431 _ ?side1 ?side2 A3.out).mono ?_); (case side1 => repeat (first | exact HR0.out | (with_reducible refine Kd.C_alloc ?_ _) | (with_reducible refine Kd.C_drewN ?_ _) | (with_reducible refine Kd.C_drew ?_))); (case side2 => exact HC0.out); rintro e w7 ⟨v432, rfl, ho0, hb⟩; refine ⟨_, rfl, ?_⟩; have HO433 := rL ho0 HB; replace HB := bS HB hb; (try clear hb); (try clear hb2); (try clear hk); (try clear hi); (try clear ho0); obtain ⟨Ao8, co8, eo8⟩ := Kd.R_slice HO433.out; subst eo8) | ((with_reducible refine gate_callee (f := 16) rfl ?_); refine gL (some 25) Try.func16 #[.slice Ao8 t431.length co8] ?_; (with_reducible refine (impl_PermBack.calls k _ _ t431 t434 t435 _ ?side1 ?side2 A4.out).mono ?_); (case side1 => exact cP (Kd.R_reads' HO433.out).2.2); (case side2 => exact (Kd.R_reads' HO433.out).2.1); rintro e w9 ⟨v436, rfl, ho0, hb⟩; refine ⟨_, rfl, ?_⟩; have HO437 := Aside0.mk (Kd.R_lower (Kd.R_new' ho0 (Kd.R_lt (rP HO433))) (below_size (bP HB))); replace HO433 := Aside0.mk (Kd.R_elder' (rP HO433) (Kd.R_base ho0) hb); replace HB := bS HB hb; (try clear hb); (try clear hb2); (try clear hk); (try clear hi); (try clear ho0)) | ((with_reducible refine gate_callee (f := 17) rfl ?_); refine gL (some 30) Try.func17 #[.slice Ao8 t431.length co8] ?_; (with_reducible refine (spec_PermBack.calls k _ _ t431 t438 t439 _ ?side1 ?side2 A5.out).mono ?_); (case side1 => exact cP (Kd.R_reads' HO433.out).2.2); (case side2 => exact (Kd.R_reads' HO433.out).2.1); rintro e w10 ⟨v440, rfl, ho0, hb⟩; refine ⟨_, rfl, ?_⟩; have HO441 := Aside0.mk (Kd.R_lower (Kd.R_new' (Kd.R_new' ho0 (Kd.R_lt (rP HO433))) (Kd.R_lt (rP HO437))) (below_size (bP HB))); replace HO433 := Aside0.mk (Kd.R_elder' (rP HO433) (Kd.R_base ho0) hb); replace HO437 := Aside0.mk (Kd.R_elder' (rP HO437) (Kd.R_base ho0) hb); replace HB := bS HB hb; (try clear hb); (try clear hb2); (try clear hk); (try clear hi); (try clear ho0)))
  (try simp only [Act.put, List.setIfInBounds_toArray, List.set_cons_zero, List.set_cons_succ])
  go_cut [45] (fun v45 wc => ∃ (kq : Nat) (x45_5 : Bool), v45 = .bool x45_5 ∧ Aside0 (laws_FnBack.j0 kq t431 t434 t435 t438 t439 x45_5 = some r) ∧ Aside0 (kq ≤ k) ∧ Aside0 (Kd.R (Kd.int .i64) 3 wc w.heap.size (fun k_ => some k_ ≠ (v436 : Value).ownBlock ∧ some k_ ≠ (v440 : Value).ownBlock) (.slice Ao8 t431.length co8) t431) ∧ Aside0 (Kd.R (Kd.int .i64) 3 wc w.heap.size (fun k_ => some k_ ≠ ((.slice Ao8 t431.length co8) : Value).ownBlock ∧ some k_ ≠ (v440 : Value).ownBlock) v436 t434) ∧ Aside0 (Kd.R (Kd.int .i64) 3 wc w.heap.size (fun k_ => some k_ ≠ ((.slice Ao8 t431.length co8) : Value).ownBlock ∧ some k_ ≠ (v436 : Value).ownBlock) v440 t438) ∧ Aside0 (Below w.heap.size w wc))
  case first =>
   have H := HC6.out
   clear HC6
   by_cases c11 : (t435 != t439) = true
   ·rw [if_pos c11] at H
    have c11b0 : (t435 != t439) = true := c11
    (try (have c11b1 : decide (t435 = t439) = false := by simpa using c11))
    (try (have c11b2 : (t435 == t439) = false := by simpa using c11))
    (try (have c11b3 : ¬ (t435 = t439) := by simpa using c11))
    clear c11
    (first | rw [c11b0] | (simp only [i64_w, i32_w]; rw [c11b0]) | skip)
    have H' := Aside0.mk H
    clear H
    go_wp2
    go_meet
    case rel => exact ⟨_, (true), eS, H', ⟨by first | omega | exact Nat.le_refl _⟩, ⟨by (with_reducible repeat (first | apply Kd.R_alloc | apply Kd.R_drewN | apply Kd.R_drew)); exact Kd.R_mono HO433.out (fun _ hk => ⟨hk.1.2, hk.2⟩)⟩, ⟨by (with_reducible repeat (first | apply Kd.R_alloc | apply Kd.R_drewN | apply Kd.R_drew)); exact Kd.R_mono HO437.out (fun _ hk => ⟨hk.1.2, hk.2⟩)⟩, ⟨by (with_reducible repeat (first | apply Kd.R_alloc | apply Kd.R_drewN | apply Kd.R_drew)); exact Kd.R_mono HO441.out (fun _ hk => ⟨hk.1.2, hk.2⟩)⟩, ⟨bP HB⟩⟩
   ·rw [if_neg c11] at H
    have c11b0 : (t435 != t439) = false := by simpa using c11
    (try (have c11b1 : decide (t435 = t439) = true := by simpa using c11))
    (try (have c11b2 : (t435 == t439) = true := by simpa using c11))
    clear c11
    (first | rw [c11b0] | (simp only [i64_w, i32_w]; rw [c11b0]) | skip)
    replace H := Option.bind_eq_some_iff.mp H
    obtain ⟨t442, A120, H⟩ := H
    replace H : (if t442 = true then (laws_FnBack.j0 k t431 t434 t435 t438 t439 (!t435)) else (laws_FnBack.j0 k t431 t434 t435 t438 t439 true)) = some r := H
    have A12 := Aside0.mk A120
    clear A120
    by_cases c13 : t442 = true
    ·subst c13
     have H1 : (laws_FnBack.j0 k t431 t434 t435 t438 t439 (!t435)) = some r := by rw [if_pos rfl] at H; exact H
     clear H
     have H := H1
     clear H1
     have H' := Aside0.mk H
     clear H
     obtain ⟨Ao14, co14, eo14⟩ := Kd.R_slice HO437.out
     subst eo14
     obtain ⟨Ao15, co15, eo15⟩ := Kd.R_slice HO441.out
     subst eo15
     go_wp2_with (first | (go_at_call 18; (with_reducible refine (laws_sameInts.calls k _ _ t434 _ _ t438 true _ ?side1 ?side2 ?side3 ?side4 A12.out).mono ?_); (case side1 => exact cP (Kd.R_reads' HO437.out).2.2); (case side2 => exact (Kd.R_reads' HO437.out).2.1); (case side3 => exact cP (Kd.R_reads' HO441.out).2.2); (case side4 => exact (Kd.R_reads' HO441.out).2.1); rintro e w' ⟨rfl, ⟨nd, rfl⟩⟩))
     go_meet
     case rel => exact ⟨_, (!t435), eS, H', ⟨by first | omega | exact Nat.le_refl _⟩, ⟨by (with_reducible repeat (first | apply Kd.R_alloc | apply Kd.R_drewN | apply Kd.R_drew)); exact Kd.R_mono HO433.out (fun _ hk => ⟨hk.1.2, hk.2⟩)⟩, ⟨by (with_reducible repeat (first | apply Kd.R_alloc | apply Kd.R_drewN | apply Kd.R_drew)); exact Kd.R_mono HO437.out (fun _ hk => ⟨hk.1.2, hk.2⟩)⟩, ⟨by (with_reducible repeat (first | apply Kd.R_alloc | apply Kd.R_drewN | apply Kd.R_drew)); exact Kd.R_mono HO441.out (fun _ hk => ⟨hk.1.2, hk.2⟩)⟩, ⟨bP HB⟩⟩
    ·replace c13 := Bool.eq_false_iff.mpr c13
     subst c13
     have H1 : (laws_FnBack.j0 k t431 t434 t435 t438 t439 true) = some r := by rw [if_neg (show ¬ (false = true) by decide)] at H; exact H
     clear H
     have H := H1
     clear H1
     have H' := Aside0.mk H
     clear H
     obtain ⟨Ao16, co16, eo16⟩ := Kd.R_slice HO437.out
     subst eo16
     obtain ⟨Ao17, co17, eo17⟩ := Kd.R_slice HO441.out
     subst eo17
     go_wp2_with (first | (go_at_call 18; (with_reducible refine (laws_sameInts.calls k _ _ t434 _ _ t438 false _ ?side1 ?side2 ?side3 ?side4 A12.out).mono ?_); (case side1 => exact cP (Kd.R_reads' HO437.out).2.2); (case side2 => exact (Kd.R_reads' HO437.out).2.1); (case side3 => exact cP (Kd.R_reads' HO441.out).2.2); (case side4 => exact (Kd.R_reads' HO441.out).2.1); rintro e w' ⟨rfl, ⟨nd, rfl⟩⟩))
     go_meet
     case rel => exact ⟨_, (true), eS, H', ⟨by first | omega | exact Nat.le_refl _⟩, ⟨by (with_reducible repeat (first | apply Kd.R_alloc | apply Kd.R_drewN | apply Kd.R_drew)); exact Kd.R_mono HO433.out (fun _ hk => ⟨hk.1.2, hk.2⟩)⟩, ⟨by (with_reducible repeat (first | apply Kd.R_alloc | apply Kd.R_drewN | apply Kd.R_drew)); exact Kd.R_mono HO437.out (fun _ hk => ⟨hk.1.2, hk.2⟩)⟩, ⟨by (with_reducible repeat (first | apply Kd.R_alloc | apply Kd.R_drewN | apply Kd.R_drew)); exact Kd.R_mono HO441.out (fun _ hk => ⟨hk.1.2, hk.2⟩)⟩, ⟨bP HB⟩⟩
  case rest =>
   clear HC6
   try clear c1
   try clear c2
   try clear c2b0
   try clear c2b1
   try clear p2
   try clear c4
   try clear c11
   try clear c11b0
   try clear c11b1
   try clear c11b2
   try clear c13
   try clear c15
   try clear c16
   try clear c17
   obtain ⟨kq, x45_5, rfl, HA, HJ5, HO_3, HO_4, HO_6, HB⟩ := hcut
   cases kq with
   | zero => exact absurd HA.out (by simp [laws_FnBack.j0])
   | succ kj5 =>
    have H := HA.out
    clear HA
    simp only [laws_FnBack.j0] at H
    by_cases c18 : x45_5 = true
    ·subst c18
     have H1 : (if (t435 == t439) = true then ((laws_sameInts.f kj5 t434 t438).bind fun t443 => (some t443)) else (some false)) = some r := by rw [if_pos rfl] at H; exact H
     clear H
     have H := H1
     clear H1
     by_cases c19 : (t435 == t439) = true
     ·rw [if_pos c19] at H
      have c19b0 : (t435 == t439) = true := c19
      (try (have c19b1 : decide (t435 = t439) = true := by simpa using c19))
      (try (have c19b2 : (t435 == t439) = true := by simpa using c19))
      clear c19
      replace H := Option.bind_eq_some_iff.mp H
      obtain ⟨t443, A200, H⟩ := H
      replace H : (some t443) = some r := H
      have A20 := Aside0.mk A200
      clear A200
      obtain rfl := Option.some.inj H
      obtain ⟨Ao21, co21, eo21⟩ := Kd.R_slice HO_4.out
      subst eo21
      obtain ⟨Ao22, co22, eo22⟩ := Kd.R_slice HO_6.out
      subst eo22
      go_wp2_with (first | (go_at_call 18; (with_reducible refine (laws_sameInts.calls kj5 _ _ t434 _ _ t438 t443 _ ?side1 ?side2 ?side3 ?side4 A20.out).mono ?_); (case side1 => exact cP (Kd.R_reads' HO_4.out).2.2); (case side2 => exact (Kd.R_reads' HO_4.out).2.1); (case side3 => exact cP (Kd.R_reads' HO_6.out).2.2); (case side4 => exact (Kd.R_reads' HO_6.out).2.1); rintro e w' ⟨rfl, ⟨nd, rfl⟩⟩))
      go_ret
      exact ⟨eR, bP HB⟩
     ·rw [if_neg c19] at H
      have c19b0 : (t435 == t439) = false := by simpa using c19
      (try (have c19b1 : decide (t435 = t439) = false := by simpa using c19))
      (try (have c19b2 : (t435 == t439) = false := by simpa using c19))
      (try (have c19b3 : ¬ (t435 = t439) := by simpa using c19))
      clear c19
      exact absurd ((Option.some.inj H).trans hr_.out) (by decide)
    ·replace c18 := Bool.eq_false_iff.mpr c18
     subst c18
     have H1 : ((impl_PermBack.f kj5 t434).bind fun bt444 => ((impl_PermMul.f kj5 t431 t434).bind fun bt448 => ((impl_PermMul.f kj5 t434 t431).bind fun bt452 => ((impl_PermType.f kj5 t431).bind fun bt456 => ((impl_PermType.f kj5 t434).bind fun bt460 => (if bt444.2 = true then (if bt448.2 = true then (if bt452.2 = true then (if bt456.2 = true then (if bt460.2 = true then ((laws_sameInts.f kj5 bt444.1 t431).bind fun t464 => (if t464 = true then ((laws_stayOf.f kj5 (t431.length : Int)).bind fun t465 => ((laws_sameInts.f kj5 bt448.1 t465).bind fun t468 => (if t468 = true then ((laws_stayOf.f kj5 (t431.length : Int)).bind fun t469 => ((laws_sameInts.f kj5 bt452.1 t469).bind fun t472 => (if t472 = true then ((laws_sameInts.f kj5 bt456.1 bt460.1).bind fun t473 => (some t473)) else (some false)))) else (some false)))) else (some false))) else (some false)) else (some false)) else (some false)) else (some false)) else (some false))))))) = some r := by rw [if_neg (show ¬ (false = true) by decide)] at H; exact H
     clear H
     have H := H1
     clear H1
     replace H := Option.bind_eq_some_iff.mp H
     obtain ⟨⟨t444, t445⟩, A230, H⟩ := H
     replace H : ((impl_PermMul.f kj5 t431 t434).bind fun bt448 => ((impl_PermMul.f kj5 t434 t431).bind fun bt452 => ((impl_PermType.f kj5 t431).bind fun bt456 => ((impl_PermType.f kj5 t434).bind fun bt460 => (if t445 = true then (if bt448.2 = true then (if bt452.2 = true then (if bt456.2 = true then (if bt460.2 = true then ((laws_sameInts.f kj5 t444 t431).bind fun t464 => (if t464 = true then ((laws_stayOf.f kj5 (t431.length : Int)).bind fun t465 => ((laws_sameInts.f kj5 bt448.1 t465).bind fun t468 => (if t468 = true then ((laws_stayOf.f kj5 (t431.length : Int)).bind fun t469 => ((laws_sameInts.f kj5 bt452.1 t469).bind fun t472 => (if t472 = true then ((laws_sameInts.f kj5 bt456.1 bt460.1).bind fun t473 => (some t473)) else (some false)))) else (some false)))) else (some false))) else (some false)) else (some false)) else (some false)) else (some false)) else (some false)))))) = some r := H
     have A23 := Aside0.mk A230
     clear A230
     replace H := Option.bind_eq_some_iff.mp H
     obtain ⟨⟨t448, t449⟩, A240, H⟩ := H
     replace H : ((impl_PermMul.f kj5 t434 t431).bind fun bt452 => ((impl_PermType.f kj5 t431).bind fun bt456 => ((impl_PermType.f kj5 t434).bind fun bt460 => (if t445 = true then (if t449 = true then (if bt452.2 = true then (if bt456.2 = true then (if bt460.2 = true then ((laws_sameInts.f kj5 t444 t431).bind fun t464 => (if t464 = true then ((laws_stayOf.f kj5 (t431.length : Int)).bind fun t465 => ((laws_sameInts.f kj5 t448 t465).bind fun t468 => (if t468 = true then ((laws_stayOf.f kj5 (t431.length : Int)).bind fun t469 => ((laws_sameInts.f kj5 bt452.1 t469).bind fun t472 => (if t472 = true then ((laws_sameInts.f kj5 bt456.1 bt460.1).bind fun t473 => (some t473)) else (some false)))) else (some false)))) else (some false))) else (some false)) else (some false)) else (some false)) else (some false)) else (some false))))) = some r := H
     have A24 := Aside0.mk A240
     clear A240
     replace H := Option.bind_eq_some_iff.mp H
     obtain ⟨⟨t452, t453⟩, A250, H⟩ := H
     replace H : ((impl_PermType.f kj5 t431).bind fun bt456 => ((impl_PermType.f kj5 t434).bind fun bt460 => (if t445 = true then (if t449 = true then (if t453 = true then (if bt456.2 = true then (if bt460.2 = true then ((laws_sameInts.f kj5 t444 t431).bind fun t464 => (if t464 = true then ((laws_stayOf.f kj5 (t431.length : Int)).bind fun t465 => ((laws_sameInts.f kj5 t448 t465).bind fun t468 => (if t468 = true then ((laws_stayOf.f kj5 (t431.length : Int)).bind fun t469 => ((laws_sameInts.f kj5 t452 t469).bind fun t472 => (if t472 = true then ((laws_sameInts.f kj5 bt456.1 bt460.1).bind fun t473 => (some t473)) else (some false)))) else (some false)))) else (some false))) else (some false)) else (some false)) else (some false)) else (some false)) else (some false)))) = some r := H
     have A25 := Aside0.mk A250
     clear A250
     replace H := Option.bind_eq_some_iff.mp H
     obtain ⟨⟨t456, t457⟩, A260, H⟩ := H
     replace H : ((impl_PermType.f kj5 t434).bind fun bt460 => (if t445 = true then (if t449 = true then (if t453 = true then (if t457 = true then (if bt460.2 = true then ((laws_sameInts.f kj5 t444 t431).bind fun t464 => (if t464 = true then ((laws_stayOf.f kj5 (t431.length : Int)).bind fun t465 => ((laws_sameInts.f kj5 t448 t465).bind fun t468 => (if t468 = true then ((laws_stayOf.f kj5 (t431.length : Int)).bind fun t469 => ((laws_sameInts.f kj5 t452 t469).bind fun t472 => (if t472 = true then ((laws_sameInts.f kj5 t456 bt460.1).bind fun t473 => (some t473)) else (some false)))) else (some false)))) else (some false))) else (some false)) else (some false)) else (some false)) else (some false)) else (some false))) = some r := H
     have A26 := Aside0.mk A260
     clear A260
     replace H := Option.bind_eq_some_iff.mp H
     obtain ⟨⟨t460, t461⟩, A270, H⟩ := H
     replace H : (if t445 = true then (if t449 = true then (if t453 = true then (if t457 = true then (if t461 = true then ((laws_sameInts.f kj5 t444 t431).bind fun t464 => (if t464 = true then ((laws_stayOf.f kj5 (t431.length : Int)).bind fun t465 => ((laws_sameInts.f kj5 t448 t465).bind fun t468 => (if t468 = true then ((laws_stayOf.f kj5 (t431.length : Int)).bind fun t469 => ((laws_sameInts.f kj5 t452 t469).bind fun t472 => (if t472 = true then ((laws_sameInts.f kj5 t456 t460).bind fun t473 => (some t473)) else (some false)))) else (some false)))) else (some false))) else (some false)) else (some false)) else (some false)) else (some false)) else (some false)) = some r := H
     have A27 := Aside0.mk A270
     clear A270
     by_cases c28 : t445 = true
     ·subst c28
      have H1 : (if t449 = true then (if t453 = true then (if t457 = true then (if t461 = true then ((laws_sameInts.f kj5 t444 t431).bind fun t464 => (if t464 = true then ((laws_stayOf.f kj5 (t431.length : Int)).bind fun t465 => ((laws_sameInts.f kj5 t448 t465).bind fun t468 => (if t468 = true then ((laws_stayOf.f kj5 (t431.length : Int)).bind fun t469 => ((laws_sameInts.f kj5 t452 t469).bind fun t472 => (if t472 = true then ((laws_sameInts.f kj5 t456 t460).bind fun t473 => (some t473)) else (some false)))) else (some false)))) else (some false))) else (some false)) else (some false)) else (some false)) else (some false)) = some r := by rw [if_pos rfl] at H; exact H
      clear H
      have H := H1
      clear H1
      by_cases c29 : t449 = true
      ·subst c29
       have H1 : (if t453 = true then (if t457 = true then (if t461 = true then ((laws_sameInts.f kj5 t444 t431).bind fun t464 => (if t464 = true then ((laws_stayOf.f kj5 (t431.length : Int)).bind fun t465 => ((laws_sameInts.f kj5 t448 t465).bind fun t468 => (if t468 = true then ((laws_stayOf.f kj5 (t431.length : Int)).bind fun t469 => ((laws_sameInts.f kj5 t452 t469).bind fun t472 => (if t472 = true then ((laws_sameInts.f kj5 t456 t460).bind fun t473 => (some t473)) else (some false)))) else (some false)))) else (some false))) else (some false)) else (some false)) else (some false)) = some r := by rw [if_pos rfl] at H; exact H
       clear H
       have H := H1
       clear H1
       by_cases c30 : t453 = true
       ·subst c30
        have H1 : (if t457 = true then (if t461 = true then ((laws_sameInts.f kj5 t444 t431).bind fun t464 => (if t464 = true then ((laws_stayOf.f kj5 (t431.length : Int)).bind fun t465 => ((laws_sameInts.f kj5 t448 t465).bind fun t468 => (if t468 = true then ((laws_stayOf.f kj5 (t431.length : Int)).bind fun t469 => ((laws_sameInts.f kj5 t452 t469).bind fun t472 => (if t472 = true then ((laws_sameInts.f kj5 t456 t460).bind fun t473 => (some t473)) else (some false)))) else (some false)))) else (some false))) else (some false)) else (some false)) = some r := by rw [if_pos rfl] at H; exact H
        clear H
        have H := H1
        clear H1
        by_cases c31 : t457 = true
        ·subst c31
         have H1 : (if t461 = true then ((laws_sameInts.f kj5 t444 t431).bind fun t464 => (if t464 = true then ((laws_stayOf.f kj5 (t431.length : Int)).bind fun t465 => ((laws_sameInts.f kj5 t448 t465).bind fun t468 => (if t468 = true then ((laws_stayOf.f kj5 (t431.length : Int)).bind fun t469 => ((laws_sameInts.f kj5 t452 t469).bind fun t472 => (if t472 = true then ((laws_sameInts.f kj5 t456 t460).bind fun t473 => (some t473)) else (some false)))) else (some false)))) else (some false))) else (some false)) = some r := by rw [if_pos rfl] at H; exact H
         clear H
         have H := H1
         clear H1
         by_cases c32 : t461 = true
         ·subst c32
          have H1 : ((laws_sameInts.f kj5 t444 t431).bind fun t464 => (if t464 = true then ((laws_stayOf.f kj5 (t431.length : Int)).bind fun t465 => ((laws_sameInts.f kj5 t448 t465).bind fun t468 => (if t468 = true then ((laws_stayOf.f kj5 (t431.length : Int)).bind fun t469 => ((laws_sameInts.f kj5 t452 t469).bind fun t472 => (if t472 = true then ((laws_sameInts.f kj5 t456 t460).bind fun t473 => (some t473)) else (some false)))) else (some false)))) else (some false))) = some r := by rw [if_pos rfl] at H; exact H
          clear H
          have H := H1
          clear H1
          replace H := Option.bind_eq_some_iff.mp H
          obtain ⟨t464, A330, H⟩ := H
          replace H : (if t464 = true then ((laws_stayOf.f kj5 (t431.length : Int)).bind fun t465 => ((laws_sameInts.f kj5 t448 t465).bind fun t468 => (if t468 = true then ((laws_stayOf.f kj5 (t431.length : Int)).bind fun t469 => ((laws_sameInts.f kj5 t452 t469).bind fun t472 => (if t472 = true then ((laws_sameInts.f kj5 t456 t460).bind fun t473 => (some t473)) else (some false)))) else (some false)))) else (some false)) = some r := H
          have A33 := Aside0.mk A330
          clear A330
          by_cases c34 : t464 = true
          ·subst c34
           have H1 : ((laws_stayOf.f kj5 (t431.length : Int)).bind fun t465 => ((laws_sameInts.f kj5 t448 t465).bind fun t468 => (if t468 = true then ((laws_stayOf.f kj5 (t431.length : Int)).bind fun t469 => ((laws_sameInts.f kj5 t452 t469).bind fun t472 => (if t472 = true then ((laws_sameInts.f kj5 t456 t460).bind fun t473 => (some t473)) else (some false)))) else (some false)))) = some r := by rw [if_pos rfl] at H; exact H
           clear H
           have H := H1
           clear H1
           replace H := Option.bind_eq_some_iff.mp H
           obtain ⟨t465, A350, H⟩ := H
           replace H : ((laws_sameInts.f kj5 t448 t465).bind fun t468 => (if t468 = true then ((laws_stayOf.f kj5 (t431.length : Int)).bind fun t469 => ((laws_sameInts.f kj5 t452 t469).bind fun t472 => (if t472 = true then ((laws_sameInts.f kj5 t456 t460).bind fun t473 => (some t473)) else (some false)))) else (some false))) = some r := H
           have A35 := Aside0.mk A350
           clear A350
           replace H := Option.bind_eq_some_iff.mp H
           obtain ⟨t468, A360, H⟩ := H
           replace H : (if t468 = true then ((laws_stayOf.f kj5 (t431.length : Int)).bind fun t469 => ((laws_sameInts.f kj5 t452 t469).bind fun t472 => (if t472 = true then ((laws_sameInts.f kj5 t456 t460).bind fun t473 => (some t473)) else (some false)))) else (some false)) = some r := H
           have A36 := Aside0.mk A360
           clear A360
           by_cases c37 : t468 = true
           ·subst c37
            have H1 : ((laws_stayOf.f kj5 (t431.length : Int)).bind fun t469 => ((laws_sameInts.f kj5 t452 t469).bind fun t472 => (if t472 = true then ((laws_sameInts.f kj5 t456 t460).bind fun t473 => (some t473)) else (some false)))) = some r := by rw [if_pos rfl] at H; exact H
            clear H
            have H := H1
            clear H1
            replace H := Option.bind_eq_some_iff.mp H
            obtain ⟨t469, A380, H⟩ := H
            replace H : ((laws_sameInts.f kj5 t452 t469).bind fun t472 => (if t472 = true then ((laws_sameInts.f kj5 t456 t460).bind fun t473 => (some t473)) else (some false))) = some r := H
            have A38 := Aside0.mk A380
            clear A380
            replace H := Option.bind_eq_some_iff.mp H
            obtain ⟨t472, A390, H⟩ := H
            replace H : (if t472 = true then ((laws_sameInts.f kj5 t456 t460).bind fun t473 => (some t473)) else (some false)) = some r := H
            have A39 := Aside0.mk A390
            clear A390
            by_cases c40 : t472 = true
            ·subst c40
             have H1 : ((laws_sameInts.f kj5 t456 t460).bind fun t473 => (some t473)) = some r := by rw [if_pos rfl] at H; exact H
             clear H
             have H := H1
             clear H1
             replace H := Option.bind_eq_some_iff.mp H
             obtain ⟨t473, A410, H⟩ := H
             replace H : (some t473) = some r := H
             have A41 := Aside0.mk A410
             clear A410
             obtain rfl := Option.some.inj H
             obtain ⟨Ao42, co42, eo42⟩ := Kd.R_slice HO_4.out
             subst eo42
             go_wp2_with (first | ((with_reducible refine gate_callee (f := 16) rfl ?_); refine gL (some 56) Try.func16 #[.slice Ao42 t434.length co42] ?_; (with_reducible refine (impl_PermBack.calls kj5 _ _ t434 t444 true _ ?side1 ?side2 A23.out).mono ?_); (case side1 => exact cP (Kd.R_reads' HO_4.out).2.2); (case side2 => exact (Kd.R_reads' HO_4.out).2.1); rintro e w43 ⟨v446, rfl, ho0, hb⟩; refine ⟨_, rfl, ?_⟩; have HO447 := Aside0.mk (Kd.R_lower (Kd.R_new' (Kd.R_new' (Kd.R_new' ho0 (Kd.R_lt (rP HO_3))) (Kd.R_lt (rP HO_4))) (Kd.R_lt (rP HO_6))) (below_size (bP HB))); replace HO_3 := Aside0.mk (Kd.R_elder' (rP HO_3) (Kd.R_base ho0) hb); replace HO_4 := Aside0.mk (Kd.R_elder' (rP HO_4) (Kd.R_base ho0) hb); replace HO_6 := Aside0.mk (Kd.R_elder' (rP HO_6) (Kd.R_base ho0) hb); replace HB := bS HB hb; (try clear hb); (try clear hb2); (try clear hk); (try clear hi); (try clear ho0)) | ((with_reducible refine gate_callee (f := 19) rfl ?_); refine gL (some 62) Try.func19 #[.slice Ao8 t431.length co8, .slice Ao42 t434.length co42] ?_; (with_reducible refine (impl_PermMul.calls kj5 _ _ t431 _ _ t434 t448 true _ ?side1 ?side2 ?side3 ?side4 A24.out).mono ?_); (case side1 => exact cP (Kd.R_reads' HO_3.out).2.2); (case side2 => exact (Kd.R_reads' HO_3.out).2.1); (case side3 => exact cP (Kd.R_reads' HO_4.out).2.2); (case side4 => exact (Kd.R_reads' HO_4.out).2.1); rintro e w44 ⟨v450, rfl, ho0, hb⟩; refine ⟨_, rfl, ?_⟩; have HO451 := Aside0.mk (Kd.R_lower (Kd.R_new' (Kd.R_new' (Kd.R_new' (Kd.R_new' ho0 (Kd.R_lt (rP HO_3))) (Kd.R_lt (rP HO_4))) (Kd.R_lt (rP HO_6))) (Kd.R_lt (rP HO447))) (below_size (bP HB))); replace HO_3 := Aside0.mk (Kd.R_elder' (rP HO_3) (Kd.R_base ho0) hb); replace HO_4 := Aside0.mk (Kd.R_elder' (rP HO_4) (Kd.R_base ho0) hb); replace HO_6 := Aside0.mk (Kd.R_elder' (rP HO_6) (Kd.R_base ho0) hb); replace HO447 := Aside0.mk (Kd.R_elder' (rP HO447) (Kd.R_base ho0) hb); replace HB := bS HB hb; (try clear hb); (try clear hb2); (try clear hk); (try clear hi); (try clear ho0)) | ((with_reducible refine gate_callee (f := 19) rfl ?_); refine gL (some 68) Try.func19 #[.slice Ao42 t434.length co42, .slice Ao8 t431.length co8] ?_; (with_reducible refine (impl_PermMul.calls kj5 _ _ t434 _ _ t431 t452 true _ ?side1 ?side2 ?side3 ?side4 A25.out).mono ?_); (case side1 => exact cP (Kd.R_reads' HO_4.out).2.2); (case side2 => exact (Kd.R_reads' HO_4.out).2.1); (case side3 => exact cP (Kd.R_reads' HO_3.out).2.2); (case side4 => exact (Kd.R_reads' HO_3.out).2.1); rintro e w45 ⟨v454, rfl, ho0, hb⟩; refine ⟨_, rfl, ?_⟩; have HO455 := Aside0.mk (Kd.R_lower (Kd.R_new' (Kd.R_new' (Kd.R_new' (Kd.R_new' (Kd.R_new' ho0 (Kd.R_lt (rP HO_3))) (Kd.R_lt (rP HO_4))) (Kd.R_lt (rP HO_6))) (Kd.R_lt (rP HO447))) (Kd.R_lt (rP HO451))) (below_size (bP HB))); replace HO_3 := Aside0.mk (Kd.R_elder' (rP HO_3) (Kd.R_base ho0) hb); replace HO_4 := Aside0.mk (Kd.R_elder' (rP HO_4) (Kd.R_base ho0) hb); replace HO_6 := Aside0.mk (Kd.R_elder' (rP HO_6) (Kd.R_base ho0) hb); replace HO447 := Aside0.mk (Kd.R_elder' (rP HO447) (Kd.R_base ho0) hb); replace HO451 := Aside0.mk (Kd.R_elder' (rP HO451) (Kd.R_base ho0) hb); replace HB := bS HB hb; (try clear hb); (try clear hb2); (try clear hk); (try clear hi); (try clear ho0)) | ((with_reducible refine gate_callee (f := 11) rfl ?_); refine gL (some 73) Try.func11 #[.slice Ao8 t431.length co8] ?_; (with_reducible refine (impl_PermType.calls kj5 _ _ t431 t456 true _ ?side1 ?side2 A26.out).mono ?_); (case side1 => exact cP (Kd.R_reads' HO_3.out).2.2); (case side2 => exact (Kd.R_reads' HO_3.out).2.1); rintro e w46 ⟨v458, rfl, ho0, hb⟩; refine ⟨_, rfl, ?_⟩; have HO459 := Aside0.mk (Kd.R_lower (Kd.R_new' (Kd.R_new' (Kd.R_new' (Kd.R_new' (Kd.R_new' (Kd.R_new' ho0 (Kd.R_lt (rP HO_3))) (Kd.R_lt (rP HO_4))) (Kd.R_lt (rP HO_6))) (Kd.R_lt (rP HO447))) (Kd.R_lt (rP HO451))) (Kd.R_lt (rP HO455))) (below_size (bP HB))); replace HO_3 := Aside0.mk (Kd.R_elder' (rP HO_3) (Kd.R_base ho0) hb); replace HO_4 := Aside0.mk (Kd.R_elder' (rP HO_4) (Kd.R_base ho0) hb); replace HO_6 := Aside0.mk (Kd.R_elder' (rP HO_6) (Kd.R_base ho0) hb); replace HO447 := Aside0.mk (Kd.R_elder' (rP HO447) (Kd.R_base ho0) hb); replace HO451 := Aside0.mk (Kd.R_elder' (rP HO451) (Kd.R_base ho0) hb); replace HO455 := Aside0.mk (Kd.R_elder' (rP HO455) (Kd.R_base ho0) hb); replace HB := bS HB hb; (try clear hb); (try clear hb2); (try clear hk); (try clear hi); (try clear ho0)) | ((with_reducible refine gate_callee (f := 11) rfl ?_); refine gL (some 78) Try.func11 #[.slice Ao42 t434.length co42] ?_; (with_reducible refine (impl_PermType.calls kj5 _ _ t434 t460 true _ ?side1 ?side2 A27.out).mono ?_); (case side1 => exact cP (Kd.R_reads' HO_4.out).2.2); (case side2 => exact (Kd.R_reads' HO_4.out).2.1); rintro e w47 ⟨v462, rfl, ho0, hb⟩; refine ⟨_, rfl, ?_⟩; have HO463 := Aside0.mk (Kd.R_lower (Kd.R_new' (Kd.R_new' (Kd.R_new' (Kd.R_new' (Kd.R_new' (Kd.R_new' (Kd.R_new' ho0 (Kd.R_lt (rP HO_3))) (Kd.R_lt (rP HO_4))) (Kd.R_lt (rP HO_6))) (Kd.R_lt (rP HO447))) (Kd.R_lt (rP HO451))) (Kd.R_lt (rP HO455))) (Kd.R_lt (rP HO459))) (below_size (bP HB))); replace HO_3 := Aside0.mk (Kd.R_elder' (rP HO_3) (Kd.R_base ho0) hb); replace HO_4 := Aside0.mk (Kd.R_elder' (rP HO_4) (Kd.R_base ho0) hb); replace HO_6 := Aside0.mk (Kd.R_elder' (rP HO_6) (Kd.R_base ho0) hb); replace HO447 := Aside0.mk (Kd.R_elder' (rP HO447) (Kd.R_base ho0) hb); replace HO451 := Aside0.mk (Kd.R_elder' (rP HO451) (Kd.R_base ho0) hb); replace HO455 := Aside0.mk (Kd.R_elder' (rP HO455) (Kd.R_base ho0) hb); replace HO459 := Aside0.mk (Kd.R_elder' (rP HO459) (Kd.R_base ho0) hb); replace HB := bS HB hb; (try clear hb); (try clear hb2); (try clear hk); (try clear hi); (try clear ho0); obtain ⟨Ao48, co48, eo48⟩ := Kd.R_slice HO447.out; subst eo48) | (go_at_call 18; (with_reducible refine (laws_sameInts.calls kj5 _ _ t444 _ _ t431 true _ ?side1 ?side2 ?side3 ?side4 A33.out).mono ?_); (case side1 => exact cP (Kd.R_reads' HO447.out).2.2); (case side2 => exact (Kd.R_reads' HO447.out).2.1); (case side3 => exact cP (Kd.R_reads' HO_3.out).2.2); (case side4 => exact (Kd.R_reads' HO_3.out).2.1); rintro e w' ⟨rfl, ⟨nd, rfl⟩⟩) | (go_at_call 20; (with_reducible refine (laws_stayOf.calls kj5 (t431.length : Int) t465 _ A35.out).mono ?_); rintro e w49 ⟨v466, rfl, ho0, hb⟩; have HO467 := Aside0.mk (Kd.R_lower (Kd.R_new' (Kd.R_new' (Kd.R_new' (Kd.R_new' (Kd.R_new' (Kd.R_new' (Kd.R_new' (Kd.R_new' ho0 (Kd.R_lt (rP HO_3))) (Kd.R_lt (rP HO_4))) (Kd.R_lt (rP HO_6))) (Kd.R_lt (rP HO447))) (Kd.R_lt (rP HO451))) (Kd.R_lt (rP HO455))) (Kd.R_lt (rP HO459))) (Kd.R_lt (rP HO463))) (below_size (bP HB))); replace HO_3 := Aside0.mk (Kd.R_elder' (rP HO_3) (Kd.R_base ho0) hb); replace HO_4 := Aside0.mk (Kd.R_elder' (rP HO_4) (Kd.R_base ho0) hb); replace HO_6 := Aside0.mk (Kd.R_elder' (rP HO_6) (Kd.R_base ho0) hb); replace HO447 := Aside0.mk (Kd.R_elder' (rP HO447) (Kd.R_base ho0) hb); replace HO451 := Aside0.mk (Kd.R_elder' (rP HO451) (Kd.R_base ho0) hb); replace HO455 := Aside0.mk (Kd.R_elder' (rP HO455) (Kd.R_base ho0) hb); replace HO459 := Aside0.mk (Kd.R_elder' (rP HO459) (Kd.R_base ho0) hb); replace HO463 := Aside0.mk (Kd.R_elder' (rP HO463) (Kd.R_base ho0) hb); replace HB := bS HB hb; (try clear hb); (try clear hb2); (try clear hk); (try clear hi); (try clear ho0); obtain ⟨Ao50, co50, eo50⟩ := Kd.R_slice HO451.out; subst eo50; obtain ⟨Ao51, co51, eo51⟩ := Kd.R_slice HO467.out; subst eo51) | (go_at_call 18; (with_reducible refine (laws_sameInts.calls kj5 _ _ t448 _ _ t465 true _ ?side1 ?side2 ?side3 ?side4 A36.out).mono ?_); (case side1 => exact cP (Kd.R_reads' HO451.out).2.2); (case side2 => exact (Kd.R_reads' HO451.out).2.1); (case side3 => exact cP (Kd.R_reads' HO467.out).2.2); (case side4 => exact (Kd.R_reads' HO467.out).2.1); rintro e w' ⟨rfl, ⟨nd, rfl⟩⟩) | (go_at_call 20; (with_reducible refine (laws_stayOf.calls kj5 (t431.length : Int) t469 _ A38.out).mono ?_); rintro e w52 ⟨v470, rfl, ho0, hb⟩; have HO471 := Aside0.mk (Kd.R_lower (Kd.R_new' (Kd.R_new' (Kd.R_new' (Kd.R_new' (Kd.R_new' (Kd.R_new' (Kd.R_new' (Kd.R_new' (Kd.R_new' ho0 (Kd.R_lt (rP HO_3))) (Kd.R_lt (rP HO_4))) (Kd.R_lt (rP HO_6))) (Kd.R_lt (rP HO447))) (Kd.R_lt (rP HO451))) (Kd.R_lt (rP HO455))) (Kd.R_lt (rP HO459))) (Kd.R_lt (rP HO463))) (Kd.R_lt (rP HO467))) (below_size (bP HB))); replace HO_3 := Aside0.mk (Kd.R_elder' (rP HO_3) (Kd.R_base ho0) hb); replace HO_4 := Aside0.mk (Kd.R_elder' (rP HO_4) (Kd.R_base ho0) hb); replace HO_6 := Aside0.mk (Kd.R_elder' (rP HO_6) (Kd.R_base ho0) hb); replace HO447 := Aside0.mk (Kd.R_elder' (rP HO447) (Kd.R_base ho0) hb); replace HO451 := Aside0.mk (Kd.R_elder' (rP HO451) (Kd.R_base ho0) hb); replace HO455 := Aside0.mk (Kd.R_elder' (rP HO455) (Kd.R_base ho0) hb); replace HO459 := Aside0.mk (Kd.R_elder' (rP HO459) (Kd.R_base ho0) hb); replace HO463 := Aside0.mk (Kd.R_elder' (rP HO463) (Kd.R_base ho0) hb); replace HO467 := Aside0.mk (Kd.R_elder' (rP HO467) (Kd.R_base ho0) hb); replace HB := bS HB hb; (try clear hb); (try clear hb2); (try clear hk); (try clear hi); (try clear ho0); obtain ⟨Ao53, co53, eo53⟩ := Kd.R_slice HO455.out; subst eo53; obtain ⟨Ao54, co54, eo54⟩ := Kd.R_slice HO471.out; subst eo54) | (go_at_call 18; (with_reducible refine (laws_sameInts.calls kj5 _ _ t452 _ _ t469 true _ ?side1 ?side2 ?side3 ?side4 A39.out).mono ?_); (case side1 => exact cP (Kd.R_reads' HO455.out).2.2); (case side2 => exact (Kd.R_reads' HO455.out).2.1); (case side3 => exact cP (Kd.R_reads' HO471.out).2.2); (case side4 => exact (Kd.R_reads' HO471.out).2.1); rintro e w' ⟨rfl, ⟨nd, rfl⟩⟩; obtain ⟨Ao55, co55, eo55⟩ := Kd.R_slice HO459.out; subst eo55; obtain ⟨Ao56, co56, eo56⟩ := Kd.R_slice HO463.out; subst eo56) | (go_at_call 18; (with_reducible refine (laws_sameInts.calls kj5 _ _ t456 _ _ t460 t473 _ ?side1 ?side2 ?side3 ?side4 A41.out).mono ?_); (case side1 => exact cP (Kd.R_reads' HO459.out).2.2); (case side2 => exact (Kd.R_reads' HO459.out).2.1); (case side3 => exact cP (Kd.R_reads' HO463.out).2.2); (case side4 => exact (Kd.R_reads' HO463.out).2.1); rintro e w' ⟨rfl, ⟨nd, rfl⟩⟩))
             go_ret
             exact ⟨eR, bP HB⟩
            ·replace c40 := Bool.eq_false_iff.mpr c40
             subst c40
             have H1 : (some false) = some r := by rw [if_neg (show ¬ (false = true) by decide)] at H; exact H
             clear H
             have H := H1
             clear H1
             exact absurd ((Option.some.inj H).trans hr_.out) (by decide)
           ·replace c37 := Bool.eq_false_iff.mpr c37
            subst c37
            have H1 : (some false) = some r := by rw [if_neg (show ¬ (false = true) by decide)] at H; exact H
            clear H
            have H := H1
            clear H1
            exact absurd ((Option.some.inj H).trans hr_.out) (by decide)
          ·replace c34 := Bool.eq_false_iff.mpr c34
           subst c34
           have H1 : (some false) = some r := by rw [if_neg (show ¬ (false = true) by decide)] at H; exact H
           clear H
           have H := H1
           clear H1
           exact absurd ((Option.some.inj H).trans hr_.out) (by decide)
         ·replace c32 := Bool.eq_false_iff.mpr c32
          subst c32
          have H1 : (some false) = some r := by rw [if_neg (show ¬ (false = true) by decide)] at H; exact H
          clear H
          have H := H1
          clear H1
          exact absurd ((Option.some.inj H).trans hr_.out) (by decide)
        ·replace c31 := Bool.eq_false_iff.mpr c31
         subst c31
         have H1 : (some false) = some r := by rw [if_neg (show ¬ (false = true) by decide)] at H; exact H
         clear H
         have H := H1
         clear H1
         exact absurd ((Option.some.inj H).trans hr_.out) (by decide)
       ·replace c30 := Bool.eq_false_iff.mpr c30
        subst c30
        have H1 : (some false) = some r := by rw [if_neg (show ¬ (false = true) by decide)] at H; exact H
        clear H
        have H := H1
        clear H1
        exact absurd ((Option.some.inj H).trans hr_.out) (by decide)
      ·replace c29 := Bool.eq_false_iff.mpr c29
       subst c29
       have H1 : (some false) = some r := by rw [if_neg (show ¬ (false = true) by decide)] at H; exact H
       clear H
       have H := H1
       clear H1
       exact absurd ((Option.some.inj H).trans hr_.out) (by decide)
     ·replace c28 := Bool.eq_false_iff.mpr c28
      subst c28
      have H1 : (some false) = some r := by rw [if_neg (show ¬ (false = true) by decide)] at H; exact H
      clear H
      have H := H1
      clear H1
      exact absurd ((Option.some.inj H).trans hr_.out) (by decide)

/-- THE ONE PURE STATEMENT of laws_FnBack: yours. -/
def laws_FnBack.Pure : Prop := ∀ (l0 : List Int), l0.length ≤ maxLen → l0.length * 1 ≤ 140737488351232 → (∀ x ∈ l0, (Lit.int .u8 x).wf = true) → ∃ k, laws_FnBack.f k l0 = some true
theorem laws_FnBack.walk (P : laws_FnBack.Pure) (a0 : Option Addr) (len0 cap0 : Nat) (z0 : List Int) (w : World) (w0 : (a0 = none ∧ len0 = 0 ∧ cap0 = 0 ∧ z0 = []) ∨ ∃ x, a0 = some x ∧ len0 ≤ cap0 ∧ cap0 ≤ maxLen ∧ z0.length = cap0 ∧ (∀ i, i < z0.length → w.cell? (x.add i) = some (.int .u8 (z0.getD i 0))) ∧ ∀ n ∈ z0, (Lit.int .u8 n).wf = true) (y0 : len0 * 1 ≤ 140737488351232) :
 Calls Try.prog 4 #[.slice a0 len0 cap0] w fun e w' => e = .returned (.bool true) ∧ Below w.heap.size w w' := by
 obtain ⟨l0, rfl, hr0, hm0, hw0, hc0⟩ := ReadsInt.ofRowC w0
 obtain ⟨k, h⟩ := P l0 hm0 y0 hw0
 refine (laws_FnBack.calls k _ _ l0 true w (Kd.C_of_reads (d := (0 : Int)) (h1 := fun _ => rfl) hr0) hc0 ⟨rfl⟩ h).mono ?_
 rintro e w' ⟨rfl, hd⟩
 exact ⟨rfl, hd⟩

end Go.Proofs.Yteffimfifgnleaa.F
