/- Contracts: what these Go functions return. -/
import Derived.Test.YteffimfifgnleaaF0
import Derived.Test.YteffimfifgnleaaF17
import Derived.Test.YteffimfifgnleaaF25
import Derived.Test.YteffimfifgnleaaF27
import Derived.Test.YteffimfifgnleaaF29
import Derived.Test.YteffimfifgnleaaF30
import Derived.Test.YteffimfifgnleaaF32
import Derived.Test.YteffimfifgnleaaF33
namespace Go.Proofs.Yteffimfifgnleaa.F
open Go.RowKit Go.Proofs.YteffimfifgnleaaW.PrintWords Go.Proofs.YteffimfifgnleaaW.PrintLast Go.Proofs.YteffimfifgnleaaW.PrintMore
attribute [local go_sem] max2_int min2_int max_two min_two max_three min_three max_four min_four
set_option linter.unusedVariables false
set_option linter.unusedSimpArgs false

/-! ### laws_FnOrder: function 5 -/
mutual
def laws_FnOrder.j0 : Nat → List Int → Int → Int → Bool → Option (Bool)
 | 0, _, _, _, _ => none
 | k + 1, x3, x4, x5, x28 => if x28 = true then (some (x4 == x5)) else ((impl_PermType.f k x3).bind fun bt533 => ((impl_PermPower.f k x3 x4).bind fun bt537 => (laws_FnOrder.l0 k x3 x4 bt533.1 bt533.2 bt537.1 bt537.2 1)))
def laws_FnOrder.l0 : Nat → List Int → Int → List Int → Bool → List Int → Bool → Int → Option (Bool)
 | 0, _, _, _, _, _, _, _ => none
 | k + 1, x3, x4, x6, x7, x8, x9, x10 => if x10 ≤ x4 then (laws_FnOrder.l1 k x3 x4 x6 x7 x8 x9 x10 true 0) else (if x7 = true then (if x9 = true then ((laws_stayOf.f k (x3.length : Int)).bind fun t541 => ((laws_sameInts.f k x8 t541).bind fun t544 => (some t544))) else (some false)) else (some false))
def laws_FnOrder.l1 : Nat → List Int → Int → List Int → Bool → List Int → Bool → Int → Bool → Int → Option (Bool)
 | 0, _, _, _, _, _, _, _, _, _ => none
 | k + 1, x3, x4, x6, x7, x8, x9, x10, x11, x12 => if x12 < (x6.length : Int) then (if x11 = true then (if 0 ≤ x12 then (if (rd x6 x12) = 0 then (none) else (laws_FnOrder.l1 k x3 x4 x6 x7 x8 x9 x10 ((Int.tmod x10 (rd x6 x12)) == 0) (wrap64 (x12 + 1)))) else (none)) else (laws_FnOrder.l1 k x3 x4 x6 x7 x8 x9 x10 false (wrap64 (x12 + 1)))) else (if (x11 != (x10 == x4)) = true then (some false) else (laws_FnOrder.l0 k x3 x4 x6 x7 x8 x9 (wrap64 (x10 + 1))))
end
def laws_FnOrder.f (k : Nat) (l0 : List Int) : Option (Bool) := if (l0.length : Int) > 1048576 then (some true) else ((spec_DrawPermOrder.f k l0).bind fun t528 => ((impl_PermOrder.f k t528).bind fun t531 => ((spec_PermOrder.f k t528).bind fun t532 => (if t531 = t532 then (laws_FnOrder.j0 k t528 t531 t532 (decide (t531 < 0))) else (laws_FnOrder.j0 k t528 t531 t532 true)))))
theorem laws_FnOrder.mono_l : ∀ k, (∀ y0 y1 y2 y3, LeO (laws_FnOrder.j0 k y0 y1 y2 y3) (laws_FnOrder.j0 (k + 1) y0 y1 y2 y3)) ∧ (∀ y0 y1 y2 y3 y4 y5 y6, LeO (laws_FnOrder.l0 k y0 y1 y2 y3 y4 y5 y6) (laws_FnOrder.l0 (k + 1) y0 y1 y2 y3 y4 y5 y6)) ∧ (∀ y0 y1 y2 y3 y4 y5 y6 y7 y8, LeO (laws_FnOrder.l1 k y0 y1 y2 y3 y4 y5 y6 y7 y8) (laws_FnOrder.l1 (k + 1) y0 y1 y2 y3 y4 y5 y6 y7 y8))
 | 0 => ⟨fun _ _ _ _ r h => by simp [laws_FnOrder.j0] at h, fun _ _ _ _ _ _ _ r h => by simp [laws_FnOrder.l0] at h, fun _ _ _ _ _ _ _ _ _ r h => by simp [laws_FnOrder.l1] at h⟩
 | k + 1 => by
  obtain ⟨ih0, ih1, ih2⟩ := laws_FnOrder.mono_l k
  refine ⟨?_, ?_, ?_⟩
  ·intro y0 y1 y2 y3
   unfold laws_FnOrder.j0
   repeat' first
   | (with_reducible exact ih0 _ _ _ _)
   | (with_reducible exact ih1 _ _ _ _ _ _ _)
   | (with_reducible exact ih2 _ _ _ _ _ _ _ _ _)
   | (with_reducible exact impl_PermOrder.mono _ _)
   | (with_reducible exact impl_PermPower.mono _ _ _)
   | (with_reducible exact impl_PermType.mono _ _)
   | (with_reducible exact laws_sameInts.mono _ _ _)
   | (with_reducible exact laws_stayOf.mono _ _)
   | (with_reducible exact spec_DrawPermOrder.mono _ _)
   | (with_reducible exact spec_PermOrder.mono _ _)
   | (with_reducible exact LeO.refl _)
   | (with_reducible exact LeO.none _)
   | (with_reducible refine LeO.ite ?_ ?_)
   | (with_reducible refine LeO.bind ?_ (fun _ => ?_))
   | exact ih0 _ _ _ _
   | exact ih1 _ _ _ _ _ _ _
   | exact ih2 _ _ _ _ _ _ _ _ _
   | exact impl_PermOrder.mono _ _
   | exact impl_PermPower.mono _ _ _
   | exact impl_PermType.mono _ _
   | exact laws_sameInts.mono _ _ _
   | exact laws_stayOf.mono _ _
   | exact spec_DrawPermOrder.mono _ _
   | exact spec_PermOrder.mono _ _
   | exact LeO.none _
   | refine LeO.ite ?_ ?_
   | refine LeO.bind ?_ (fun _ => ?_)
  ·intro y0 y1 y2 y3 y4 y5 y6
   unfold laws_FnOrder.l0
   repeat' first
   | (with_reducible exact ih0 _ _ _ _)
   | (with_reducible exact ih1 _ _ _ _ _ _ _)
   | (with_reducible exact ih2 _ _ _ _ _ _ _ _ _)
   | (with_reducible exact impl_PermOrder.mono _ _)
   | (with_reducible exact impl_PermPower.mono _ _ _)
   | (with_reducible exact impl_PermType.mono _ _)
   | (with_reducible exact laws_sameInts.mono _ _ _)
   | (with_reducible exact laws_stayOf.mono _ _)
   | (with_reducible exact spec_DrawPermOrder.mono _ _)
   | (with_reducible exact spec_PermOrder.mono _ _)
   | (with_reducible exact LeO.refl _)
   | (with_reducible exact LeO.none _)
   | (with_reducible refine LeO.ite ?_ ?_)
   | (with_reducible refine LeO.bind ?_ (fun _ => ?_))
   | exact ih0 _ _ _ _
   | exact ih1 _ _ _ _ _ _ _
   | exact ih2 _ _ _ _ _ _ _ _ _
   | exact impl_PermOrder.mono _ _
   | exact impl_PermPower.mono _ _ _
   | exact impl_PermType.mono _ _
   | exact laws_sameInts.mono _ _ _
   | exact laws_stayOf.mono _ _
   | exact spec_DrawPermOrder.mono _ _
   | exact spec_PermOrder.mono _ _
   | exact LeO.none _
   | refine LeO.ite ?_ ?_
   | refine LeO.bind ?_ (fun _ => ?_)
  ·intro y0 y1 y2 y3 y4 y5 y6 y7 y8
   unfold laws_FnOrder.l1
   repeat' first
   | (with_reducible exact ih0 _ _ _ _)
   | (with_reducible exact ih1 _ _ _ _ _ _ _)
   | (with_reducible exact ih2 _ _ _ _ _ _ _ _ _)
   | (with_reducible exact impl_PermOrder.mono _ _)
   | (with_reducible exact impl_PermPower.mono _ _ _)
   | (with_reducible exact impl_PermType.mono _ _)
   | (with_reducible exact laws_sameInts.mono _ _ _)
   | (with_reducible exact laws_stayOf.mono _ _)
   | (with_reducible exact spec_DrawPermOrder.mono _ _)
   | (with_reducible exact spec_PermOrder.mono _ _)
   | (with_reducible exact LeO.refl _)
   | (with_reducible exact LeO.none _)
   | (with_reducible refine LeO.ite ?_ ?_)
   | (with_reducible refine LeO.bind ?_ (fun _ => ?_))
   | exact ih0 _ _ _ _
   | exact ih1 _ _ _ _ _ _ _
   | exact ih2 _ _ _ _ _ _ _ _ _
   | exact impl_PermOrder.mono _ _
   | exact impl_PermPower.mono _ _ _
   | exact impl_PermType.mono _ _
   | exact laws_sameInts.mono _ _ _
   | exact laws_stayOf.mono _ _
   | exact spec_DrawPermOrder.mono _ _
   | exact spec_PermOrder.mono _ _
   | exact LeO.none _
   | refine LeO.ite ?_ ?_
   | refine LeO.bind ?_ (fun _ => ?_)
theorem laws_FnOrder.mono : ∀ a0 k, LeO (laws_FnOrder.f k a0) (laws_FnOrder.f (k + 1) a0) := by
 intro a0 k
 obtain ⟨ih0, ih1, ih2⟩ := laws_FnOrder.mono_l k
 unfold laws_FnOrder.f
 repeat' first
  | (with_reducible exact ih0 _ _ _ _)
  | (with_reducible exact ih1 _ _ _ _ _ _ _)
  | (with_reducible exact ih2 _ _ _ _ _ _ _ _ _)
  | (with_reducible exact impl_PermOrder.mono _ _)
  | (with_reducible exact impl_PermPower.mono _ _ _)
  | (with_reducible exact impl_PermType.mono _ _)
  | (with_reducible exact laws_sameInts.mono _ _ _)
  | (with_reducible exact laws_stayOf.mono _ _)
  | (with_reducible exact spec_DrawPermOrder.mono _ _)
  | (with_reducible exact spec_PermOrder.mono _ _)
  | (with_reducible exact LeO.refl _)
  | (with_reducible exact LeO.none _)
  | (with_reducible refine LeO.ite ?_ ?_)
  | (with_reducible refine LeO.bind ?_ (fun _ => ?_))
  | exact ih0 _ _ _ _
  | exact ih1 _ _ _ _ _ _ _
  | exact ih2 _ _ _ _ _ _ _ _ _
  | exact impl_PermOrder.mono _ _
  | exact impl_PermPower.mono _ _ _
  | exact impl_PermType.mono _ _
  | exact laws_sameInts.mono _ _ _
  | exact laws_stayOf.mono _ _
  | exact spec_DrawPermOrder.mono _ _
  | exact spec_PermOrder.mono _ _
  | exact LeO.none _
  | refine LeO.ite ?_ ?_
  | refine LeO.bind ?_ (fun _ => ?_)
set_option maxHeartbeats 8000000 in
set_option maxRecDepth 100000 in
theorem laws_FnOrder.calls (k : Nat) (A0 : Option Addr) (c0 : Nat) (l0 : List Int) (r : Bool) (w : World) (hr0 : Kd.C (Kd.int .u8) w A0 l0.length l0) (hc0 : l0.length ≤ c0) (hr_ : Aside0 (r = true)) (h : laws_FnOrder.f k l0 = some r) :
 Calls Try.prog 5 #[.slice A0 l0.length c0] w fun e w' => e = .returned (.bool r) ∧ Below w.heap.size w w' := by
 have HR0 := Aside0.mk hr0
 have HC0 := Aside0.mk hc0
 clear hr0 hc0
 have HB := Aside0.mk (Below.refl w.heap.size w)
 have H : (if (l0.length : Int) > 1048576 then (some true) else ((spec_DrawPermOrder.f k l0).bind fun t528 => ((impl_PermOrder.f k t528).bind fun t531 => ((spec_PermOrder.f k t528).bind fun t532 => (if t531 = t532 then (laws_FnOrder.j0 k t528 t531 t532 (decide (t531 < 0))) else (laws_FnOrder.j0 k t528 t531 t532 true)))))) = some r := h
 clear h
 by_cases c2 : (l0.length : Int) > 1048576
 ·rw [if_pos c2] at H
  have c2b0 : decide (1048576 < (l0.length : Int)) = true := decide_eq_true c2
  have c2b1 : decide (1048576 < l0.length) = true := decide_eq_true (by omega)
  clear c2
  obtain rfl := Option.some.inj H
  go_enter Try.func5, Try.ntmps5
  go_wp2
  go_ret
  exact ⟨eR, bP HB⟩
 ·rw [if_neg c2] at H
  have c2b0 : decide (1048576 < (l0.length : Int)) = false := decide_eq_false c2
  have c2b1 : decide (1048576 < l0.length) = false := decide_eq_false (by omega)
  clear c2
  replace H := Option.bind_eq_some_iff.mp H
  obtain ⟨t528, A30, H⟩ := H
  replace H : ((impl_PermOrder.f k t528).bind fun t531 => ((spec_PermOrder.f k t528).bind fun t532 => (if t531 = t532 then (laws_FnOrder.j0 k t528 t531 t532 (decide (t531 < 0))) else (laws_FnOrder.j0 k t528 t531 t532 true)))) = some r := H
  have A3 := Aside0.mk A30
  clear A30
  replace H := Option.bind_eq_some_iff.mp H
  obtain ⟨t531, A40, H⟩ := H
  replace H : ((spec_PermOrder.f k t528).bind fun t532 => (if t531 = t532 then (laws_FnOrder.j0 k t528 t531 t532 (decide (t531 < 0))) else (laws_FnOrder.j0 k t528 t531 t532 true))) = some r := H
  have A4 := Aside0.mk A40
  clear A40
  replace H := Option.bind_eq_some_iff.mp H
  obtain ⟨t532, A50, H⟩ := H
  replace H : (if t531 = t532 then (laws_FnOrder.j0 k t528 t531 t532 (decide (t531 < 0))) else (laws_FnOrder.j0 k t528 t531 t532 true)) = some r := H
  have A5 := Aside0.mk A50
  clear A50
  have HC6 := Aside0.mk H
  clear H
  go_enter Try.func5, Try.ntmps5
  go_upto_region 6 with (first | ((with_reducible refine gate_callee (f := 21) rfl ?_); refine gL (some 17) Try.func21 #[.slice A0 l0.length c0] ?_; (with_reducible refine (spec_DrawPermOrder.calls k _ _ l0 t528 _ ?side1 ?side2 A3.out).mono ?_); (case side1 => repeat (first | exact HR0.out | (with_reducible refine Kd.C_alloc ?_ _) | (with_reducible refine Kd.C_drewN ?_ _) | (with_reducible refine Kd.C_drew ?_))); (case side2 => exact HC0.out); rintro e w7 ⟨v529, rfl, ho0, hb⟩; refine ⟨_, rfl, ?_⟩; have HO530 := rL ho0 HB; replace HB := bS HB hb; (try clear hb); (try clear hb2); (try clear hk); (try clear hi); (try clear ho0); obtain ⟨Ao8, co8, eo8⟩ := Kd.R_slice HO530.out; subst eo8) | ((with_reducible refine gate_callee (f := 22) rfl ?_); refine gL (some 19) Try.func22 #[.slice Ao8 t528.length co8] ?_; (with_reducible refine (impl_PermOrder.calls k _ _ t528 t531 _ ?side1 ?side2 A4.out).mono ?_); (case side1 => exact cP (Kd.R_reads' HO530.out).2.2); (case side2 => exact (Kd.R_reads' HO530.out).2.1); rintro e w9 ⟨rfl, hb⟩; refine ⟨_, rfl, ?_⟩; replace HO530 := rB HO530 hb; replace HB := bS HB hb; (try clear hb); (try clear hb2); (try clear hk); (try clear hi)) | ((with_reducible refine gate_callee (f := 23) rfl ?_); refine gL (some 21) Try.func23 #[.slice Ao8 t528.length co8] ?_; (with_reducible refine (spec_PermOrder.calls k (fun k_ => some k_ = (.slice Ao8 t528.length co8 : Value).ownBlock) _ _ t528 t532 _ ?side1 A5.out).mono ?_); (case side1 => exact Kd.R_V (Kd.R_tight rfl (HO530.out))); rintro e w10 ⟨rfl, hb⟩; refine ⟨_, rfl, ?_⟩; replace HO530 := rB HO530 hb; replace HB := bS HB hb; (try clear hb); (try clear hb2); (try clear hk); (try clear hi)))
  (try simp only [Act.put, List.setIfInBounds_toArray, List.set_cons_zero, List.set_cons_succ])
  go_cut [28] (fun v28 wc => ∃ (kq : Nat) (x28_5 : Bool), v28 = .bool x28_5 ∧ Aside0 (laws_FnOrder.j0 kq t528 t531 t532 x28_5 = some r) ∧ Aside0 (kq ≤ k) ∧ Aside0 (Kd.R (Kd.int .i64) 3 wc w.heap.size (fun _ => True) (.slice Ao8 t528.length co8) t528) ∧ Aside0 (Below w.heap.size w wc))
  case first =>
   have H := HC6.out
   clear HC6
   by_cases c11 : t531 = t532
   ·rw [if_pos c11] at H
    have c11b0 : (t531 == t532) = true := beq_iff_eq.mpr c11
    have c11b1 : (t531 != t532) = false := bne_eq_false_iff_eq.mpr c11
    clear c11
    (first | rw [c11b0] | (simp only [i64_w, i32_w]; rw [c11b0]) | skip)
    have H' := Aside0.mk H
    clear H
    go_wp2
    go_meet
    case rel => exact ⟨_, (decide (t531 < 0)), eS, H', ⟨by first | omega | exact Nat.le_refl _⟩, ⟨rP HO530⟩, ⟨bP HB⟩⟩
   ·rw [if_neg c11] at H
    have c11b0 : (t531 == t532) = false := beq_eq_false_iff_ne.mpr c11
    have c11b1 : (t531 != t532) = true := bne_iff_ne.mpr c11
    (first | rw [c11b0] | (simp only [i64_w, i32_w]; rw [c11b0]) | skip)
    have H' := Aside0.mk H
    clear H
    go_wp2
    go_meet
    case rel => exact ⟨_, (true), eS, H', ⟨by first | omega | exact Nat.le_refl _⟩, ⟨rP HO530⟩, ⟨bP HB⟩⟩
  case rest =>
   clear HC6
   try clear c1
   try clear c2
   try clear c2b0
   try clear c2b1
   try clear p2
   try clear c5
   try clear c11
   try clear c11b0
   try clear c11b1
   obtain ⟨kq, x28_5, rfl, HA, HJ5, HO_3, HB⟩ := hcut
   cases kq with
   | zero => exact absurd HA.out (by simp [laws_FnOrder.j0])
   | succ kj5 =>
    have H := HA.out
    clear HA
    simp only [laws_FnOrder.j0] at H
    by_cases c12 : x28_5 = true
    ·subst c12
     have H1 : (some (t531 == t532)) = some r := by rw [if_pos rfl] at H; exact H
     clear H
     have H := H1
     clear H1
     obtain rfl := Option.some.inj H
     go_wp2
     go_ret
     exact ⟨eR, bP HB⟩
    ·replace c12 := Bool.eq_false_iff.mpr c12
     subst c12
     have H1 : ((impl_PermType.f kj5 t528).bind fun bt533 => ((impl_PermPower.f kj5 t528 t531).bind fun bt537 => (laws_FnOrder.l0 kj5 t528 t531 bt533.1 bt533.2 bt537.1 bt537.2 1))) = some r := by rw [if_neg (show ¬ (false = true) by decide)] at H; exact H
     clear H
     have H := H1
     clear H1
     replace H := Option.bind_eq_some_iff.mp H
     obtain ⟨⟨t533, t534⟩, A130, H⟩ := H
     replace H : ((impl_PermPower.f kj5 t528 t531).bind fun bt537 => (laws_FnOrder.l0 kj5 t528 t531 t533 t534 bt537.1 bt537.2 1)) = some r := H
     have A13 := Aside0.mk A130
     clear A130
     replace H := Option.bind_eq_some_iff.mp H
     obtain ⟨⟨t537, t538⟩, A140, H⟩ := H
     replace H : (laws_FnOrder.l0 kj5 t528 t531 t533 t534 t537 t538 1) = some r := H
     have A14 := Aside0.mk A140
     clear A140
     have H' := Aside0.mk H
     clear H
     go_wp2_with (first | ((with_reducible refine gate_callee (f := 11) rfl ?_); refine gL (some 34) Try.func11 #[.slice Ao8 t528.length co8] ?_; (with_reducible refine (impl_PermType.calls kj5 _ _ t528 t533 t534 _ ?side1 ?side2 A13.out).mono ?_); (case side1 => exact cP (Kd.R_reads' HO_3.out).2.2); (case side2 => exact (Kd.R_reads' HO_3.out).2.1); rintro e w15 ⟨v535, rfl, ho0, hb⟩; refine ⟨_, rfl, ?_⟩; have HO536 := Aside0.mk (Kd.R_lower (Kd.R_new' ho0 (Kd.R_lt (rP HO_3))) (below_size (bP HB))); replace HO_3 := Aside0.mk (Kd.R_elder' (rP HO_3) (Kd.R_base ho0) hb); replace HB := bS HB hb; (try clear hb); (try clear hb2); (try clear hk); (try clear hi); (try clear ho0)) | ((with_reducible refine gate_callee (f := 24) rfl ?_); refine gL (some 40) Try.func24 #[.slice Ao8 t528.length co8, .int .i64 t531] ?_; (with_reducible refine (impl_PermPower.calls kj5 _ _ t528 t531 t537 t538 _ ?side1 ?side2 A14.out).mono ?_); (case side1 => exact cP (Kd.R_reads' HO_3.out).2.2); (case side2 => exact (Kd.R_reads' HO_3.out).2.1); rintro e w16 ⟨v539, rfl, ho0, hb⟩; refine ⟨_, rfl, ?_⟩; have HO540 := Aside0.mk (Kd.R_lower (Kd.R_new' (Kd.R_new' ho0 (Kd.R_lt (rP HO_3))) (Kd.R_lt (rP HO536))) (below_size (bP HB))); replace HO_3 := Aside0.mk (Kd.R_elder' (rP HO_3) (Kd.R_base ho0) hb); replace HO536 := Aside0.mk (Kd.R_elder' (rP HO536) (Kd.R_base ho0) hb); replace HB := bS HB hb; (try clear hb); (try clear hb2); (try clear hk); (try clear hi); (try clear ho0)))
     go_loopg [10] kj5 (fun kq v10 w' => ∃ (x10_2 : Int), v10 = .int .i64 x10_2 ∧ Aside0 (laws_FnOrder.l0 kq t528 t531 t533 t534 t537 t538 x10_2 = some r) ∧ Aside0 (kq ≤ kj5) ∧ Aside0 (Kd.R (Kd.int .i64) 3 w' w.heap.size (fun k_ => some k_ ≠ (v535 : Value).ownBlock ∧ some k_ ≠ (v539 : Value).ownBlock) (.slice Ao8 t528.length co8) t528) ∧ Aside0 (Kd.R (Kd.int .i64) 3 w' w.heap.size (fun k_ => some k_ ≠ ((.slice Ao8 t528.length co8) : Value).ownBlock ∧ some k_ ≠ (v539 : Value).ownBlock) v535 t533) ∧ Aside0 (Kd.R (Kd.int .i64) 3 w' w.heap.size (fun k_ => some k_ ≠ ((.slice Ao8 t528.length co8) : Value).ownBlock ∧ some k_ ≠ (v535 : Value).ownBlock) v539 t537) ∧ Aside0 (Below w.heap.size w w'))
     case atStart => exact ⟨(1), eS, H', ⟨Nat.le_refl _⟩, ⟨by (with_reducible repeat (first | apply Kd.R_alloc | apply Kd.R_drewN | apply Kd.R_drew)); exact Kd.R_mono HO_3.out (fun _ hk => ⟨hk.1.2, hk.2⟩)⟩, ⟨by (with_reducible repeat (first | apply Kd.R_alloc | apply Kd.R_drewN | apply Kd.R_drew)); exact Kd.R_mono HO536.out (fun _ hk => ⟨hk.1.2, hk.2⟩)⟩, ⟨by (with_reducible repeat (first | apply Kd.R_alloc | apply Kd.R_drewN | apply Kd.R_drew)); exact Kd.R_mono HO540.out (fun _ hk => ⟨hk.1.2, hk.2⟩)⟩, ⟨bP HB⟩⟩
     case round =>
      clear H'
      try clear c1
      try clear c2
      try clear c2b0
      try clear c2b1
      try clear p2
      try clear c5
      try clear c11
      try clear c11b0
      try clear c11b1
      try clear c12
      try clear p2
      obtain ⟨x10_2, rfl, HA, HK2, HO_3, HO_6, HO_8, HB⟩ := hrel
      cases gk with
      | zero => exact absurd HA.out (by simp [laws_FnOrder.l0])
      | succ k2 =>
       have H := HA.out
       clear HA
       simp only [laws_FnOrder.l0] at H
       by_cases c17 : x10_2 ≤ t531
       ·rw [if_pos c17] at H
        have c17b0 : decide (x10_2 ≤ t531) = true := decide_eq_true c17
        clear c17
        have H' := Aside0.mk H
        clear H
        go_wp2
        go_loopg [11, 12] k2 (fun kq v11 v12 w' => ∃ (x11_3 : Bool) (x12_3 : Int), v11 = .bool x11_3 ∧ v12 = .int .i64 x12_3 ∧ Aside0 (laws_FnOrder.l1 kq t528 t531 t533 t534 t537 t538 x10_2 x11_3 x12_3 = some r) ∧ Aside0 (kq ≤ k2) ∧ Aside0 (Kd.R (Kd.int .i64) 3 w' w.heap.size (fun k_ => some k_ ≠ (v535 : Value).ownBlock ∧ some k_ ≠ (v539 : Value).ownBlock) (.slice Ao8 t528.length co8) t528) ∧ Aside0 (Kd.R (Kd.int .i64) 3 w' w.heap.size (fun k_ => some k_ ≠ ((.slice Ao8 t528.length co8) : Value).ownBlock ∧ some k_ ≠ (v539 : Value).ownBlock) v535 t533) ∧ Aside0 (Kd.R (Kd.int .i64) 3 w' w.heap.size (fun k_ => some k_ ≠ ((.slice Ao8 t528.length co8) : Value).ownBlock ∧ some k_ ≠ (v535 : Value).ownBlock) v539 t537) ∧ Aside0 (Below w.heap.size w w'))
        case atStart => exact ⟨(true), (0), eS, eS, H', ⟨Nat.le_refl _⟩, ⟨rP HO_3⟩, ⟨rP HO_6⟩, ⟨rP HO_8⟩, ⟨bP HB⟩⟩
        case round =>
         clear H'
         try clear c1
         try clear c2
         try clear c2b0
         try clear c2b1
         try clear p2
         try clear c5
         try clear c11
         try clear c11b0
         try clear c11b1
         try clear c12
         try clear c17
         try clear c17b0
         try clear p2
         obtain ⟨x11_3, x12_3, rfl, rfl, HA, HK3, HO_3, HO_6, HO_8, HB⟩ := hrel
         cases gk with
         | zero => exact absurd HA.out (by simp [laws_FnOrder.l1])
         | succ k3 =>
          have H := HA.out
          clear HA
          simp only [laws_FnOrder.l1] at H
          by_cases c18 : x12_3 < (t533.length : Int)
          ·rw [if_pos c18] at H
           have c18b0 : decide (x12_3 < (t533.length : Int)) = true := decide_eq_true c18
           clear c18
           by_cases c19 : x11_3 = true
           ·subst c19
            have H1 : (if 0 ≤ x12_3 then (if (rd t533 x12_3) = 0 then (none) else (laws_FnOrder.l1 k3 t528 t531 t533 t534 t537 t538 x10_2 ((Int.tmod x10_2 (rd t533 x12_3)) == 0) (wrap64 (x12_3 + 1)))) else (none)) = some r := by rw [if_pos rfl] at H; exact H
            clear H
            have H := H1
            clear H1
            by_cases c20 : 0 ≤ x12_3
            ·rw [if_pos c20] at H
             have c20b0 : decide (0 ≤ x12_3) = true := decide_eq_true c20
             clear c20
             by_cases c21 : (rd t533 x12_3) = 0
             ·rw [if_pos c21] at H
              exact absurd H (by simp)
             ·rw [if_neg c21] at H
              have c21b0 : ((rd t533 x12_3) == 0) = false := beq_eq_false_iff_ne.mpr c21
              have c21b1 : ((rd t533 x12_3) != 0) = true := bne_iff_ne.mpr c21
              have H' := Aside0.mk H
              clear H
              obtain ⟨Ao22, co22, eo22⟩ := Kd.R_slice HO_6.out
              subst eo22
              have p545 : 0 ≤ (x12_3 : Int) := dT
              have q545 : x12_3 < (t533.length : Int) := dT
              obtain ⟨ad545, e545, hx545_0⟩ := Kd.at_int (Kd.R_reads' HO_6.out).2.2 x12_3 p545 q545
              cases e545
              replace p545 := eq_true p545
              replace q545 := eq_true q545
              go_wp2
              go_roundg k3
              case measure => have := HJ5.out; have := HK2.out; have := HK3.out; omega
              case rel => exact ⟨(((Int.tmod x10_2 (rd t533 x12_3)) == 0)), (wrap64 (x12_3 + 1)), eS, eS, H', ⟨by have := HJ5.out; have := HK2.out; have := HK3.out; omega⟩, ⟨rP HO_3⟩, ⟨rP HO_6⟩, ⟨rP HO_8⟩, ⟨bP HB⟩⟩
            ·rw [if_neg c20] at H
             exact absurd H (by simp)
           ·replace c19 := Bool.eq_false_iff.mpr c19
            subst c19
            have H1 : (laws_FnOrder.l1 k3 t528 t531 t533 t534 t537 t538 x10_2 false (wrap64 (x12_3 + 1))) = some r := by rw [if_neg (show ¬ (false = true) by decide)] at H; exact H
            clear H
            have H := H1
            clear H1
            have H' := Aside0.mk H
            clear H
            obtain ⟨Ao23, co23, eo23⟩ := Kd.R_slice HO_6.out
            subst eo23
            go_wp2
            go_roundg k3
            case measure => have := HJ5.out; have := HK2.out; have := HK3.out; omega
            case rel => exact ⟨(false), (wrap64 (x12_3 + 1)), eS, eS, H', ⟨by have := HJ5.out; have := HK2.out; have := HK3.out; omega⟩, ⟨rP HO_3⟩, ⟨rP HO_6⟩, ⟨rP HO_8⟩, ⟨bP HB⟩⟩
          ·rw [if_neg c18] at H
           have c18b0 : decide (x12_3 < (t533.length : Int)) = false := decide_eq_false c18
           clear c18
           by_cases c24 : (x11_3 != (x10_2 == t531)) = true
           ·rw [if_pos c24] at H
            have c24b0 : (x11_3 != (x10_2 == t531)) = true := c24
            (try (have c24b1 : decide (x11_3 = (x10_2 == t531)) = false := by simpa using c24))
            (try (have c24b2 : (x11_3 == (x10_2 == t531)) = false := by simpa using c24))
            (try (have c24b3 : ¬ (x11_3 = (x10_2 == t531)) := by simpa using c24))
            clear c24
            exact absurd ((Option.some.inj H).trans hr_.out) (by decide)
           ·rw [if_neg c24] at H
            have c24b0 : (x11_3 != (x10_2 == t531)) = false := by simpa using c24
            (try (have c24b1 : decide (x11_3 = (x10_2 == t531)) = true := by simpa using c24))
            (try (have c24b2 : (x11_3 == (x10_2 == t531)) = true := by simpa using c24))
            clear c24
            have H' := Aside0.mk H
            clear H
            obtain ⟨Ao25, co25, eo25⟩ := Kd.R_slice HO_6.out
            subst eo25
            go_wp2
            go_roundg k3
            case measure => have := HJ5.out; have := HK2.out; have := HK3.out; omega
            case rel => exact ⟨(wrap64 (x10_2 + 1)), eS, H', ⟨by have := HJ5.out; have := HK2.out; have := HK3.out; omega⟩, ⟨rP HO_3⟩, ⟨rP HO_6⟩, ⟨rP HO_8⟩, ⟨bP HB⟩⟩
       ·rw [if_neg c17] at H
        have c17b0 : decide (x10_2 ≤ t531) = false := decide_eq_false c17
        clear c17
        by_cases c26 : t534 = true
        ·subst c26
         have H1 : (if t538 = true then ((laws_stayOf.f k2 (t528.length : Int)).bind fun t541 => ((laws_sameInts.f k2 t537 t541).bind fun t544 => (some t544))) else (some false)) = some r := by rw [if_pos rfl] at H; exact H
         clear H
         have H := H1
         clear H1
         by_cases c27 : t538 = true
         ·subst c27
          have H1 : ((laws_stayOf.f k2 (t528.length : Int)).bind fun t541 => ((laws_sameInts.f k2 t537 t541).bind fun t544 => (some t544))) = some r := by rw [if_pos rfl] at H; exact H
          clear H
          have H := H1
          clear H1
          replace H := Option.bind_eq_some_iff.mp H
          obtain ⟨t541, A280, H⟩ := H
          replace H : ((laws_sameInts.f k2 t537 t541).bind fun t544 => (some t544)) = some r := H
          have A28 := Aside0.mk A280
          clear A280
          replace H := Option.bind_eq_some_iff.mp H
          obtain ⟨t544, A290, H⟩ := H
          replace H : (some t544) = some r := H
          have A29 := Aside0.mk A290
          clear A290
          obtain rfl := Option.some.inj H
          go_wp2_with (first | (go_at_call 20; (with_reducible refine (laws_stayOf.calls k2 (t528.length : Int) t541 _ A28.out).mono ?_); rintro e w30 ⟨v542, rfl, ho0, hb⟩; have HO543 := Aside0.mk (Kd.R_lower (Kd.R_new' (Kd.R_new' (Kd.R_new' ho0 (Kd.R_lt (rP HO_3))) (Kd.R_lt (rP HO_6))) (Kd.R_lt (rP HO_8))) (below_size (bP HB))); replace HO_3 := Aside0.mk (Kd.R_elder' (rP HO_3) (Kd.R_base ho0) hb); replace HO_6 := Aside0.mk (Kd.R_elder' (rP HO_6) (Kd.R_base ho0) hb); replace HO_8 := Aside0.mk (Kd.R_elder' (rP HO_8) (Kd.R_base ho0) hb); replace HB := bS HB hb; (try clear hb); (try clear hb2); (try clear hk); (try clear hi); (try clear ho0); obtain ⟨Ao31, co31, eo31⟩ := Kd.R_slice HO_8.out; subst eo31; obtain ⟨Ao32, co32, eo32⟩ := Kd.R_slice HO543.out; subst eo32) | (go_at_call 18; (with_reducible refine (laws_sameInts.calls k2 _ _ t537 _ _ t541 t544 _ ?side1 ?side2 ?side3 ?side4 A29.out).mono ?_); (case side1 => exact cP (Kd.R_reads' HO_8.out).2.2); (case side2 => exact (Kd.R_reads' HO_8.out).2.1); (case side3 => exact cP (Kd.R_reads' HO543.out).2.2); (case side4 => exact (Kd.R_reads' HO543.out).2.1); rintro e w' ⟨rfl, ⟨nd, rfl⟩⟩))
          go_ret
          exact ⟨eR, bP HB⟩
         ·replace c27 := Bool.eq_false_iff.mpr c27
          subst c27
          have H1 : (some false) = some r := by rw [if_neg (show ¬ (false = true) by decide)] at H; exact H
          clear H
          have H := H1
          clear H1
          exact absurd ((Option.some.inj H).trans hr_.out) (by decide)
        ·replace c26 := Bool.eq_false_iff.mpr c26
         subst c26
         have H1 : (some false) = some r := by rw [if_neg (show ¬ (false = true) by decide)] at H; exact H
         clear H
         have H := H1
         clear H1
         exact absurd ((Option.some.inj H).trans hr_.out) (by decide)

/-- THE ONE PURE STATEMENT of laws_FnOrder: yours. -/
def laws_FnOrder.Pure : Prop := ∀ (l0 : List Int), l0.length ≤ maxLen → l0.length * 1 ≤ 140737488351232 → (∀ x ∈ l0, (Lit.int .u8 x).wf = true) → ∃ k, laws_FnOrder.f k l0 = some true
theorem laws_FnOrder.walk (P : laws_FnOrder.Pure) (a0 : Option Addr) (len0 cap0 : Nat) (z0 : List Int) (w : World) (w0 : (a0 = none ∧ len0 = 0 ∧ cap0 = 0 ∧ z0 = []) ∨ ∃ x, a0 = some x ∧ len0 ≤ cap0 ∧ cap0 ≤ maxLen ∧ z0.length = cap0 ∧ (∀ i, i < z0.length → w.cell? (x.add i) = some (.int .u8 (z0.getD i 0))) ∧ ∀ n ∈ z0, (Lit.int .u8 n).wf = true) (y0 : len0 * 1 ≤ 140737488351232) :
 Calls Try.prog 5 #[.slice a0 len0 cap0] w fun e w' => e = .returned (.bool true) ∧ Below w.heap.size w w' := by
 obtain ⟨l0, rfl, hr0, hm0, hw0, hc0⟩ := ReadsInt.ofRowC w0
 obtain ⟨k, h⟩ := P l0 hm0 y0 hw0
 refine (laws_FnOrder.calls k _ _ l0 true w (Kd.C_of_reads (d := (0 : Int)) (h1 := fun _ => rfl) hr0) hc0 ⟨rfl⟩ h).mono ?_
 rintro e w' ⟨rfl, hd⟩
 exact ⟨rfl, hd⟩

end Go.Proofs.Yteffimfifgnleaa.F
