/- Contracts: what these Go functions return. -/
import Derived.Test.YtieaplnngmgkeaaGreatDoorF0
import Derived.Test.YtieaplnngmgkeaaGreatDoorF1
import Derived.Test.YtieaplnngmgkeaaGreatDoorF2
import Derived.Test.YtieaplnngmgkeaaGreatDoorF3
import Derived.Test.YtieaplnngmgkeaaGreatDoorF4
import Derived.Test.YtieaplnngmgkeaaGreatDoorF5
import Derived.Test.YtieaplnngmgkeaaGreatDoorF7
import Derived.Test.YtieaplnngmgkeaaGreatDoorF8
import Derived.Test.YtieaplnngmgkeaaGreatDoorF11
import Derived.Test.YtieaplnngmgkeaaGreatDoorF16
import Derived.Test.YtieaplnngmgkeaaGreatDoorF17
import Derived.Test.YtieaplnngmgkeaaGreatDoorF18
import Derived.Test.YtieaplnngmgkeaaGreatDoorF29
namespace Go.Proofs.YtieaplnngmgkeaaGreatDoor.F
open Go.RowKit Go.Proofs.YtieaplnngmgkeaaGreatDoorW.PrintWords Go.Proofs.YtieaplnngmgkeaaGreatDoorW.PrintLast Go.Proofs.YtieaplnngmgkeaaGreatDoorW.PrintMore
attribute [local go_sem] max2_int min2_int max_two min_two max_three min_three max_four min_four
set_option linter.unusedVariables false
set_option linter.unusedSimpArgs false

/-! ### laws_FnPermsWhole: function 3 -/
mutual
def laws_FnPermsWhole.j0 : Nat → List Int → List Int → Bool → Option (Bool)
 | 0, _, _, _ => none
 | k + 1, x0, x1, x32 => if x32 = true then (some true) else ((impl_PermValid.f x0).bind fun t396 => ((impl_PermValid.f x1).bind fun t397 => ((impl_PermMul.f k x0 x1).bind fun bt398 => ((spec_PermMul.f k x0 x1).bind fun bt402 => ((spec_PermValid.f k x0).bind fun t406 => (if (t396 != t406) = true then (laws_FnPermsWhole.j1 k x0 x1 t396 bt398.1 bt398.2 true) else ((spec_PermValid.f k x1).bind fun t407 => (if (t397 != t407) = true then (laws_FnPermsWhole.j1 k x0 x1 t396 bt398.1 bt398.2 true) else (if (bt398.2 != bt402.2) = true then (laws_FnPermsWhole.j1 k x0 x1 t396 bt398.1 bt398.2 true) else ((laws_sameInts.f k bt398.1 bt402.1).bind fun t408 => (if t408 = true then (if t396 = true then (if t397 = true then (if (bt398.2 != ((x0.length : Int) == (x1.length : Int))) = true then (laws_FnPermsWhole.j1 k x0 x1 t396 bt398.1 bt398.2 true) else ((impl_PermValid.f (([0] : List Int))).bind fun t412 => (laws_FnPermsWhole.j1 k x0 x1 t396 bt398.1 bt398.2 (!t412)))) else (if (bt398.2 != false) = true then (laws_FnPermsWhole.j1 k x0 x1 t396 bt398.1 bt398.2 true) else ((impl_PermValid.f (([0] : List Int))).bind fun t416 => (laws_FnPermsWhole.j1 k x0 x1 t396 bt398.1 bt398.2 (!t416))))) else (if (bt398.2 != false) = true then (laws_FnPermsWhole.j1 k x0 x1 t396 bt398.1 bt398.2 true) else ((impl_PermValid.f (([0] : List Int))).bind fun t420 => (laws_FnPermsWhole.j1 k x0 x1 t396 bt398.1 bt398.2 (!t420))))) else (laws_FnPermsWhole.j1 k x0 x1 t396 bt398.1 bt398.2 true))))))))))))
def laws_FnPermsWhole.j1 : Nat → List Int → List Int → Bool → List Int → Bool → Bool → Option (Bool)
 | 0, _, _, _, _, _, _ => none
 | k + 1, x0, x1, x5, x7, x8, x89 => if x89 = true then (some false) else (if x5 = true then ((impl_PermText.f k x0).bind fun t424 => ((impl_PermFrom.f k (x0.length : Int) t424).bind fun bt425 => ((impl_PermOrder.f k x0).bind fun t429 => ((impl_PermPower.f k x0 t429).bind fun bt430 => (if bt425.2 = true then ((laws_sameInts.f k bt425.1 x0).bind fun t434 => (if t434 = true then (if bt430.2 = true then ((impl_PermText.f k bt430.1).bind fun t435 => (laws_FnPermsWhole.j2 k x0 x1 x7 x8 (t435.toList != ([40, 41] : List UInt8)))) else (laws_FnPermsWhole.j2 k x0 x1 x7 x8 false)) else (laws_FnPermsWhole.j2 k x0 x1 x7 x8 true))) else (laws_FnPermsWhole.j2 k x0 x1 x7 x8 true)))))) else ((impl_PermOrder.f k x0).bind fun t421 => ((spec_PermOrder.f k x0).bind fun t422 => (if t421 = t422 then ((impl_PermText.f k x0).bind fun t423 => (some (t423.toList == ([] : List UInt8)))) else (some false)))))
def laws_FnPermsWhole.j2 : Nat → List Int → List Int → List Int → Bool → Bool → Option (Bool)
 | 0, _, _, _, _, _ => none
 | k + 1, x0, x1, x7, x8, x132 => if x132 = true then (some false) else (if x8 = true then ((impl_PermBack.f k x1).bind fun bt436 => ((impl_PermMul.f k x7 bt436.1).bind fun bt440 => ((impl_PermConj.f k x0 x1).bind fun bt444 => ((impl_PermType.f k x0).bind fun bt448 => ((impl_PermType.f k bt444.1).bind fun bt452 => (if bt436.2 = true then (if bt440.2 = true then (if bt444.2 = true then (if bt448.2 = true then (if bt452.2 = true then ((impl_PermSign.f k x7).bind fun t456 => ((impl_PermSign.f k x0).bind fun t457 => ((impl_PermSign.f k x1).bind fun t458 => (if t456 = (wrap64 (t457 * t458)) then ((laws_sameInts.f k bt440.1 x0).bind fun t459 => (if t459 = true then ((laws_sameInts.f k bt448.1 bt452.1).bind fun t460 => (if t460 = true then ((impl_PermOrder.f k bt444.1).bind fun t461 => ((impl_PermOrder.f k x0).bind fun t462 => (some (t461 == t462)))) else (some false))) else (some false))) else (some false))))) else (some false)) else (some false)) else (some false)) else (some false)) else (some false))))))) else (some true))
end
def laws_FnPermsWhole.f (k : Nat) (l0 : List Int) (l1 : List Int) : Option (Bool) := if (l0.length : Int) > 2147483647 then (laws_FnPermsWhole.j0 k l0 l1 true) else (laws_FnPermsWhole.j0 k l0 l1 (decide ((l1.length : Int) > 2147483647)))
theorem laws_FnPermsWhole.j1_no (k : Nat) (x0 : List Int) (x1 : List Int) (x5 : Bool) (x7 : List Int) (x8 : Bool) : laws_FnPermsWhole.j1 k x0 x1 x5 x7 x8 true = some true → False := by
 cases k with
 | zero => intro h; rw [laws_FnPermsWhole.j1] at h; cases h
 | succ k => intro h; rw [laws_FnPermsWhole.j1, if_pos rfl] at h; cases h
theorem laws_FnPermsWhole.j2_no (k : Nat) (x0 : List Int) (x1 : List Int) (x7 : List Int) (x8 : Bool) : laws_FnPermsWhole.j2 k x0 x1 x7 x8 true = some true → False := by
 cases k with
 | zero => intro h; rw [laws_FnPermsWhole.j2] at h; cases h
 | succ k => intro h; rw [laws_FnPermsWhole.j2, if_pos rfl] at h; cases h
set_option maxHeartbeats 8000000 in
set_option maxRecDepth 100000 in
theorem laws_FnPermsWhole.calls (k : Nat) (A0 : Option Addr) (c0 : Nat) (l0 : List Int) (A1 : Option Addr) (c1 : Nat) (l1 : List Int) (r : Bool) (w : World) (m0_ : Int) (ev1_ ev2_ : Value) (hm0_ : w.cell? ⟨0, 0, none⟩ = some (.int .i64 m0_)) (hm1_ : w.cell? ⟨1, 0, none⟩ = some ev1_) (hm2_ : w.cell? ⟨2, 0, none⟩ = some ev2_) (hj1_ : ev1_ = .nilIface ∨ ∃ te pe, ev1_ = .iface te pe) (hj2_ : ev2_ = .nilIface ∨ ∃ te pe, ev2_ = .iface te pe) (hr0 : Kd.C (Kd.int .i64) w A0 l0.length l0) (hc0 : l0.length ≤ c0) (hr1 : Kd.C (Kd.int .i64) w A1 l1.length l1) (hc1 : l1.length ≤ c1) (hr_ : Aside0 (r = true)) (h : laws_FnPermsWhole.f k l0 l1 = some r) :
 Calls Tryz.prog 3 #[.slice A0 l0.length c0, .slice A1 l1.length c1] w fun e w' => e = .returned (.bool r) ∧ Below w.heap.size w w' := by
 have HR0 := Aside0.mk hr0
 have HC0 := Aside0.mk hc0
 clear hr0 hc0
 have HR1 := Aside0.mk hr1
 have HC1 := Aside0.mk hc1
 clear hr1 hc1
 have HB := Aside0.mk (Below.refl w.heap.size w)
 have HM0_ := Aside0.mk hm0_
 have HM1_ := Aside0.mk hm1_
 have HM2_ := Aside0.mk hm2_
 have HJ1_ := Aside0.mk hj1_
 have HJ2_ := Aside0.mk hj2_
 clear hm0_ hm1_ hm2_ hj1_ hj2_
 have H : (if (l0.length : Int) > 2147483647 then (laws_FnPermsWhole.j0 k l0 l1 true) else (laws_FnPermsWhole.j0 k l0 l1 (decide ((l1.length : Int) > 2147483647)))) = some r := h
 clear h
 have HC3 := Aside0.mk H
 clear H
 go_enter Tryz.func3, Tryz.ntmps3
 go_upto_region 1 with (fail)
 go_cut [32] (fun v32 wc => ∃ (kq : Nat) (x32_2 : Bool), v32 = .bool x32_2 ∧ Aside0 (laws_FnPermsWhole.j0 kq l0 l1 x32_2 = some r) ∧ Aside0 (kq ≤ k) ∧ Aside0 (Below w.heap.size w wc))
 case first =>
  have H := HC3.out
  clear HC3
  by_cases c4 : (l0.length : Int) > 2147483647
  ·rw [if_pos c4] at H
   have c4b0 : decide (2147483647 < (l0.length : Int)) = true := decide_eq_true c4
   have c4b1 : decide (2147483647 < l0.length) = true := decide_eq_true (by omega)
   clear c4
   (first | rw [c4b0] | (simp only [i64_w, i32_w]; rw [c4b0]) | skip)
   have H' := Aside0.mk H
   clear H
   go_wp2
   go_meet
   case rel => exact ⟨_, (true), eS, H', ⟨by first | omega | exact Nat.le_refl _⟩, ⟨bP HB⟩⟩
  rw [if_neg c4] at H
  have c4b0 : decide (2147483647 < (l0.length : Int)) = false := decide_eq_false c4
  have c4b1 : decide (2147483647 < l0.length) = false := decide_eq_false (by omega)
  clear c4
  (first | rw [c4b0] | (simp only [i64_w, i32_w]; rw [c4b0]) | skip)
  have H' := Aside0.mk H
  clear H
  go_wp2
  go_meet
  case rel => exact ⟨_, (decide ((l1.length : Int) > 2147483647)), eS, H', ⟨by first | omega | exact Nat.le_refl _⟩, ⟨bP HB⟩⟩
 case rest =>
  clear HC3
  try clear c1
  try clear p2
  try clear c3
  try clear c4
  try clear c4b0
  try clear c4b1
  obtain ⟨kq, x32_2, rfl, HA, HJ2, HB⟩ := hcut
  cases kq with
  | zero => exact absurd HA.out (by simp [laws_FnPermsWhole.j0])
  | succ kj2 =>
   have H := HA.out
   clear HA
   simp only [laws_FnPermsWhole.j0] at H
   by_cases c5 : x32_2 = true
   ·subst c5
    rw [if_pos rfl] at H
    obtain rfl := Option.some.inj H
    go_wp2
    go_ret
    exact ⟨eR, bP HB⟩
   ·replace c5 := Bool.eq_false_iff.mpr c5
    subst c5
    rw [iF] at H
    obtain ⟨t396, A60, H⟩ := Option.bind_eq_some_iff.mp H
    have A6 := Aside0.mk A60
    clear A60
    obtain ⟨t397, A70, H⟩ := Option.bind_eq_some_iff.mp H
    have A7 := Aside0.mk A70
    clear A70
    obtain ⟨⟨t398, t399⟩, A80, H⟩ := Option.bind_eq_some_iff.mp H
    dsimp only at H
    have A8 := Aside0.mk A80
    clear A80
    obtain ⟨⟨t402, t403⟩, A90, H⟩ := Option.bind_eq_some_iff.mp H
    dsimp only at H
    have A9 := Aside0.mk A90
    clear A90
    have HC10 := Aside0.mk H
    clear H
    go_upto_region 6 with (first | ((with_reducible refine gate_callee (f := 4) rfl ?_); refine gL (some 34) Tryz.func4 #[.slice A0 l0.length c0] ?_; (with_reducible refine (impl_PermValid.calls _ _ l0 t396 _ ?side1 ?side2 A6.out).mono ?_); (case side1 => exact cB HR0 HB); (case side2 => exact HC0.out); rintro e w11 ⟨rfl, hb⟩; refine ⟨_, rfl, ?_⟩; replace HB := bS HB hb; (try clear hb); (try clear hb2); (try clear hk); (try clear hi)) | ((with_reducible refine gate_callee (f := 4) rfl ?_); refine gL (some 36) Tryz.func4 #[.slice A1 l1.length c1] ?_; (with_reducible refine (impl_PermValid.calls _ _ l1 t397 _ ?side1 ?side2 A7.out).mono ?_); (case side1 => exact cB HR1 HB); (case side2 => exact HC1.out); rintro e w12 ⟨rfl, hb⟩; refine ⟨_, rfl, ?_⟩; replace HB := bS HB hb; (try clear hb); (try clear hb2); (try clear hk); (try clear hi)) | ((with_reducible refine gate_callee (f := 5) rfl ?_); refine gL (some 40) Tryz.func5 #[.slice A0 l0.length c0, .slice A1 l1.length c1] ?_; (with_reducible refine (impl_PermMul.calls kj2 _ _ l0 _ _ l1 t398 t399 _ ?side1 ?side2 ?side3 ?side4 A8.out).mono ?_); (case side1 => exact cB HR0 HB); (case side2 => exact HC0.out); (case side3 => exact cB HR1 HB); (case side4 => exact HC1.out); rintro e w13 ⟨v400, rfl, ho0, hb⟩; refine ⟨_, rfl, ?_⟩; have HO401 := rL ho0 HB; replace HB := bS HB hb; (try clear hb); (try clear hb2); (try clear hk); (try clear hi); (try clear ho0)) | ((with_reducible refine gate_callee (f := 6) rfl ?_); refine gL (some 46) Tryz.func6 #[.slice A0 l0.length c0, .slice A1 l1.length c1] ?_; (with_reducible refine (spec_PermMul.calls kj2 _ _ l0 _ _ l1 t402 t403 _ ?side1 ?side2 ?side3 ?side4 A9.out).mono ?_); (case side1 => exact cB HR0 HB); (case side2 => exact HC0.out); (case side3 => exact cB HR1 HB); (case side4 => exact HC1.out); rintro e w14 ⟨v404, rfl, ho0, hb⟩; refine ⟨_, rfl, ?_⟩; have HO405 := Aside0.mk (Kd.R_lower (Kd.R_new' ho0 (Kd.R_lt (rP HO401))) (below_size (bP HB))); replace HO401 := Aside0.mk (Kd.R_elder' (rP HO401) (Kd.R_base ho0) hb); replace HB := bS HB hb; (try clear hb); (try clear hb2); (try clear hk); (try clear hi); (try clear ho0)))
    (try simp only [Act.put, List.setIfInBounds_toArray, List.set_cons_zero, List.set_cons_succ])
    go_cut [89] (fun v89 wc => ∃ (kq : Nat) (x89_9 : Bool), v89 = .bool x89_9 ∧ Aside0 (laws_FnPermsWhole.j1 kq l0 l1 t396 t398 t399 x89_9 = some r) ∧ Aside0 (kq ≤ kj2) ∧ Aside0 (Kd.R (Kd.int .i64) 3 wc w.heap.size (fun _ => True) v400 t398) ∧ Aside0 (Below w.heap.size w wc))
    case first =>
     have H := HC10.out
     clear HC10
     obtain ⟨t406, A150, H⟩ := Option.bind_eq_some_iff.mp H
     have A15 := Aside0.mk A150
     clear A150
     by_cases c16 : (t396 != t406) = true
     ·rw [if_pos c16] at H
      have c16b0 : (t396 != t406) = true := c16
      (try (have c16b1 : decide (t396 = t406) = false := by simpa using c16))
      (try (have c16b2 : (t396 == t406) = false := by simpa using c16))
      (try (have c16b3 : ¬ (t396 = t406) := by simpa using c16))
      clear c16
      (first | rw [c16b0] | (simp only [i64_w, i32_w]; rw [c16b0]) | skip)
      exact (laws_FnPermsWhole.j1_no _ _ _ _ _ _ (H.trans (congrArg some hr_.out))).elim
     rw [if_neg c16] at H
     have c16b0 : (t396 != t406) = false := by simpa using c16
     (try (have c16b1 : decide (t396 = t406) = true := by simpa using c16))
     (try (have c16b2 : (t396 == t406) = true := by simpa using c16))
     clear c16
     (first | rw [c16b0] | (simp only [i64_w, i32_w]; rw [c16b0]) | skip)
     obtain ⟨t407, A170, H⟩ := Option.bind_eq_some_iff.mp H
     have A17 := Aside0.mk A170
     clear A170
     by_cases c18 : (t397 != t407) = true
     ·rw [if_pos c18] at H
      have c18b0 : (t397 != t407) = true := c18
      (try (have c18b1 : decide (t397 = t407) = false := by simpa using c18))
      (try (have c18b2 : (t397 == t407) = false := by simpa using c18))
      (try (have c18b3 : ¬ (t397 = t407) := by simpa using c18))
      clear c18
      exact (laws_FnPermsWhole.j1_no _ _ _ _ _ _ (H.trans (congrArg some hr_.out))).elim
     rw [if_neg c18] at H
     have c18b0 : (t397 != t407) = false := by simpa using c18
     (try (have c18b1 : decide (t397 = t407) = true := by simpa using c18))
     (try (have c18b2 : (t397 == t407) = true := by simpa using c18))
     clear c18
     by_cases c19 : (t399 != t403) = true
     ·rw [if_pos c19] at H
      have c19b0 : (t399 != t403) = true := c19
      (try (have c19b1 : decide (t399 = t403) = false := by simpa using c19))
      (try (have c19b2 : (t399 == t403) = false := by simpa using c19))
      (try (have c19b3 : ¬ (t399 = t403) := by simpa using c19))
      clear c19
      exact (laws_FnPermsWhole.j1_no _ _ _ _ _ _ (H.trans (congrArg some hr_.out))).elim
     rw [if_neg c19] at H
     have c19b0 : (t399 != t403) = false := by simpa using c19
     (try (have c19b1 : decide (t399 = t403) = true := by simpa using c19))
     (try (have c19b2 : (t399 == t403) = true := by simpa using c19))
     clear c19
     obtain ⟨t408, A200, H⟩ := Option.bind_eq_some_iff.mp H
     have A20 := Aside0.mk A200
     clear A200
     by_cases c21 : t408 = true
     case neg =>
      replace c21 := Bool.eq_false_iff.mpr c21
      subst c21
      rw [iF] at H
      exact (laws_FnPermsWhole.j1_no _ _ _ _ _ _ (H.trans (congrArg some hr_.out))).elim
     subst c21
     rw [if_pos rfl] at H
     by_cases c22 : t396 = true
     case neg =>
      replace c22 := Bool.eq_false_iff.mpr c22
      subst c22
      rw [iF] at H
      by_cases c40 : (t399 != false) = true
      ·rw [if_pos c40] at H
       have c40b0 : (t399 != false) = true := c40
       (try (have c40b1 : decide (t399 = false) = false := by simpa using c40))
       (try (have c40b2 : (t399 == false) = false := by simpa using c40))
       (try (have c40b3 : ¬ (t399 = false) := by simpa using c40))
       clear c40
       exact (laws_FnPermsWhole.j1_no _ _ _ _ _ _ (H.trans (congrArg some hr_.out))).elim
      rw [if_neg c40] at H
      have c40b0 : (t399 != false) = false := by simpa using c40
      (try (have c40b1 : decide (t399 = false) = true := by simpa using c40))
      (try (have c40b2 : (t399 == false) = true := by simpa using c40))
      clear c40
      obtain ⟨y417, hy417⟩ : ∃ y_ : List Int, y_ = (([0] : List Int)) := ⟨_, rfl⟩
      replace H : ((impl_PermValid.f y417).bind fun t420 => (laws_FnPermsWhole.j1 kj2 l0 l1 false t398 t399 (!t420))) = some r := by first | (rw [hy417]; with_reducible exact H) | (have H2_ := (Option.bind_some _ _).symm.trans H; rw [hy417]; with_reducible exact H2_) | (have H2_ := (Option.bind_some _ _).symm.trans H; with_reducible exact H2_) | with_reducible exact H | (rw [hy417]; exact H) | exact H
      have Ny417 := Aside0.mk hy417
      clear hy417
      obtain ⟨t420, A410, H⟩ := Option.bind_eq_some_iff.mp H
      have A41 := Aside0.mk A410
      clear A410
      have H' := Aside0.mk H
      clear H
      go_wp2_with (first | ((with_reducible refine gate_callee (f := 7) rfl ?_); refine gL (some 51) Tryz.func7 #[.slice A0 l0.length c0] ?_; (with_reducible refine (spec_PermValid.calls kj2 _ _ l0 t406 _ ?side1 ?side2 A15.out).mono ?_); (case side1 => exact cB HR0 HB); (case side2 => exact HC0.out); rintro e w' ⟨rfl, ⟨nd, rfl⟩⟩; refine ⟨_, rfl, ?_⟩) | (go_at_call 7; (with_reducible refine (spec_PermValid.calls kj2 _ _ l1 t407 _ ?side1 ?side2 A17.out).mono ?_); (case side1 => exact cP (Kd.C_below HR1.out (bP HB))); (case side2 => exact HC1.out); rintro e w' ⟨rfl, ⟨nd, rfl⟩⟩; obtain ⟨Ao42, co42, eo42⟩ := Kd.R_slice HO401.out; subst eo42; obtain ⟨Ao43, co43, eo43⟩ := Kd.R_slice HO405.out; subst eo43) | (go_at_call 8; (with_reducible refine (laws_sameInts.calls kj2 _ _ t398 _ _ t402 true _ ?side1 ?side2 ?side3 ?side4 A20.out).mono ?_); (case side1 => exact cP (Kd.R_reads' HO401.out).2.2); (case side2 => exact (Kd.R_reads' HO401.out).2.1); (case side3 => exact cP (Kd.R_reads' HO405.out).2.2); (case side4 => exact (Kd.R_reads' HO405.out).2.1); rintro e w' ⟨rfl, ⟨nd, rfl⟩⟩) | ((with_reducible refine gate_dst (N := 86) rfl ?_); (try (refine gate_guard (by rfl) ?_; dsimp only)); refine Kd.R_lit (Kd.int .i64) _ 3 ?hg (N := 86) ?hd (xs := ([0] : List Int)) (inner := [.int .i64 0]) (ok := fun _ => True) (okp := fun _ => True) ?hr ?hp (fun _ hk => hk) trivial (Below.refl _ _) (Nat.le_refl _) (by simp) ?_; (case hd => rfl); (case hg => rfl); (case hr => first | (go_simp; done) | (go_simp; rfl)); (case hp => exact (Reps.one (show Kd.M (Kd.int .i64) _ _ _ 0 [.int .i64 0] from rfl) (Reps.none _ _))); intro v418 w44 ho45 hb hg_ hnew_; clear hg_ hnew_; (first | rw [← Ny417.out] at ho45 | (simp only [Int.reduceToNat] at ho45; rw [← Ny417.out] at ho45)); have HO419 := Aside0.mk (Kd.R_lower (Kd.R_new' (Kd.R_new' ho45 (Kd.R_lt (rP HO401))) (Kd.R_lt (rP HO405))) (below_size (bP HB))); replace HO401 := Aside0.mk (Kd.R_elder' (rP HO401) (Kd.R_base ho45) hb); replace HO405 := Aside0.mk (Kd.R_elder' (rP HO405) (Kd.R_base ho45) hb); replace HB := bS HB hb; clear hb ho45; obtain ⟨Ao46, co46, eo46⟩ := Kd.R_slice HO419.out; subst eo46) | (go_at_call 4; (with_reducible refine (impl_PermValid.calls _ _ y417 t420 _ ?side1 ?side2 A41.out).mono ?_); (case side1 => exact cP (Kd.R_reads' HO419.out).2.2); (case side2 => exact (Kd.R_reads' HO419.out).2.1); rintro e w47 ⟨rfl, hb⟩; replace HO401 := rB HO401 hb; replace HO405 := rB HO405 hb; replace HO419 := rB HO419 hb; replace HB := bS HB hb; (try clear hb); (try clear hb2); (try clear hk); (try clear hi)))
      go_meet
      case rel => exact ⟨_, (!t420), eS, H', ⟨by have := HJ2.out; first | omega | exact Nat.le_refl _⟩, ⟨rT (Kd.R_mono HO401.out (fun _ hk => trivial))⟩, ⟨bP HB⟩⟩
     subst c22
     rw [if_pos rfl] at H
     by_cases c23 : t397 = true
     ·subst c23
      rw [if_pos rfl] at H
      by_cases c24 : (t399 != ((l0.length : Int) == (l1.length : Int))) = true
      ·rw [if_pos c24] at H
       have c24b0 : (t399 != ((l0.length : Int) == (l1.length : Int))) = true := c24
       (try (have c24b1 : decide (t399 = ((l0.length : Int) == (l1.length : Int))) = false := by simpa using c24))
       (try (have c24b2 : (t399 == ((l0.length : Int) == (l1.length : Int))) = false := by simpa using c24))
       (try (have c24b3 : ¬ (t399 = ((l0.length : Int) == (l1.length : Int))) := by simpa using c24))
       clear c24
       exact (laws_FnPermsWhole.j1_no _ _ _ _ _ _ (H.trans (congrArg some hr_.out))).elim
      rw [if_neg c24] at H
      have c24b0 : (t399 != ((l0.length : Int) == (l1.length : Int))) = false := by simpa using c24
      (try (have c24b1 : decide (t399 = ((l0.length : Int) == (l1.length : Int))) = true := by simpa using c24))
      (try (have c24b2 : (t399 == ((l0.length : Int) == (l1.length : Int))) = true := by simpa using c24))
      clear c24
      obtain ⟨y409, hy409⟩ : ∃ y_ : List Int, y_ = (([0] : List Int)) := ⟨_, rfl⟩
      replace H : ((impl_PermValid.f y409).bind fun t412 => (laws_FnPermsWhole.j1 kj2 l0 l1 true t398 t399 (!t412))) = some r := by first | (rw [hy409]; with_reducible exact H) | (have H2_ := (Option.bind_some _ _).symm.trans H; rw [hy409]; with_reducible exact H2_) | (have H2_ := (Option.bind_some _ _).symm.trans H; with_reducible exact H2_) | with_reducible exact H | (rw [hy409]; exact H) | exact H
      have Ny409 := Aside0.mk hy409
      clear hy409
      obtain ⟨t412, A250, H⟩ := Option.bind_eq_some_iff.mp H
      have A25 := Aside0.mk A250
      clear A250
      have H' := Aside0.mk H
      clear H
      go_wp2_with (first | ((with_reducible refine gate_callee (f := 7) rfl ?_); refine gL (some 51) Tryz.func7 #[.slice A0 l0.length c0] ?_; (with_reducible refine (spec_PermValid.calls kj2 _ _ l0 t406 _ ?side1 ?side2 A15.out).mono ?_); (case side1 => exact cB HR0 HB); (case side2 => exact HC0.out); rintro e w' ⟨rfl, ⟨nd, rfl⟩⟩; refine ⟨_, rfl, ?_⟩) | (go_at_call 7; (with_reducible refine (spec_PermValid.calls kj2 _ _ l1 t407 _ ?side1 ?side2 A17.out).mono ?_); (case side1 => exact cP (Kd.C_below HR1.out (bP HB))); (case side2 => exact HC1.out); rintro e w' ⟨rfl, ⟨nd, rfl⟩⟩; obtain ⟨Ao26, co26, eo26⟩ := Kd.R_slice HO401.out; subst eo26; obtain ⟨Ao27, co27, eo27⟩ := Kd.R_slice HO405.out; subst eo27) | (go_at_call 8; (with_reducible refine (laws_sameInts.calls kj2 _ _ t398 _ _ t402 true _ ?side1 ?side2 ?side3 ?side4 A20.out).mono ?_); (case side1 => exact cP (Kd.R_reads' HO401.out).2.2); (case side2 => exact (Kd.R_reads' HO401.out).2.1); (case side3 => exact cP (Kd.R_reads' HO405.out).2.2); (case side4 => exact (Kd.R_reads' HO405.out).2.1); rintro e w' ⟨rfl, ⟨nd, rfl⟩⟩) | ((with_reducible refine gate_dst (N := 86) rfl ?_); (try (refine gate_guard (by rfl) ?_; dsimp only)); refine Kd.R_lit (Kd.int .i64) _ 3 ?hg (N := 86) ?hd (xs := ([0] : List Int)) (inner := [.int .i64 0]) (ok := fun _ => True) (okp := fun _ => True) ?hr ?hp (fun _ hk => hk) trivial (Below.refl _ _) (Nat.le_refl _) (by simp) ?_; (case hd => rfl); (case hg => rfl); (case hr => first | (go_simp; done) | (go_simp; rfl)); (case hp => exact (Reps.one (show Kd.M (Kd.int .i64) _ _ _ 0 [.int .i64 0] from rfl) (Reps.none _ _))); intro v410 w28 ho29 hb hg_ hnew_; clear hg_ hnew_; (first | rw [← Ny409.out] at ho29 | (simp only [Int.reduceToNat] at ho29; rw [← Ny409.out] at ho29)); have HO411 := Aside0.mk (Kd.R_lower (Kd.R_new' (Kd.R_new' ho29 (Kd.R_lt (rP HO401))) (Kd.R_lt (rP HO405))) (below_size (bP HB))); replace HO401 := Aside0.mk (Kd.R_elder' (rP HO401) (Kd.R_base ho29) hb); replace HO405 := Aside0.mk (Kd.R_elder' (rP HO405) (Kd.R_base ho29) hb); replace HB := bS HB hb; clear hb ho29; obtain ⟨Ao30, co30, eo30⟩ := Kd.R_slice HO411.out; subst eo30) | (go_at_call 4; (with_reducible refine (impl_PermValid.calls _ _ y409 t412 _ ?side1 ?side2 A25.out).mono ?_); (case side1 => exact cP (Kd.R_reads' HO411.out).2.2); (case side2 => exact (Kd.R_reads' HO411.out).2.1); rintro e w31 ⟨rfl, hb⟩; replace HO401 := rB HO401 hb; replace HO405 := rB HO405 hb; replace HO411 := rB HO411 hb; replace HB := bS HB hb; (try clear hb); (try clear hb2); (try clear hk); (try clear hi)))
      go_meet
      case rel => exact ⟨_, (!t412), eS, H', ⟨by have := HJ2.out; first | omega | exact Nat.le_refl _⟩, ⟨rT (Kd.R_mono HO401.out (fun _ hk => trivial))⟩, ⟨bP HB⟩⟩
     replace c23 := Bool.eq_false_iff.mpr c23
     subst c23
     rw [iF] at H
     by_cases c32 : (t399 != false) = true
     ·rw [if_pos c32] at H
      have c32b0 : (t399 != false) = true := c32
      (try (have c32b1 : decide (t399 = false) = false := by simpa using c32))
      (try (have c32b2 : (t399 == false) = false := by simpa using c32))
      (try (have c32b3 : ¬ (t399 = false) := by simpa using c32))
      clear c32
      exact (laws_FnPermsWhole.j1_no _ _ _ _ _ _ (H.trans (congrArg some hr_.out))).elim
     rw [if_neg c32] at H
     have c32b0 : (t399 != false) = false := by simpa using c32
     (try (have c32b1 : decide (t399 = false) = true := by simpa using c32))
     (try (have c32b2 : (t399 == false) = true := by simpa using c32))
     clear c32
     obtain ⟨y413, hy413⟩ : ∃ y_ : List Int, y_ = (([0] : List Int)) := ⟨_, rfl⟩
     replace H : ((impl_PermValid.f y413).bind fun t416 => (laws_FnPermsWhole.j1 kj2 l0 l1 true t398 t399 (!t416))) = some r := by first | (rw [hy413]; with_reducible exact H) | (have H2_ := (Option.bind_some _ _).symm.trans H; rw [hy413]; with_reducible exact H2_) | (have H2_ := (Option.bind_some _ _).symm.trans H; with_reducible exact H2_) | with_reducible exact H | (rw [hy413]; exact H) | exact H
     have Ny413 := Aside0.mk hy413
     clear hy413
     obtain ⟨t416, A330, H⟩ := Option.bind_eq_some_iff.mp H
     have A33 := Aside0.mk A330
     clear A330
     have H' := Aside0.mk H
     clear H
     go_wp2_with (first | ((with_reducible refine gate_callee (f := 7) rfl ?_); refine gL (some 51) Tryz.func7 #[.slice A0 l0.length c0] ?_; (with_reducible refine (spec_PermValid.calls kj2 _ _ l0 t406 _ ?side1 ?side2 A15.out).mono ?_); (case side1 => exact cB HR0 HB); (case side2 => exact HC0.out); rintro e w' ⟨rfl, ⟨nd, rfl⟩⟩; refine ⟨_, rfl, ?_⟩) | (go_at_call 7; (with_reducible refine (spec_PermValid.calls kj2 _ _ l1 t407 _ ?side1 ?side2 A17.out).mono ?_); (case side1 => exact cP (Kd.C_below HR1.out (bP HB))); (case side2 => exact HC1.out); rintro e w' ⟨rfl, ⟨nd, rfl⟩⟩; obtain ⟨Ao34, co34, eo34⟩ := Kd.R_slice HO401.out; subst eo34; obtain ⟨Ao35, co35, eo35⟩ := Kd.R_slice HO405.out; subst eo35) | (go_at_call 8; (with_reducible refine (laws_sameInts.calls kj2 _ _ t398 _ _ t402 true _ ?side1 ?side2 ?side3 ?side4 A20.out).mono ?_); (case side1 => exact cP (Kd.R_reads' HO401.out).2.2); (case side2 => exact (Kd.R_reads' HO401.out).2.1); (case side3 => exact cP (Kd.R_reads' HO405.out).2.2); (case side4 => exact (Kd.R_reads' HO405.out).2.1); rintro e w' ⟨rfl, ⟨nd, rfl⟩⟩) | ((with_reducible refine gate_dst (N := 86) rfl ?_); (try (refine gate_guard (by rfl) ?_; dsimp only)); refine Kd.R_lit (Kd.int .i64) _ 3 ?hg (N := 86) ?hd (xs := ([0] : List Int)) (inner := [.int .i64 0]) (ok := fun _ => True) (okp := fun _ => True) ?hr ?hp (fun _ hk => hk) trivial (Below.refl _ _) (Nat.le_refl _) (by simp) ?_; (case hd => rfl); (case hg => rfl); (case hr => first | (go_simp; done) | (go_simp; rfl)); (case hp => exact (Reps.one (show Kd.M (Kd.int .i64) _ _ _ 0 [.int .i64 0] from rfl) (Reps.none _ _))); intro v414 w36 ho37 hb hg_ hnew_; clear hg_ hnew_; (first | rw [← Ny413.out] at ho37 | (simp only [Int.reduceToNat] at ho37; rw [← Ny413.out] at ho37)); have HO415 := Aside0.mk (Kd.R_lower (Kd.R_new' (Kd.R_new' ho37 (Kd.R_lt (rP HO401))) (Kd.R_lt (rP HO405))) (below_size (bP HB))); replace HO401 := Aside0.mk (Kd.R_elder' (rP HO401) (Kd.R_base ho37) hb); replace HO405 := Aside0.mk (Kd.R_elder' (rP HO405) (Kd.R_base ho37) hb); replace HB := bS HB hb; clear hb ho37; obtain ⟨Ao38, co38, eo38⟩ := Kd.R_slice HO415.out; subst eo38) | (go_at_call 4; (with_reducible refine (impl_PermValid.calls _ _ y413 t416 _ ?side1 ?side2 A33.out).mono ?_); (case side1 => exact cP (Kd.R_reads' HO415.out).2.2); (case side2 => exact (Kd.R_reads' HO415.out).2.1); rintro e w39 ⟨rfl, hb⟩; replace HO401 := rB HO401 hb; replace HO405 := rB HO405 hb; replace HO415 := rB HO415 hb; replace HB := bS HB hb; (try clear hb); (try clear hb2); (try clear hk); (try clear hi)))
     go_meet
     case rel => exact ⟨_, (!t416), eS, H', ⟨by have := HJ2.out; first | omega | exact Nat.le_refl _⟩, ⟨rT (Kd.R_mono HO401.out (fun _ hk => trivial))⟩, ⟨bP HB⟩⟩
    case rest =>
     clear HC10
     try clear c1
     try clear c2
     try clear p2
     try clear c3
     try clear c4
     try clear c4b0
     try clear c4b1
     try clear c5
     try clear c6
     try clear c7
     try clear c16
     try clear c16b0
     try clear c16b1
     try clear c16b2
     try clear c18
     try clear c18b0
     try clear c18b1
     try clear c18b2
     try clear c19
     try clear c19b0
     try clear c19b1
     try clear c19b2
     try clear c21
     try clear c22
     try clear c23
     try clear c24
     try clear c24b0
     try clear c24b1
     try clear c24b2
     try clear c32
     try clear c32b0
     try clear c32b1
     try clear c32b2
     try clear c40
     try clear c40b0
     try clear c40b1
     try clear c40b2
     try clear p2
     obtain ⟨kq, x89_9, rfl, HA, HJ9, HO_7, HB⟩ := hcut
     cases kq with
     | zero => exact absurd HA.out (by simp [laws_FnPermsWhole.j1])
     | succ kj9 =>
      have H := HA.out
      clear HA
      simp only [laws_FnPermsWhole.j1] at H
      by_cases c48 : x89_9 = true
      ·subst c48
       rw [if_pos rfl] at H
       exact absurd ((Option.some.inj H).trans hr_.out) (by decide)
      ·replace c48 := Bool.eq_false_iff.mpr c48
       subst c48
       rw [iF] at H
       by_cases c49 : t396 = true
       ·subst c49
        rw [if_pos rfl] at H
        obtain ⟨t424, A500, H⟩ := Option.bind_eq_some_iff.mp H
        have A50 := Aside0.mk A500
        clear A500
        obtain ⟨⟨t425, t426⟩, A510, H⟩ := Option.bind_eq_some_iff.mp H
        dsimp only at H
        have A51 := Aside0.mk A510
        clear A510
        obtain ⟨t429, A520, H⟩ := Option.bind_eq_some_iff.mp H
        have A52 := Aside0.mk A520
        clear A520
        obtain ⟨⟨t430, t431⟩, A530, H⟩ := Option.bind_eq_some_iff.mp H
        dsimp only at H
        have A53 := Aside0.mk A530
        clear A530
        have HC54 := Aside0.mk H
        clear H
        go_upto_region 12 with (first | ((with_reducible refine gate_callee (f := 11) rfl ?_); refine gL (some 106) Tryz.func11 #[.slice A0 l0.length c0] ?_; (with_reducible refine (impl_PermText.calls kj9 _ _ l0 t424 _ ?side1 ?side2 A50.out).mono ?_); (case side1 => exact cB HR0 HB); (case side2 => exact HC0.out); rintro e w55 ⟨rfl, hb⟩; refine ⟨_, rfl, ?_⟩; replace HO_7 := rB HO_7 hb; replace HB := bS HB hb; (try clear hb); (try clear hb2); (try clear hk); (try clear hi)) | ((with_reducible refine gate_callee (f := 12) rfl ?_); refine gL (some 107) Tryz.func12 #[.int .i64 (l0.length : Int), .string t424] ?_; (with_reducible refine (impl_PermFrom.calls kj9 (l0.length : Int) t424 t425 t426 _ m0_ ev1_ ev2_ ?pm0 ?pm1 ?pm2 HJ1_.out HJ2_.out A51.out).mono ?_); (case pm0 => exact (Below.cell (bP HB) (World.block_lt_of_cell? w _ HM0_.out)).trans HM0_.out); (case pm1 => exact (Below.cell (bP HB) (World.block_lt_of_cell? w _ HM1_.out)).trans HM1_.out); (case pm2 => exact (Below.cell (bP HB) (World.block_lt_of_cell? w _ HM2_.out)).trans HM2_.out); rintro e w56 ⟨v427, rfl, ho0, hb⟩; refine ⟨_, rfl, ?_⟩; have HO428 := Aside0.mk (Kd.R_lower (Kd.R_new' ho0 (Kd.R_lt (rP HO_7))) (below_size (bP HB))); replace HO_7 := Aside0.mk (Kd.R_elder' (rP HO_7) (Kd.R_base ho0) hb); replace HB := bS HB hb; (try clear hb); (try clear hb2); (try clear hk); (try clear hi); (try clear ho0)) | ((with_reducible refine gate_callee (f := 9) rfl ?_); refine gL (some 113) Tryz.func9 #[.slice A0 l0.length c0] ?_; (with_reducible refine (impl_PermOrder.calls kj9 _ _ l0 t429 _ ?side1 ?side2 A52.out).mono ?_); (case side1 => exact cB HR0 HB); (case side2 => exact HC0.out); rintro e w57 ⟨rfl, hb⟩; refine ⟨_, rfl, ?_⟩; replace HO_7 := rB HO_7 hb; replace HO428 := rB HO428 hb; replace HB := bS HB hb; (try clear hb); (try clear hb2); (try clear hk); (try clear hi)) | ((with_reducible refine gate_callee (f := 13) rfl ?_); refine gL (some 114) Tryz.func13 #[.slice A0 l0.length c0, .int .i64 t429] ?_; (with_reducible refine (impl_PermPower.calls kj9 _ _ l0 t429 t430 t431 _ ?side1 ?side2 A53.out).mono ?_); (case side1 => exact cB HR0 HB); (case side2 => exact HC0.out); rintro e w58 ⟨v432, rfl, ho0, hb⟩; refine ⟨_, rfl, ?_⟩; have HO433 := Aside0.mk (Kd.R_lower (Kd.R_new' (Kd.R_new' ho0 (Kd.R_lt (rP HO_7))) (Kd.R_lt (rP HO428))) (below_size (bP HB))); replace HO_7 := Aside0.mk (Kd.R_elder' (rP HO_7) (Kd.R_base ho0) hb); replace HO428 := Aside0.mk (Kd.R_elder' (rP HO428) (Kd.R_base ho0) hb); replace HB := bS HB hb; (try clear hb); (try clear hb2); (try clear hk); (try clear hi); (try clear ho0)))
        (try simp only [Act.put, List.setIfInBounds_toArray, List.set_cons_zero, List.set_cons_succ])
        go_cut [132] (fun v132 wc => ∃ (kq : Nat) (x132_53 : Bool), v132 = .bool x132_53 ∧ Aside0 (laws_FnPermsWhole.j2 kq l0 l1 t398 t399 x132_53 = some r) ∧ Aside0 (kq ≤ kj9) ∧ Aside0 (Kd.R (Kd.int .i64) 3 wc w.heap.size (fun _ => True) v400 t398) ∧ Aside0 (Below w.heap.size w wc))
        case first =>
         have H := HC54.out
         clear HC54
         by_cases c59 : t426 = true
         case neg =>
          replace c59 := Bool.eq_false_iff.mpr c59
          subst c59
          rw [iF] at H
          exact (laws_FnPermsWhole.j2_no _ _ _ _ _ (H.trans (congrArg some hr_.out))).elim
         subst c59
         rw [if_pos rfl] at H
         obtain ⟨t434, A600, H⟩ := Option.bind_eq_some_iff.mp H
         have A60 := Aside0.mk A600
         clear A600
         by_cases c61 : t434 = true
         case neg =>
          replace c61 := Bool.eq_false_iff.mpr c61
          subst c61
          rw [iF] at H
          exact (laws_FnPermsWhole.j2_no _ _ _ _ _ (H.trans (congrArg some hr_.out))).elim
         subst c61
         rw [if_pos rfl] at H
         by_cases c62 : t431 = true
         case neg =>
          replace c62 := Bool.eq_false_iff.mpr c62
          subst c62
          rw [iF] at H
          have H' := Aside0.mk H
          clear H
          obtain ⟨Ao67, co67, eo67⟩ := Kd.R_slice HO428.out
          subst eo67
          go_wp2_with (first | (go_at_call 8; (with_reducible refine (laws_sameInts.calls kj9 _ _ t425 _ _ l0 true _ ?side1 ?side2 ?side3 ?side4 A60.out).mono ?_); (case side1 => exact cP (Kd.R_reads' HO428.out).2.2); (case side2 => exact (Kd.R_reads' HO428.out).2.1); (case side3 => exact cB HR0 HB); (case side4 => exact HC0.out); rintro e w' ⟨rfl, ⟨nd, rfl⟩⟩))
          go_meet
          case rel => exact ⟨_, (false), eS, H', ⟨by have := HJ2.out; have := HJ9.out; first | omega | exact Nat.le_refl _⟩, ⟨rT (Kd.R_mono HO_7.out (fun _ hk => trivial))⟩, ⟨bP HB⟩⟩
         subst c62
         rw [if_pos rfl] at H
         obtain ⟨t435, A630, H⟩ := Option.bind_eq_some_iff.mp H
         have A63 := Aside0.mk A630
         clear A630
         have H' := Aside0.mk H
         clear H
         obtain ⟨Ao64, co64, eo64⟩ := Kd.R_slice HO428.out
         subst eo64
         go_wp2_with (first | (go_at_call 8; (with_reducible refine (laws_sameInts.calls kj9 _ _ t425 _ _ l0 true _ ?side1 ?side2 ?side3 ?side4 A60.out).mono ?_); (case side1 => exact cP (Kd.R_reads' HO428.out).2.2); (case side2 => exact (Kd.R_reads' HO428.out).2.1); (case side3 => exact cB HR0 HB); (case side4 => exact HC0.out); rintro e w' ⟨rfl, ⟨nd, rfl⟩⟩; obtain ⟨Ao65, co65, eo65⟩ := Kd.R_slice HO433.out; subst eo65) | (go_at_call 11; (with_reducible refine (impl_PermText.calls kj9 _ _ t430 t435 _ ?side1 ?side2 A63.out).mono ?_); (case side1 => exact cP (Kd.R_reads' HO433.out).2.2); (case side2 => exact (Kd.R_reads' HO433.out).2.1); rintro e w66 ⟨rfl, hb⟩; replace HO_7 := rB HO_7 hb; replace HO428 := rB HO428 hb; replace HO433 := rB HO433 hb; replace HB := bS HB hb; (try clear hb); (try clear hb2); (try clear hk); (try clear hi)))
         go_meet
         case rel => exact ⟨_, ((t435.toList != ([40, 41] : List UInt8))), eS, H', ⟨by have := HJ2.out; have := HJ9.out; first | omega | exact Nat.le_refl _⟩, ⟨rT (Kd.R_mono HO_7.out (fun _ hk => trivial))⟩, ⟨bP HB⟩⟩
        clear HC54
        try clear c1
        try clear c2
        try clear p2
        try clear c3
        try clear c4
        try clear c4b0
        try clear c4b1
        try clear c5
        try clear c6
        try clear c7
        try clear c9
        try clear c11
        try clear c12
        try clear c13
        try clear c16
        try clear c16b0
        try clear c16b1
        try clear c16b2
        try clear c18
        try clear c18b0
        try clear c18b1
        try clear c18b2
        try clear c19
        try clear c19b0
        try clear c19b1
        try clear c19b2
        try clear c21
        try clear c22
        try clear c23
        try clear c24
        try clear c24b0
        try clear c24b1
        try clear c24b2
        try clear c32
        try clear c32b0
        try clear c32b1
        try clear c32b2
        try clear c40
        try clear c40b0
        try clear c40b1
        try clear c40b2
        try clear c48
        try clear c49
        try clear c59
        try clear c61
        try clear c62
        try clear p2
        obtain ⟨kq, x132_53, rfl, HA, HJ53, HO_7, HB⟩ := hcut
        cases kq with
        | zero => exact absurd HA.out (by simp [laws_FnPermsWhole.j2])
        | succ kj53 =>
         have H := HA.out
         clear HA
         simp only [laws_FnPermsWhole.j2] at H
         by_cases c68 : x132_53 = true
         ·subst c68
          rw [if_pos rfl] at H
          exact absurd ((Option.some.inj H).trans hr_.out) (by decide)
         replace c68 := Bool.eq_false_iff.mpr c68
         subst c68
         rw [iF] at H
         by_cases c69 : t399 = true
         case neg =>
          replace c69 := Bool.eq_false_iff.mpr c69
          subst c69
          rw [iF] at H
          obtain rfl := Option.some.inj H
          go_wp2
          go_ret
          exact ⟨eR, bP HB⟩
         subst c69
         rw [if_pos rfl] at H
         obtain ⟨⟨t436, t437⟩, A700, H⟩ := Option.bind_eq_some_iff.mp H
         dsimp only at H
         have A70 := Aside0.mk A700
         clear A700
         obtain ⟨⟨t440, t441⟩, A710, H⟩ := Option.bind_eq_some_iff.mp H
         dsimp only at H
         have A71 := Aside0.mk A710
         clear A710
         obtain ⟨⟨t444, t445⟩, A720, H⟩ := Option.bind_eq_some_iff.mp H
         dsimp only at H
         have A72 := Aside0.mk A720
         clear A720
         obtain ⟨⟨t448, t449⟩, A730, H⟩ := Option.bind_eq_some_iff.mp H
         dsimp only at H
         have A73 := Aside0.mk A730
         clear A730
         obtain ⟨⟨t452, t453⟩, A740, H⟩ := Option.bind_eq_some_iff.mp H
         dsimp only at H
         have A74 := Aside0.mk A740
         clear A740
         by_cases c75 : t437 = true
         case neg =>
          replace c75 := Bool.eq_false_iff.mpr c75
          subst c75
          rw [iF] at H
          exact absurd ((Option.some.inj H).trans hr_.out) (by decide)
         subst c75
         rw [if_pos rfl] at H
         by_cases c76 : t441 = true
         case neg =>
          replace c76 := Bool.eq_false_iff.mpr c76
          subst c76
          rw [iF] at H
          exact absurd ((Option.some.inj H).trans hr_.out) (by decide)
         subst c76
         rw [if_pos rfl] at H
         by_cases c77 : t445 = true
         case neg =>
          replace c77 := Bool.eq_false_iff.mpr c77
          subst c77
          rw [iF] at H
          exact absurd ((Option.some.inj H).trans hr_.out) (by decide)
         subst c77
         rw [if_pos rfl] at H
         by_cases c78 : t449 = true
         case neg =>
          replace c78 := Bool.eq_false_iff.mpr c78
          subst c78
          rw [iF] at H
          exact absurd ((Option.some.inj H).trans hr_.out) (by decide)
         subst c78
         rw [if_pos rfl] at H
         by_cases c79 : t453 = true
         case neg =>
          replace c79 := Bool.eq_false_iff.mpr c79
          subst c79
          rw [iF] at H
          exact absurd ((Option.some.inj H).trans hr_.out) (by decide)
         subst c79
         rw [if_pos rfl] at H
         obtain ⟨t456, A800, H⟩ := Option.bind_eq_some_iff.mp H
         have A80 := Aside0.mk A800
         clear A800
         obtain ⟨t457, A810, H⟩ := Option.bind_eq_some_iff.mp H
         have A81 := Aside0.mk A810
         clear A810
         obtain ⟨t458, A820, H⟩ := Option.bind_eq_some_iff.mp H
         have A82 := Aside0.mk A820
         clear A820
         by_cases c83 : t456 = (wrap64 (t457 * t458))
         case neg =>
          rw [if_neg c83] at H
          have c83b0 : (t456 == (wrap64 (t457 * t458))) = false := beq_eq_false_iff_ne.mpr c83
          have c83b1 : (t456 != (wrap64 (t457 * t458))) = true := bne_iff_ne.mpr c83
          exact absurd ((Option.some.inj H).trans hr_.out) (by decide)
         rw [if_pos c83] at H
         have c83b0 : (t456 == (wrap64 (t457 * t458))) = true := beq_iff_eq.mpr c83
         have c83b1 : (t456 != (wrap64 (t457 * t458))) = false := bne_eq_false_iff_eq.mpr c83
         clear c83
         obtain ⟨t459, A840, H⟩ := Option.bind_eq_some_iff.mp H
         have A84 := Aside0.mk A840
         clear A840
         by_cases c85 : t459 = true
         case neg =>
          replace c85 := Bool.eq_false_iff.mpr c85
          subst c85
          rw [iF] at H
          exact absurd ((Option.some.inj H).trans hr_.out) (by decide)
         subst c85
         rw [if_pos rfl] at H
         obtain ⟨t460, A860, H⟩ := Option.bind_eq_some_iff.mp H
         have A86 := Aside0.mk A860
         clear A860
         by_cases c87 : t460 = true
         case neg =>
          replace c87 := Bool.eq_false_iff.mpr c87
          subst c87
          rw [iF] at H
          exact absurd ((Option.some.inj H).trans hr_.out) (by decide)
         subst c87
         rw [if_pos rfl] at H
         obtain ⟨t461, A880, H⟩ := Option.bind_eq_some_iff.mp H
         have A88 := Aside0.mk A880
         clear A880
         obtain ⟨t462, A890, H⟩ := Option.bind_eq_some_iff.mp H
         have A89 := Aside0.mk A890
         clear A890
         obtain rfl := Option.some.inj H
         go_wp2_with (first | ((with_reducible refine gate_callee (f := 14) rfl ?_); refine gL (some 137) Tryz.func14 #[.slice A1 l1.length c1] ?_; (with_reducible refine (impl_PermBack.calls kj53 _ _ l1 t436 true _ ?side1 ?side2 A70.out).mono ?_); (case side1 => exact cB HR1 HB); (case side2 => exact HC1.out); rintro e w90 ⟨v438, rfl, ho0, hb⟩; refine ⟨_, rfl, ?_⟩; have HO439 := Aside0.mk (Kd.R_lower (Kd.R_new' ho0 (Kd.R_lt (rP HO_7))) (below_size (bP HB))); replace HO_7 := Aside0.mk (Kd.R_elder' (rP HO_7) (Kd.R_base ho0) hb); replace HB := bS HB hb; (try clear hb); (try clear hb2); (try clear hk); (try clear hi); (try clear ho0); obtain ⟨Ao91, co91, eo91⟩ := Kd.R_slice HO_7.out; subst eo91; obtain ⟨Ao92, co92, eo92⟩ := Kd.R_slice HO439.out; subst eo92) | ((with_reducible refine gate_callee (f := 5) rfl ?_); refine gL (some 143) Tryz.func5 #[.slice Ao91 t398.length co91, .slice Ao92 t436.length co92] ?_; (with_reducible refine (impl_PermMul.calls kj53 _ _ t398 _ _ t436 t440 true _ ?side1 ?side2 ?side3 ?side4 A71.out).mono ?_); (case side1 => exact cP (Kd.R_reads' HO_7.out).2.2); (case side2 => exact (Kd.R_reads' HO_7.out).2.1); (case side3 => exact cP (Kd.R_reads' HO439.out).2.2); (case side4 => exact (Kd.R_reads' HO439.out).2.1); rintro e w93 ⟨v442, rfl, ho0, hb⟩; refine ⟨_, rfl, ?_⟩; have HO443 := Aside0.mk (Kd.R_lower (Kd.R_new' (Kd.R_new' ho0 (Kd.R_lt (rP HO_7))) (Kd.R_lt (rP HO439))) (below_size (bP HB))); replace HO_7 := Aside0.mk (Kd.R_elder' (rP HO_7) (Kd.R_base ho0) hb); replace HO439 := Aside0.mk (Kd.R_elder' (rP HO439) (Kd.R_base ho0) hb); replace HB := bS HB hb; (try clear hb); (try clear hb2); (try clear hk); (try clear hi); (try clear ho0)) | ((with_reducible refine gate_callee (f := 15) rfl ?_); refine gL (some 149) Tryz.func15 #[.slice A0 l0.length c0, .slice A1 l1.length c1] ?_; (with_reducible refine (impl_PermConj.calls kj53 _ _ l0 _ _ l1 t444 true _ ?side1 ?side2 ?side3 ?side4 A72.out).mono ?_); (case side1 => exact cB HR0 HB); (case side2 => exact HC0.out); (case side3 => exact cB HR1 HB); (case side4 => exact HC1.out); rintro e w94 ⟨v446, rfl, ho0, hb⟩; refine ⟨_, rfl, ?_⟩; have HO447 := Aside0.mk (Kd.R_lower (Kd.R_new' (Kd.R_new' (Kd.R_new' ho0 (Kd.R_lt (rP HO_7))) (Kd.R_lt (rP HO439))) (Kd.R_lt (rP HO443))) (below_size (bP HB))); replace HO_7 := Aside0.mk (Kd.R_elder' (rP HO_7) (Kd.R_base ho0) hb); replace HO439 := Aside0.mk (Kd.R_elder' (rP HO439) (Kd.R_base ho0) hb); replace HO443 := Aside0.mk (Kd.R_elder' (rP HO443) (Kd.R_base ho0) hb); replace HB := bS HB hb; (try clear hb); (try clear hb2); (try clear hk); (try clear hi); (try clear ho0)) | ((with_reducible refine gate_callee (f := 16) rfl ?_); refine gL (some 154) Tryz.func16 #[.slice A0 l0.length c0] ?_; (with_reducible refine (impl_PermType.calls kj53 _ _ l0 t448 true _ ?side1 ?side2 A73.out).mono ?_); (case side1 => exact cB HR0 HB); (case side2 => exact HC0.out); rintro e w95 ⟨v450, rfl, ho0, hb⟩; refine ⟨_, rfl, ?_⟩; have HO451 := Aside0.mk (Kd.R_lower (Kd.R_new' (Kd.R_new' (Kd.R_new' (Kd.R_new' ho0 (Kd.R_lt (rP HO_7))) (Kd.R_lt (rP HO439))) (Kd.R_lt (rP HO443))) (Kd.R_lt (rP HO447))) (below_size (bP HB))); replace HO_7 := Aside0.mk (Kd.R_elder' (rP HO_7) (Kd.R_base ho0) hb); replace HO439 := Aside0.mk (Kd.R_elder' (rP HO439) (Kd.R_base ho0) hb); replace HO443 := Aside0.mk (Kd.R_elder' (rP HO443) (Kd.R_base ho0) hb); replace HO447 := Aside0.mk (Kd.R_elder' (rP HO447) (Kd.R_base ho0) hb); replace HB := bS HB hb; (try clear hb); (try clear hb2); (try clear hk); (try clear hi); (try clear ho0); obtain ⟨Ao96, co96, eo96⟩ := Kd.R_slice HO447.out; subst eo96) | ((with_reducible refine gate_callee (f := 16) rfl ?_); refine gL (some 159) Tryz.func16 #[.slice Ao96 t444.length co96] ?_; (with_reducible refine (impl_PermType.calls kj53 _ _ t444 t452 true _ ?side1 ?side2 A74.out).mono ?_); (case side1 => exact cP (Kd.R_reads' HO447.out).2.2); (case side2 => exact (Kd.R_reads' HO447.out).2.1); rintro e w97 ⟨v454, rfl, ho0, hb⟩; refine ⟨_, rfl, ?_⟩; have HO455 := Aside0.mk (Kd.R_lower (Kd.R_new' (Kd.R_new' (Kd.R_new' (Kd.R_new' (Kd.R_new' ho0 (Kd.R_lt (rP HO_7))) (Kd.R_lt (rP HO439))) (Kd.R_lt (rP HO443))) (Kd.R_lt (rP HO447))) (Kd.R_lt (rP HO451))) (below_size (bP HB))); replace HO_7 := Aside0.mk (Kd.R_elder' (rP HO_7) (Kd.R_base ho0) hb); replace HO439 := Aside0.mk (Kd.R_elder' (rP HO439) (Kd.R_base ho0) hb); replace HO443 := Aside0.mk (Kd.R_elder' (rP HO443) (Kd.R_base ho0) hb); replace HO447 := Aside0.mk (Kd.R_elder' (rP HO447) (Kd.R_base ho0) hb); replace HO451 := Aside0.mk (Kd.R_elder' (rP HO451) (Kd.R_base ho0) hb); replace HB := bS HB hb; (try clear hb); (try clear hb2); (try clear hk); (try clear hi); (try clear ho0)) | (go_at_call 17; (with_reducible refine (impl_PermSign.calls kj53 _ _ t398 t456 _ ?side1 ?side2 A80.out).mono ?_); (case side1 => exact cP (Kd.R_reads' HO_7.out).2.2); (case side2 => exact (Kd.R_reads' HO_7.out).2.1); rintro e w98 ⟨rfl, hb⟩; replace HO_7 := rB HO_7 hb; replace HO439 := rB HO439 hb; replace HO443 := rB HO443 hb; replace HO447 := rB HO447 hb; replace HO451 := rB HO451 hb; replace HO455 := rB HO455 hb; replace HB := bS HB hb; (try clear hb); (try clear hb2); (try clear hk); (try clear hi)) | (go_at_call 17; (with_reducible refine (impl_PermSign.calls kj53 _ _ l0 t457 _ ?side1 ?side2 A81.out).mono ?_); (case side1 => exact cB HR0 HB); (case side2 => exact HC0.out); rintro e w99 ⟨rfl, hb⟩; replace HO_7 := rB HO_7 hb; replace HO439 := rB HO439 hb; replace HO443 := rB HO443 hb; replace HO447 := rB HO447 hb; replace HO451 := rB HO451 hb; replace HO455 := rB HO455 hb; replace HB := bS HB hb; (try clear hb); (try clear hb2); (try clear hk); (try clear hi)) | (go_at_call 17; (with_reducible refine (impl_PermSign.calls kj53 _ _ l1 t458 _ ?side1 ?side2 A82.out).mono ?_); (case side1 => exact cB HR1 HB); (case side2 => exact HC1.out); rintro e w100 ⟨rfl, hb⟩; replace HO_7 := rB HO_7 hb; replace HO439 := rB HO439 hb; replace HO443 := rB HO443 hb; replace HO447 := rB HO447 hb; replace HO451 := rB HO451 hb; replace HO455 := rB HO455 hb; replace HB := bS HB hb; (try clear hb); (try clear hb2); (try clear hk); (try clear hi); obtain ⟨Ao101, co101, eo101⟩ := Kd.R_slice HO443.out; subst eo101) | (go_at_call 8; (with_reducible refine (laws_sameInts.calls kj53 _ _ t440 _ _ l0 true _ ?side1 ?side2 ?side3 ?side4 A84.out).mono ?_); (case side1 => exact cP (Kd.R_reads' HO443.out).2.2); (case side2 => exact (Kd.R_reads' HO443.out).2.1); (case side3 => exact cB HR0 HB); (case side4 => exact HC0.out); rintro e w' ⟨rfl, ⟨nd, rfl⟩⟩; obtain ⟨Ao102, co102, eo102⟩ := Kd.R_slice HO451.out; subst eo102; obtain ⟨Ao103, co103, eo103⟩ := Kd.R_slice HO455.out; subst eo103) | (go_at_call 8; (with_reducible refine (laws_sameInts.calls kj53 _ _ t448 _ _ t452 true _ ?side1 ?side2 ?side3 ?side4 A86.out).mono ?_); (case side1 => exact cP (Kd.R_reads' HO451.out).2.2); (case side2 => exact (Kd.R_reads' HO451.out).2.1); (case side3 => exact cP (Kd.R_reads' HO455.out).2.2); (case side4 => exact (Kd.R_reads' HO455.out).2.1); rintro e w' ⟨rfl, ⟨nd, rfl⟩⟩) | (go_at_call 9; (with_reducible refine (impl_PermOrder.calls kj53 _ _ t444 t461 _ ?side1 ?side2 A88.out).mono ?_); (case side1 => exact cP (Kd.R_reads' HO447.out).2.2); (case side2 => exact (Kd.R_reads' HO447.out).2.1); rintro e w104 ⟨rfl, hb⟩; replace HO_7 := rB HO_7 hb; replace HO439 := rB HO439 hb; replace HO443 := rB HO443 hb; replace HO447 := rB HO447 hb; replace HO451 := rB HO451 hb; replace HO455 := rB HO455 hb; replace HB := bS HB hb; (try clear hb); (try clear hb2); (try clear hk); (try clear hi)) | (go_at_call 9; (with_reducible refine (impl_PermOrder.calls kj53 _ _ l0 t462 _ ?side1 ?side2 A89.out).mono ?_); (case side1 => exact cB HR0 HB); (case side2 => exact HC0.out); rintro e w105 ⟨rfl, hb⟩; replace HO_7 := rB HO_7 hb; replace HO439 := rB HO439 hb; replace HO443 := rB HO443 hb; replace HO447 := rB HO447 hb; replace HO451 := rB HO451 hb; replace HO455 := rB HO455 hb; replace HB := bS HB hb; (try clear hb); (try clear hb2); (try clear hk); (try clear hi)))
         go_ret
         exact ⟨eR, bP HB⟩
       ·replace c49 := Bool.eq_false_iff.mpr c49
        subst c49
        rw [iF] at H
        obtain ⟨t421, A1060, H⟩ := Option.bind_eq_some_iff.mp H
        have A106 := Aside0.mk A1060
        clear A1060
        obtain ⟨t422, A1070, H⟩ := Option.bind_eq_some_iff.mp H
        have A107 := Aside0.mk A1070
        clear A1070
        by_cases c108 : t421 = t422
        ·rw [if_pos c108] at H
         have c108b0 : (t421 == t422) = true := beq_iff_eq.mpr c108
         have c108b1 : (t421 != t422) = false := bne_eq_false_iff_eq.mpr c108
         clear c108
         obtain ⟨t423, A1090, H⟩ := Option.bind_eq_some_iff.mp H
         have A109 := Aside0.mk A1090
         clear A1090
         obtain rfl := Option.some.inj H
         go_wp2_with (first | ((with_reducible refine gate_callee (f := 9) rfl ?_); refine gL (some 93) Tryz.func9 #[.slice A0 l0.length c0] ?_; (with_reducible refine (impl_PermOrder.calls kj9 _ _ l0 t421 _ ?side1 ?side2 A106.out).mono ?_); (case side1 => exact cB HR0 HB); (case side2 => exact HC0.out); rintro e w110 ⟨rfl, hb⟩; refine ⟨_, rfl, ?_⟩; replace HO_7 := rB HO_7 hb; replace HB := bS HB hb; (try clear hb); (try clear hb2); (try clear hk); (try clear hi)) | ((with_reducible refine gate_callee (f := 10) rfl ?_); refine gL (some 95) Tryz.func10 #[.slice A0 l0.length c0] ?_; (with_reducible refine (spec_PermOrder.calls kj9 (fun k_ => k_ < w.heap.size) _ _ l0 t422 _ ?side1 A107.out).mono ?_); (case side1 => exact Kd.V_mk HC0.out (Kd.F_below (Kd.C_F (Kd.heap_int .i64) HR0.out) (bP HB))); rintro e w111 ⟨rfl, hb⟩; refine ⟨_, rfl, ?_⟩; replace HO_7 := rB HO_7 hb; replace HB := bS HB hb; (try clear hb); (try clear hb2); (try clear hk); (try clear hi)) | (go_at_call 11; (with_reducible refine (impl_PermText.calls kj9 _ _ l0 t423 _ ?side1 ?side2 A109.out).mono ?_); (case side1 => exact cB HR0 HB); (case side2 => exact HC0.out); rintro e w112 ⟨rfl, hb⟩; replace HO_7 := rB HO_7 hb; replace HB := bS HB hb; (try clear hb); (try clear hb2); (try clear hk); (try clear hi)))
         go_ret
         exact ⟨eR, bP HB⟩
        ·rw [if_neg c108] at H
         have c108b0 : (t421 == t422) = false := beq_eq_false_iff_ne.mpr c108
         have c108b1 : (t421 != t422) = true := bne_iff_ne.mpr c108
         exact absurd ((Option.some.inj H).trans hr_.out) (by decide)

/-- THE ONE PURE STATEMENT of laws_FnPermsWhole: yours. -/
def laws_FnPermsWhole.Pure : Prop := ∀ (l0 : List Int) (l1 : List Int), l0.length ≤ maxLen → l0.length * 8 ≤ 140737488351232 → (∀ x ∈ l0, (Lit.int .i64 x).wf = true) → l1.length ≤ maxLen → l1.length * 8 ≤ 140737488351232 → (∀ x ∈ l1, (Lit.int .i64 x).wf = true) → ∃ k, laws_FnPermsWhole.f k l0 l1 = some true
theorem laws_FnPermsWhole.walk (P : laws_FnPermsWhole.Pure) (a0 : Option Addr) (len0 cap0 : Nat) (z0 : List Int) (a1 : Option Addr) (len1 cap1 : Nat) (z1 : List Int) (w : World) (m0_ : Int) (ev1_ ev2_ : Value) (hm0_ : w.cell? ⟨0, 0, none⟩ = some (.int .i64 m0_)) (hm1_ : w.cell? ⟨1, 0, none⟩ = some ev1_) (hm2_ : w.cell? ⟨2, 0, none⟩ = some ev2_) (hj1_ : ev1_ = .nilIface ∨ ∃ te pe, ev1_ = .iface te pe) (hj2_ : ev2_ = .nilIface ∨ ∃ te pe, ev2_ = .iface te pe) (w0 : (a0 = none ∧ len0 = 0 ∧ cap0 = 0 ∧ z0 = []) ∨ ∃ x, a0 = some x ∧ len0 ≤ cap0 ∧ cap0 ≤ maxLen ∧ z0.length = cap0 ∧ (∀ i, i < z0.length → w.cell? (x.add i) = some (.int .i64 (z0.getD i 0))) ∧ ∀ n ∈ z0, (Lit.int .i64 n).wf = true) (y0 : len0 * 8 ≤ 140737488351232) (w1 : (a1 = none ∧ len1 = 0 ∧ cap1 = 0 ∧ z1 = []) ∨ ∃ x, a1 = some x ∧ len1 ≤ cap1 ∧ cap1 ≤ maxLen ∧ z1.length = cap1 ∧ (∀ i, i < z1.length → w.cell? (x.add i) = some (.int .i64 (z1.getD i 0))) ∧ ∀ n ∈ z1, (Lit.int .i64 n).wf = true) (y1 : len1 * 8 ≤ 140737488351232) :
 Calls Tryz.prog 3 #[.slice a0 len0 cap0, .slice a1 len1 cap1] w fun e w' => e = .returned (.bool true) ∧ Below w.heap.size w w' := by
 obtain ⟨l0, rfl, hr0, hm0, hw0, hc0⟩ := ReadsInt.ofRowC w0
 obtain ⟨l1, rfl, hr1, hm1, hw1, hc1⟩ := ReadsInt.ofRowC w1
 obtain ⟨k, h⟩ := P l0 l1 hm0 y0 hw0 hm1 y1 hw1
 refine (laws_FnPermsWhole.calls k _ _ l0 _ _ l1 true w m0_ ev1_ ev2_ hm0_ hm1_ hm2_ hj1_ hj2_ (Kd.C_of_reads (d := (0 : Int)) (h1 := fun _ => rfl) hr0) hc0 (Kd.C_of_reads (d := (0 : Int)) (h1 := fun _ => rfl) hr1) hc1 ⟨rfl⟩ h).mono ?_
 rintro e w' ⟨rfl, hd⟩
 exact ⟨rfl, hd⟩

end Go.Proofs.YtieaplnngmgkeaaGreatDoor.F
