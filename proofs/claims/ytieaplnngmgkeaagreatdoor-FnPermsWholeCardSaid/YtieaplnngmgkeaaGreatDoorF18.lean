/- Contracts: what these Go functions return. -/
import Derived.Test.YtieaplnngmgkeaaGreatDoorF0
import Derived.Test.YtieaplnngmgkeaaGreatDoorF1
import Derived.Test.YtieaplnngmgkeaaGreatDoorF2
import Derived.Test.YtieaplnngmgkeaaGreatDoorF16
namespace Go.Proofs.YtieaplnngmgkeaaGreatDoor.F
open Go.RowKit Go.Proofs.YtieaplnngmgkeaaGreatDoorW.PrintWords Go.Proofs.YtieaplnngmgkeaaGreatDoorW.PrintLast Go.Proofs.YtieaplnngmgkeaaGreatDoorW.PrintMore
attribute [local go_sem] max2_int min2_int max_two min_two max_three min_three max_four min_four
set_option linter.unusedVariables false
set_option linter.unusedSimpArgs false

/-! ### impl_PermBack: function 14 -/
def impl_PermBack.f (k : Nat) (l0 : List Int) : Option (List Int × Bool) := (impl_PermValid.f l0).bind fun t237 => (if t237 = true then ((impl_back.f k l0).bind fun t238 => (some (t238, true))) else (some (([] : List Int), false)))
set_option maxHeartbeats 8000000 in
set_option maxRecDepth 100000 in
theorem impl_PermBack.calls (k : Nat) (A0 : Option Addr) (c0 : Nat) (l0 : List Int) (r1 : List Int) (r2 : Bool) (w : World) (hr0 : Kd.C (Kd.int .i64) w A0 l0.length l0) (hc0 : l0.length ≤ c0) (h : impl_PermBack.f k l0 = some (r1, r2)) :
 Calls Tryz.prog 14 #[.slice A0 l0.length c0] w fun e w' => ∃ v0_ : Value, e = .returned (.tuple #[v0_, .bool r2]) ∧ Kd.R (Kd.int .i64) 3 w' w.heap.size (fun _ => True) v0_ r1 ∧ Below w.heap.size w w' := by
 have HR0 := Aside0.mk hr0
 have HC0 := Aside0.mk hc0
 clear hr0 hc0
 have HB := Aside0.mk (Below.refl w.heap.size w)
 have H : ((impl_PermValid.f l0).bind fun t237 => (if t237 = true then ((impl_back.f k l0).bind fun t238 => (some (t238, true))) else (some (([] : List Int), false)))) = some (r1, r2) := h
 clear h
 obtain ⟨t237, A20, H⟩ := Option.bind_eq_some_iff.mp H
 have A2 := Aside0.mk A20
 clear A20
 by_cases c3 : t237 = true
 ·subst c3
  rw [if_pos rfl] at H
  obtain ⟨t238, A40, H⟩ := Option.bind_eq_some_iff.mp H
  have A4 := Aside0.mk A40
  clear A40
  simp only [Option.some.injEq, Prod.mk.injEq] at H
  obtain ⟨rfl, rfl⟩ := H
  go_enter Tryz.func14, Tryz.ntmps14
  go_wp2_with (first | ((with_reducible refine gate_callee (f := 4) rfl ?_); refine gL (some 5) Tryz.func4 #[.slice A0 l0.length c0] ?_; (with_reducible refine (impl_PermValid.calls _ _ l0 true _ ?side1 ?side2 A2.out).mono ?_); (case side1 => repeat (first | exact HR0.out | (with_reducible refine Kd.C_alloc ?_ _) | (with_reducible refine Kd.C_drewN ?_ _) | (with_reducible refine Kd.C_drew ?_))); (case side2 => exact HC0.out); rintro e w5 ⟨rfl, hb⟩; refine ⟨_, rfl, ?_⟩; replace HB := bS HB hb; (try clear hb); (try clear hb2); (try clear hk); (try clear hi)) | ((with_reducible refine gate_callee (f := 35) rfl ?_); refine gL (some 8) Tryz.func35 #[.slice A0 l0.length c0] ?_; (with_reducible refine (impl_back.calls k _ _ l0 t238 _ ?side1 ?side2 A4.out).mono ?_); (case side1 => exact cB HR0 HB); (case side2 => exact HC0.out); rintro e w6 ⟨v239, rfl, ho0, hb⟩; refine ⟨_, rfl, ?_⟩; have HO240 := rL ho0 HB; replace HB := bS HB hb; (try clear hb); (try clear hb2); (try clear hk); (try clear hi); (try clear ho0)))
  go_ret2
  exact ⟨_, eR, rP HO240, bP HB⟩
 ·replace c3 := Bool.eq_false_iff.mpr c3
  subst c3
  rw [iF] at H
  simp only [Option.some.injEq, Prod.mk.injEq] at H
  obtain ⟨rfl, rfl⟩ := H
  go_enter Tryz.func14, Tryz.ntmps14
  go_wp2_with (first | ((with_reducible refine gate_callee (f := 4) rfl ?_); refine gL (some 5) Tryz.func4 #[.slice A0 l0.length c0] ?_; (with_reducible refine (impl_PermValid.calls _ _ l0 false _ ?side1 ?side2 A2.out).mono ?_); (case side1 => repeat (first | exact HR0.out | (with_reducible refine Kd.C_alloc ?_ _) | (with_reducible refine Kd.C_drewN ?_ _) | (with_reducible refine Kd.C_drew ?_))); (case side2 => exact HC0.out); rintro e w7 ⟨rfl, hb⟩; refine ⟨_, rfl, ?_⟩; replace HB := bS HB hb; (try clear hb); (try clear hb2); (try clear hk); (try clear hi)))
  go_ret2
  exact ⟨_, eR, by first | exact Kd.R_nil _ _ _ _ _ | exact Kd.N_nil _ _ _ _ _ | exact Kd.V_nil _ _ _ _ _ | exact Kd.Q_nil _ _ _ _ _ | exact Kd.S_nil _ _ _ _ _, bP HB⟩

/-! ### impl_PermConj: function 15 -/
def impl_PermConj.j0 : Nat → List Int → List Int → Bool → Option (List Int × Bool)
 | 0, _, _, _ => none
 | k + 1, x0, x1, x20 => if x20 = true then (some (([] : List Int), false)) else ((impl_back.f k x1).bind fun t243 => ((impl_mul.f k t243 x0).bind fun t246 => ((impl_mul.f k t246 x1).bind fun t249 => (some (t249, true)))))
def impl_PermConj.f (k : Nat) (l0 : List Int) (l1 : List Int) : Option (List Int × Bool) := (impl_PermValid.f l0).bind fun t241 => (if t241 = true then ((impl_PermValid.f l1).bind fun t242 => (if t242 = true then (impl_PermConj.j0 k l0 l1 ((l0.length : Int) != (l1.length : Int))) else (impl_PermConj.j0 k l0 l1 true))) else (impl_PermConj.j0 k l0 l1 true))
set_option maxHeartbeats 8000000 in
set_option maxRecDepth 100000 in
theorem impl_PermConj.calls (k : Nat) (A0 : Option Addr) (c0 : Nat) (l0 : List Int) (A1 : Option Addr) (c1 : Nat) (l1 : List Int) (r1 : List Int) (r2 : Bool) (w : World) (hr0 : Kd.C (Kd.int .i64) w A0 l0.length l0) (hc0 : l0.length ≤ c0) (hr1 : Kd.C (Kd.int .i64) w A1 l1.length l1) (hc1 : l1.length ≤ c1) (h : impl_PermConj.f k l0 l1 = some (r1, r2)) :
 Calls Tryz.prog 15 #[.slice A0 l0.length c0, .slice A1 l1.length c1] w fun e w' => ∃ v0_ : Value, e = .returned (.tuple #[v0_, .bool r2]) ∧ Kd.R (Kd.int .i64) 3 w' w.heap.size (fun _ => True) v0_ r1 ∧ Below w.heap.size w w' := by
 have HR0 := Aside0.mk hr0
 have HC0 := Aside0.mk hc0
 clear hr0 hc0
 have HR1 := Aside0.mk hr1
 have HC1 := Aside0.mk hc1
 clear hr1 hc1
 have HB := Aside0.mk (Below.refl w.heap.size w)
 have H : ((impl_PermValid.f l0).bind fun t241 => (if t241 = true then ((impl_PermValid.f l1).bind fun t242 => (if t242 = true then (impl_PermConj.j0 k l0 l1 ((l0.length : Int) != (l1.length : Int))) else (impl_PermConj.j0 k l0 l1 true))) else (impl_PermConj.j0 k l0 l1 true))) = some (r1, r2) := h
 clear h
 have HC3 := Aside0.mk H
 clear H
 go_enter Tryz.func15, Tryz.ntmps15
 go_upto_region 1 with (fail)
 go_cut [20] (fun v20 wc => ∃ (kq : Nat) (x20_2 : Bool), v20 = .bool x20_2 ∧ Aside0 (impl_PermConj.j0 kq l0 l1 x20_2 = some (r1, r2)) ∧ Aside0 (kq ≤ k) ∧ Aside0 (Below w.heap.size w wc))
 case first =>
  have H := HC3.out
  clear HC3
  obtain ⟨t241, A40, H⟩ := Option.bind_eq_some_iff.mp H
  have A4 := Aside0.mk A40
  clear A40
  by_cases c5 : t241 = true
  case neg =>
   replace c5 := Bool.eq_false_iff.mpr c5
   subst c5
   rw [iF] at H
   have H' := Aside0.mk H
   clear H
   go_wp2_with (first | ((with_reducible refine gate_callee (f := 4) rfl ?_); refine gL (some 7) Tryz.func4 #[.slice A0 l0.length c0] ?_; (with_reducible refine (impl_PermValid.calls _ _ l0 false _ ?side1 ?side2 A4.out).mono ?_); (case side1 => exact cB HR0 HB); (case side2 => exact HC0.out); rintro e w12 ⟨rfl, hb⟩; refine ⟨_, rfl, ?_⟩; replace HB := bS HB hb; (try clear hb); (try clear hb2); (try clear hk); (try clear hi)))
   go_meet
   case rel => exact ⟨_, (true), eS, H', ⟨by first | omega | exact Nat.le_refl _⟩, ⟨bP HB⟩⟩
  subst c5
  rw [if_pos rfl] at H
  obtain ⟨t242, A60, H⟩ := Option.bind_eq_some_iff.mp H
  have A6 := Aside0.mk A60
  clear A60
  by_cases c7 : t242 = true
  ·subst c7
   rw [if_pos rfl] at H
   have H' := Aside0.mk H
   clear H
   go_wp2_with (first | ((with_reducible refine gate_callee (f := 4) rfl ?_); refine gL (some 7) Tryz.func4 #[.slice A0 l0.length c0] ?_; (with_reducible refine (impl_PermValid.calls _ _ l0 true _ ?side1 ?side2 A4.out).mono ?_); (case side1 => exact cB HR0 HB); (case side2 => exact HC0.out); rintro e w8 ⟨rfl, hb⟩; refine ⟨_, rfl, ?_⟩; replace HB := bS HB hb; (try clear hb); (try clear hb2); (try clear hk); (try clear hi)) | (go_at_call 4; (with_reducible refine (impl_PermValid.calls _ _ l1 true _ ?side1 ?side2 A6.out).mono ?_); (case side1 => exact cB HR1 HB); (case side2 => exact HC1.out); rintro e w9 ⟨rfl, hb⟩; replace HB := bS HB hb; (try clear hb); (try clear hb2); (try clear hk); (try clear hi)))
   go_meet
   case rel => exact ⟨_, (((l0.length : Int) != (l1.length : Int))), eS, H', ⟨by first | omega | exact Nat.le_refl _⟩, ⟨bP HB⟩⟩
  replace c7 := Bool.eq_false_iff.mpr c7
  subst c7
  rw [iF] at H
  have H' := Aside0.mk H
  clear H
  go_wp2_with (first | ((with_reducible refine gate_callee (f := 4) rfl ?_); refine gL (some 7) Tryz.func4 #[.slice A0 l0.length c0] ?_; (with_reducible refine (impl_PermValid.calls _ _ l0 true _ ?side1 ?side2 A4.out).mono ?_); (case side1 => exact cB HR0 HB); (case side2 => exact HC0.out); rintro e w10 ⟨rfl, hb⟩; refine ⟨_, rfl, ?_⟩; replace HB := bS HB hb; (try clear hb); (try clear hb2); (try clear hk); (try clear hi)) | (go_at_call 4; (with_reducible refine (impl_PermValid.calls _ _ l1 false _ ?side1 ?side2 A6.out).mono ?_); (case side1 => exact cB HR1 HB); (case side2 => exact HC1.out); rintro e w11 ⟨rfl, hb⟩; replace HB := bS HB hb; (try clear hb); (try clear hb2); (try clear hk); (try clear hi)))
  go_meet
  case rel => exact ⟨_, (true), eS, H', ⟨by first | omega | exact Nat.le_refl _⟩, ⟨bP HB⟩⟩
 case rest =>
  clear HC3
  try clear c1
  try clear p2
  try clear c4
  try clear c5
  try clear c7
  obtain ⟨kq, x20_2, rfl, HA, HJ2, HB⟩ := hcut
  cases kq with
  | zero => exact absurd HA.out (by simp [impl_PermConj.j0])
  | succ kj2 =>
   have H := HA.out
   clear HA
   simp only [impl_PermConj.j0] at H
   by_cases c13 : x20_2 = true
   ·subst c13
    rw [if_pos rfl] at H
    simp only [Option.some.injEq, Prod.mk.injEq] at H
    obtain ⟨rfl, rfl⟩ := H
    go_wp2
    go_ret2
    exact ⟨_, eR, by first | exact Kd.R_nil _ _ _ _ _ | exact Kd.N_nil _ _ _ _ _ | exact Kd.V_nil _ _ _ _ _ | exact Kd.Q_nil _ _ _ _ _ | exact Kd.S_nil _ _ _ _ _, bP HB⟩
   ·replace c13 := Bool.eq_false_iff.mpr c13
    subst c13
    rw [iF] at H
    obtain ⟨t243, A140, H⟩ := Option.bind_eq_some_iff.mp H
    have A14 := Aside0.mk A140
    clear A140
    obtain ⟨t246, A150, H⟩ := Option.bind_eq_some_iff.mp H
    have A15 := Aside0.mk A150
    clear A150
    obtain ⟨t249, A160, H⟩ := Option.bind_eq_some_iff.mp H
    have A16 := Aside0.mk A160
    clear A160
    simp only [Option.some.injEq, Prod.mk.injEq] at H
    obtain ⟨rfl, rfl⟩ := H
    go_wp2_with (first | ((with_reducible refine gate_callee (f := 35) rfl ?_); refine gL (some 22) Tryz.func35 #[.slice A1 l1.length c1] ?_; (with_reducible refine (impl_back.calls kj2 _ _ l1 t243 _ ?side1 ?side2 A14.out).mono ?_); (case side1 => exact cB HR1 HB); (case side2 => exact HC1.out); rintro e w17 ⟨v244, rfl, ho0, hb⟩; refine ⟨_, rfl, ?_⟩; have HO245 := rL ho0 HB; replace HB := bS HB hb; (try clear hb); (try clear hb2); (try clear hk); (try clear hi); (try clear ho0); obtain ⟨Ao18, co18, eo18⟩ := Kd.R_slice HO245.out; subst eo18) | ((with_reducible refine gate_callee (f := 18) rfl ?_); refine gL (some 24) Tryz.func18 #[.slice Ao18 t243.length co18, .slice A0 l0.length c0] ?_; (with_reducible refine (impl_mul.calls kj2 _ _ t243 _ _ l0 t246 _ ?side1 ?side2 ?side3 ?side4 A15.out).mono ?_); (case side1 => exact cP (Kd.R_reads' HO245.out).2.2); (case side2 => exact (Kd.R_reads' HO245.out).2.1); (case side3 => exact cB HR0 HB); (case side4 => exact HC0.out); rintro e w19 ⟨v247, rfl, ho0, hb⟩; refine ⟨_, rfl, ?_⟩; have HO248 := Aside0.mk (Kd.R_lower (Kd.R_new' ho0 (Kd.R_lt (rP HO245))) (below_size (bP HB))); replace HO245 := Aside0.mk (Kd.R_elder' (rP HO245) (Kd.R_base ho0) hb); replace HB := bS HB hb; (try clear hb); (try clear hb2); (try clear hk); (try clear hi); (try clear ho0); obtain ⟨Ao20, co20, eo20⟩ := Kd.R_slice HO248.out; subst eo20) | ((with_reducible refine gate_callee (f := 18) rfl ?_); refine gL (some 26) Tryz.func18 #[.slice Ao20 t246.length co20, .slice A1 l1.length c1] ?_; (with_reducible refine (impl_mul.calls kj2 _ _ t246 _ _ l1 t249 _ ?side1 ?side2 ?side3 ?side4 A16.out).mono ?_); (case side1 => exact cP (Kd.R_reads' HO248.out).2.2); (case side2 => exact (Kd.R_reads' HO248.out).2.1); (case side3 => exact cB HR1 HB); (case side4 => exact HC1.out); rintro e w21 ⟨v250, rfl, ho0, hb⟩; refine ⟨_, rfl, ?_⟩; have HO251 := Aside0.mk (Kd.R_lower (Kd.R_new' (Kd.R_new' ho0 (Kd.R_lt (rP HO245))) (Kd.R_lt (rP HO248))) (below_size (bP HB))); replace HO245 := Aside0.mk (Kd.R_elder' (rP HO245) (Kd.R_base ho0) hb); replace HO248 := Aside0.mk (Kd.R_elder' (rP HO248) (Kd.R_base ho0) hb); replace HB := bS HB hb; (try clear hb); (try clear hb2); (try clear hk); (try clear hi); (try clear ho0)))
    go_ret2
    exact ⟨_, eR, rT (Kd.R_mono HO251.out (fun _ hk => trivial)), bP HB⟩

/-! ### cmp_isNaN_int: function 99 -/
def cmp_isNaN_int.f (a0 : Int) : Option (Bool) := some (a0 != a0)
set_option maxHeartbeats 8000000 in
set_option maxRecDepth 100000 in
theorem cmp_isNaN_int.calls (a0 : Int) (r : Bool) (w : World) (h : cmp_isNaN_int.f a0 = some r) :
 Calls Tryz.prog 99 #[.int .i64 a0] w fun e w' => e = .returned (.bool r) ∧ Drawn0 w w' := by
 have H : (some (a0 != a0)) = some r := h
 clear h
 obtain rfl := Option.some.inj H
 go_enter Tryz.func99, Tryz.ntmps99
 go_wp2
 go_ret
 exact ⟨by first | rfl | (simp; done) | (simp [*]; done), dP⟩

/-! ### cmp_Less_int: function 80 -/
def cmp_Less_int.f (a0 : Int) (a1 : Int) : Option (Bool) := (cmp_isNaN_int.f a0).bind fun t252 => (if t252 = true then ((cmp_isNaN_int.f a1).bind fun t253 => (if t253 = true then (some (decide (a0 < a1))) else (some true))) else (some (decide (a0 < a1))))
set_option maxHeartbeats 8000000 in
set_option maxRecDepth 100000 in
theorem cmp_Less_int.calls (a0 : Int) (a1 : Int) (r : Bool) (w : World) (h : cmp_Less_int.f a0 a1 = some r) :
 Calls Tryz.prog 80 #[.int .i64 a0, .int .i64 a1] w fun e w' => e = .returned (.bool r) ∧ Drawn0 w w' := by
 have H : ((cmp_isNaN_int.f a0).bind fun t252 => (if t252 = true then ((cmp_isNaN_int.f a1).bind fun t253 => (if t253 = true then (some (decide (a0 < a1))) else (some true))) else (some (decide (a0 < a1))))) = some r := h
 clear h
 obtain ⟨t252, A30, H⟩ := Option.bind_eq_some_iff.mp H
 have A3 := Aside0.mk A30
 clear A30
 by_cases c4 : t252 = true
 ·subst c4
  rw [if_pos rfl] at H
  obtain ⟨t253, A50, H⟩ := Option.bind_eq_some_iff.mp H
  have A5 := Aside0.mk A50
  clear A50
  by_cases c6 : t253 = true
  ·subst c6
   rw [if_pos rfl] at H
   obtain rfl := Option.some.inj H
   go_enter Tryz.func80, Tryz.ntmps80
   go_wp2_with (first | ((with_reducible refine gate_callee (f := 99) rfl ?_); refine gL (some 6) Tryz.func99 #[.int .i64 a0] ?_; (with_reducible refine (cmp_isNaN_int.calls a0 true _ A3.out).mono ?_); rintro e w' ⟨rfl, ⟨nd, rfl⟩⟩; refine ⟨_, rfl, ?_⟩) | (go_at_call 99; (with_reducible refine (cmp_isNaN_int.calls a1 true _ A5.out).mono ?_); rintro e w' ⟨rfl, ⟨nd, rfl⟩⟩))
   go_ret
   exact ⟨by first | rfl | (simp; done) | (simp [*]; done), dP⟩
  replace c6 := Bool.eq_false_iff.mpr c6
  subst c6
  rw [iF] at H
  obtain rfl := Option.some.inj H
  go_enter Tryz.func80, Tryz.ntmps80
  go_wp2_with (first | ((with_reducible refine gate_callee (f := 99) rfl ?_); refine gL (some 6) Tryz.func99 #[.int .i64 a0] ?_; (with_reducible refine (cmp_isNaN_int.calls a0 true _ A3.out).mono ?_); rintro e w' ⟨rfl, ⟨nd, rfl⟩⟩; refine ⟨_, rfl, ?_⟩) | (go_at_call 99; (with_reducible refine (cmp_isNaN_int.calls a1 false _ A5.out).mono ?_); rintro e w' ⟨rfl, ⟨nd, rfl⟩⟩))
  go_ret
  exact ⟨by first | rfl | (simp; done) | (simp [*]; done), dP⟩
 ·replace c4 := Bool.eq_false_iff.mpr c4
  subst c4
  rw [iF] at H
  obtain rfl := Option.some.inj H
  go_enter Tryz.func80, Tryz.ntmps80
  go_wp2_with (first | ((with_reducible refine gate_callee (f := 99) rfl ?_); refine gL (some 6) Tryz.func99 #[.int .i64 a0] ?_; (with_reducible refine (cmp_isNaN_int.calls a0 false _ A3.out).mono ?_); rintro e w' ⟨rfl, ⟨nd, rfl⟩⟩; refine ⟨_, rfl, ?_⟩))
  go_ret
  exact ⟨by first | rfl | (simp; done) | (simp [*]; done), dP⟩

end Go.Proofs.YtieaplnngmgkeaaGreatDoor.F
