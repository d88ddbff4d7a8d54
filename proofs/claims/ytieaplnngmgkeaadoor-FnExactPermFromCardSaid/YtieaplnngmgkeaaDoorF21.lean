/- Contracts: what these Go functions return. -/
import Derived.Test.YtieaplnngmgkeaaDoorF0
import Derived.Test.YtieaplnngmgkeaaDoorF1
import Derived.Test.YtieaplnngmgkeaaDoorF14
import Derived.Test.YtieaplnngmgkeaaDoorF20
namespace Go.Proofs.YtieaplnngmgkeaaDoor.F
open Go.RowKit Go.Proofs.YtieaplnngmgkeaaDoorW.PrintWords Go.Proofs.YtieaplnngmgkeaaDoorW.PrintLast Go.Proofs.YtieaplnngmgkeaaDoorW.PrintMore
attribute [local go_sem] max2_int min2_int max_two min_two max_three min_three max_four min_four
set_option linter.unusedVariables false
set_option linter.unusedSimpArgs false

/-! ### laws_FnExactPermFrom: function 3 -/
mutual
def laws_FnExactPermFrom.j0 : Nat → Int → ByteArray → List Int → Bool → List Int → Bool → Option (Bool)
 | 0, _, _, _, _, _, _ => none
 | k + 1, x0, x1, x5, x6, x7, x36 => if x36 = true then (some false) else ((laws_markIntS.f k x7 1).bind fun bt290 => ((laws_heldIntS.f k bt290.2 1).bind fun t292 => (if t292 < 0 then (some false) else (if t292 = bt290.1 then ((impl_PermFrom.f k x0 x1).bind fun bt293 => ((laws_eqIntS.f k bt293.1 x5).bind fun t297 => (if t297 = true then (laws_FnExactPermFrom.j1 k bt290.2 bt290.1 (bt293.2 != x6)) else (laws_FnExactPermFrom.j1 k bt290.2 bt290.1 true)))) else (some false)))))
def laws_FnExactPermFrom.j1 : Nat → List Int → Int → Bool → Option (Bool)
 | 0, _, _, _ => none
 | k + 1, x7, x9, x62 => if x62 = true then (some false) else ((laws_heldIntS.f k x7 1).bind fun t298 => (if t298 < 0 then (some false) else (if t298 = x9 then (some true) else (some false))))
end
def laws_FnExactPermFrom.f (k : Nat) (a0 : Int) (a1 : ByteArray) : Option (Bool) := if (a1.size : Int) > 1048576 then (some true) else ((spec_PermFrom.f k a0 a1).bind fun bt281 => ((impl_PermFrom.f k a0 a1).bind fun bt285 => ((laws_eqIntS.f k bt285.1 bt281.1).bind fun t289 => (if t289 = true then (laws_FnExactPermFrom.j0 k a0 a1 bt281.1 bt281.2 bt285.1 (bt285.2 != bt281.2)) else (laws_FnExactPermFrom.j0 k a0 a1 bt281.1 bt281.2 bt285.1 true)))))
set_option maxHeartbeats 8000000 in
set_option maxRecDepth 100000 in
theorem laws_FnExactPermFrom.calls (k : Nat) (a0 : Int) (a1 : ByteArray) (r : Bool) (w : World) (m0_ : Int) (ev1_ ev2_ : Value) (hm0_ : w.cell? ⟨0, 0, none⟩ = some (.int .i64 m0_)) (hm1_ : w.cell? ⟨1, 0, none⟩ = some ev1_) (hm2_ : w.cell? ⟨2, 0, none⟩ = some ev2_) (hj1_ : ev1_ = .nilIface ∨ ∃ te pe, ev1_ = .iface te pe) (hj2_ : ev2_ = .nilIface ∨ ∃ te pe, ev2_ = .iface te pe) (hr_ : Aside0 (r = true)) (h : laws_FnExactPermFrom.f k a0 a1 = some r) :
 Calls Tryd.prog 3 #[.int .i64 a0, .string a1] w fun e w' => e = .returned (.bool r) ∧ Below w.heap.size w w' := by
 have HB := Aside0.mk (Below.refl w.heap.size w)
 have HM0_ := Aside0.mk hm0_
 have HM1_ := Aside0.mk hm1_
 have HM2_ := Aside0.mk hm2_
 have HJ1_ := Aside0.mk hj1_
 have HJ2_ := Aside0.mk hj2_
 clear hm0_ hm1_ hm2_ hj1_ hj2_
 have H : (if (a1.size : Int) > 1048576 then (some true) else ((spec_PermFrom.f k a0 a1).bind fun bt281 => ((impl_PermFrom.f k a0 a1).bind fun bt285 => ((laws_eqIntS.f k bt285.1 bt281.1).bind fun t289 => (if t289 = true then (laws_FnExactPermFrom.j0 k a0 a1 bt281.1 bt281.2 bt285.1 (bt285.2 != bt281.2)) else (laws_FnExactPermFrom.j0 k a0 a1 bt281.1 bt281.2 bt285.1 true)))))) = some r := h
 clear h
 by_cases c3 : (a1.size : Int) > 1048576
 ·rw [if_pos c3] at H
  have c3b0 : decide (1048576 < (a1.size : Int)) = true := decide_eq_true c3
  have c3b1 : decide (1048576 < a1.size) = true := decide_eq_true (by omega)
  clear c3
  obtain rfl := Option.some.inj H
  go_enter Tryd.func3, Tryd.ntmps3
  go_wp2
  go_ret
  exact ⟨eR, bP HB⟩
 ·rw [if_neg c3] at H
  have c3b0 : decide (1048576 < (a1.size : Int)) = false := decide_eq_false c3
  have c3b1 : decide (1048576 < a1.size) = false := decide_eq_false (by omega)
  clear c3
  replace H := Option.bind_eq_some_iff.mp H
  obtain ⟨⟨t281, t282⟩, A40, H⟩ := H
  replace H : ((impl_PermFrom.f k a0 a1).bind fun bt285 => ((laws_eqIntS.f k bt285.1 t281).bind fun t289 => (if t289 = true then (laws_FnExactPermFrom.j0 k a0 a1 t281 t282 bt285.1 (bt285.2 != t282)) else (laws_FnExactPermFrom.j0 k a0 a1 t281 t282 bt285.1 true)))) = some r := H
  have A4 := Aside0.mk A40
  clear A40
  replace H := Option.bind_eq_some_iff.mp H
  obtain ⟨⟨t285, t286⟩, A50, H⟩ := H
  replace H : ((laws_eqIntS.f k t285 t281).bind fun t289 => (if t289 = true then (laws_FnExactPermFrom.j0 k a0 a1 t281 t282 t285 (t286 != t282)) else (laws_FnExactPermFrom.j0 k a0 a1 t281 t282 t285 true))) = some r := H
  have A5 := Aside0.mk A50
  clear A50
  have HC6 := Aside0.mk H
  clear H
  go_enter Tryd.func3, Tryd.ntmps3
  go_upto_region 5 with (first | ((with_reducible refine gate_callee (f := 7) rfl ?_); refine gL (some 19) Tryd.func7 #[.int .i64 a0, .string a1] ?_; (with_reducible refine (spec_PermFrom.calls k a0 a1 t281 t282 _ A4.out).mono ?_); rintro e w7 ⟨v283, rfl, ho0, hb⟩; refine ⟨_, rfl, ?_⟩; have HO284 := rL ho0 HB; replace HB := bS HB hb; (try clear hb); (try clear hb2); (try clear hk); (try clear hi); (try clear ho0)) | ((with_reducible refine gate_callee (f := 8) rfl ?_); refine gL (some 25) Tryd.func8 #[.int .i64 a0, .string a1] ?_; (with_reducible refine (impl_PermFrom.calls k a0 a1 t285 t286 _ m0_ ev1_ ev2_ ?pm0 ?pm1 ?pm2 HJ1_.out HJ2_.out A5.out).mono ?_); (case pm0 => exact (Below.cell (bP HB) (World.block_lt_of_cell? w _ HM0_.out)).trans HM0_.out); (case pm1 => exact (Below.cell (bP HB) (World.block_lt_of_cell? w _ HM1_.out)).trans HM1_.out); (case pm2 => exact (Below.cell (bP HB) (World.block_lt_of_cell? w _ HM2_.out)).trans HM2_.out); rintro e w8 ⟨v287, rfl, ho0, hb⟩; refine ⟨_, rfl, ?_⟩; have HO288 := Aside0.mk (Kd.R_lower (Kd.R_new' ho0 (Kd.R_lt (rP HO284))) (below_size (bP HB))); replace HO284 := Aside0.mk (Kd.R_elder' (rP HO284) (Kd.R_base ho0) hb); replace HB := bS HB hb; (try clear hb); (try clear hb2); (try clear hk); (try clear hi); (try clear ho0)))
  (try simp only [Act.put, List.setIfInBounds_toArray, List.set_cons_zero, List.set_cons_succ])
  go_cut [36] (fun v36 wc => ∃ (kq : Nat) (x36_5 : Bool), v36 = .bool x36_5 ∧ Aside0 (laws_FnExactPermFrom.j0 kq a0 a1 t281 t282 t285 x36_5 = some r) ∧ Aside0 (kq ≤ k) ∧ Aside0 (Kd.R (Kd.int .i64) 3 wc w.heap.size (fun k_ => some k_ ≠ (v287 : Value).ownBlock) v283 t281) ∧ Aside0 (Kd.R (Kd.int .i64) 3 wc w.heap.size (fun k_ => some k_ ≠ (v283 : Value).ownBlock) v287 t285) ∧ Aside0 (Below w.heap.size w wc))
  case first =>
   have H := HC6.out
   clear HC6
   replace H := Option.bind_eq_some_iff.mp H
   obtain ⟨t289, A90, H⟩ := H
   replace H : (if t289 = true then (laws_FnExactPermFrom.j0 k a0 a1 t281 t282 t285 (t286 != t282)) else (laws_FnExactPermFrom.j0 k a0 a1 t281 t282 t285 true)) = some r := H
   have A9 := Aside0.mk A90
   clear A90
   by_cases c10 : t289 = true
   ·subst c10
    have H1 : (laws_FnExactPermFrom.j0 k a0 a1 t281 t282 t285 (t286 != t282)) = some r := by rw [if_pos rfl] at H; exact H
    clear H
    have H := H1
    clear H1
    have H' := Aside0.mk H
    clear H
    obtain ⟨Ao11, co11, eo11⟩ := Kd.R_slice HO288.out
    subst eo11
    obtain ⟨Ao12, co12, eo12⟩ := Kd.R_slice HO284.out
    subst eo12
    go_wp2_with (first | ((with_reducible refine gate_callee (f := 9) rfl ?_); refine gL (some 30) Tryd.func9 #[.slice Ao11 t285.length co11, .slice Ao12 t281.length co12] ?_; (with_reducible refine (laws_eqIntS.calls k _ _ t285 _ _ t281 true _ ?side1 ?side2 ?side3 ?side4 A9.out).mono ?_); (case side1 => exact cP (Kd.R_reads' HO288.out).2.2); (case side2 => exact (Kd.R_reads' HO288.out).2.1); (case side3 => exact cP (Kd.R_reads' HO284.out).2.2); (case side4 => exact (Kd.R_reads' HO284.out).2.1); rintro e w' ⟨rfl, ⟨nd, rfl⟩⟩; refine ⟨_, rfl, ?_⟩))
    go_meet
    case rel => exact ⟨_, ((t286 != t282)), eS, H', ⟨by first | omega | exact Nat.le_refl _⟩, ⟨by (with_reducible repeat (first | apply Kd.R_alloc | apply Kd.R_drewN | apply Kd.R_drew)); exact Kd.R_mono HO284.out (fun _ hk => hk.2)⟩, ⟨by (with_reducible repeat (first | apply Kd.R_alloc | apply Kd.R_drewN | apply Kd.R_drew)); exact Kd.R_mono HO288.out (fun _ hk => hk.2)⟩, ⟨bP HB⟩⟩
   ·replace c10 := Bool.eq_false_iff.mpr c10
    subst c10
    have H1 : (laws_FnExactPermFrom.j0 k a0 a1 t281 t282 t285 true) = some r := by rw [if_neg (show ¬ (false = true) by decide)] at H; exact H
    clear H
    have H := H1
    clear H1
    have H' := Aside0.mk H
    clear H
    obtain ⟨Ao13, co13, eo13⟩ := Kd.R_slice HO288.out
    subst eo13
    obtain ⟨Ao14, co14, eo14⟩ := Kd.R_slice HO284.out
    subst eo14
    go_wp2_with (first | ((with_reducible refine gate_callee (f := 9) rfl ?_); refine gL (some 30) Tryd.func9 #[.slice Ao13 t285.length co13, .slice Ao14 t281.length co14] ?_; (with_reducible refine (laws_eqIntS.calls k _ _ t285 _ _ t281 false _ ?side1 ?side2 ?side3 ?side4 A9.out).mono ?_); (case side1 => exact cP (Kd.R_reads' HO288.out).2.2); (case side2 => exact (Kd.R_reads' HO288.out).2.1); (case side3 => exact cP (Kd.R_reads' HO284.out).2.2); (case side4 => exact (Kd.R_reads' HO284.out).2.1); rintro e w' ⟨rfl, ⟨nd, rfl⟩⟩; refine ⟨_, rfl, ?_⟩))
    go_meet
    case rel => exact ⟨_, (true), eS, H', ⟨by first | omega | exact Nat.le_refl _⟩, ⟨by (with_reducible repeat (first | apply Kd.R_alloc | apply Kd.R_drewN | apply Kd.R_drew)); exact Kd.R_mono HO284.out (fun _ hk => hk.2)⟩, ⟨by (with_reducible repeat (first | apply Kd.R_alloc | apply Kd.R_drewN | apply Kd.R_drew)); exact Kd.R_mono HO288.out (fun _ hk => hk.2)⟩, ⟨bP HB⟩⟩
  case rest =>
   clear HC6
   try clear c1
   try clear p2
   try clear c3
   try clear c3b0
   try clear c3b1
   try clear c7
   try clear c8
   try clear c9
   try clear c10
   obtain ⟨kq, x36_5, rfl, HA, HJ5, HO_5, HO_7, HB⟩ := hcut
   cases kq with
   | zero => exact absurd HA.out (by simp [laws_FnExactPermFrom.j0])
   | succ kj5 =>
    have H := HA.out
    clear HA
    simp only [laws_FnExactPermFrom.j0] at H
    by_cases c15 : x36_5 = true
    ·subst c15
     have H1 : (some false) = some r := by rw [if_pos rfl] at H; exact H
     clear H
     have H := H1
     clear H1
     exact absurd ((Option.some.inj H).trans hr_.out) (by decide)
    ·replace c15 := Bool.eq_false_iff.mpr c15
     subst c15
     have H1 : ((laws_markIntS.f kj5 t285 1).bind fun bt290 => ((laws_heldIntS.f kj5 bt290.2 1).bind fun t292 => (if t292 < 0 then (some false) else (if t292 = bt290.1 then ((impl_PermFrom.f kj5 a0 a1).bind fun bt293 => ((laws_eqIntS.f kj5 bt293.1 t281).bind fun t297 => (if t297 = true then (laws_FnExactPermFrom.j1 kj5 bt290.2 bt290.1 (bt293.2 != t282)) else (laws_FnExactPermFrom.j1 kj5 bt290.2 bt290.1 true)))) else (some false))))) = some r := by rw [if_neg (show ¬ (false = true) by decide)] at H; exact H
     clear H
     have H := H1
     clear H1
     replace H := Option.bind_eq_some_iff.mp H
     obtain ⟨⟨t290, t291⟩, A160, H⟩ := H
     replace H : ((laws_heldIntS.f kj5 t291 1).bind fun t292 => (if t292 < 0 then (some false) else (if t292 = t290 then ((impl_PermFrom.f kj5 a0 a1).bind fun bt293 => ((laws_eqIntS.f kj5 bt293.1 t281).bind fun t297 => (if t297 = true then (laws_FnExactPermFrom.j1 kj5 t291 t290 (bt293.2 != t282)) else (laws_FnExactPermFrom.j1 kj5 t291 t290 true)))) else (some false)))) = some r := H
     have A16 := Aside0.mk A160
     clear A160
     replace H := Option.bind_eq_some_iff.mp H
     obtain ⟨t292, A170, H⟩ := H
     replace H : (if t292 < 0 then (some false) else (if t292 = t290 then ((impl_PermFrom.f kj5 a0 a1).bind fun bt293 => ((laws_eqIntS.f kj5 bt293.1 t281).bind fun t297 => (if t297 = true then (laws_FnExactPermFrom.j1 kj5 t291 t290 (bt293.2 != t282)) else (laws_FnExactPermFrom.j1 kj5 t291 t290 true)))) else (some false))) = some r := H
     have A17 := Aside0.mk A170
     clear A170
     by_cases c18 : t292 < 0
     ·rw [if_pos c18] at H
      have c18b0 : decide (t292 < 0) = true := decide_eq_true c18
      clear c18
      exact absurd ((Option.some.inj H).trans hr_.out) (by decide)
     ·rw [if_neg c18] at H
      have c18b0 : decide (t292 < 0) = false := decide_eq_false c18
      clear c18
      by_cases c19 : t292 = t290
      ·rw [if_pos c19] at H
       have c19b0 : (t292 == t290) = true := beq_iff_eq.mpr c19
       have c19b1 : (t292 != t290) = false := bne_eq_false_iff_eq.mpr c19
       clear c19
       replace H := Option.bind_eq_some_iff.mp H
       obtain ⟨⟨t293, t294⟩, A200, H⟩ := H
       replace H : ((laws_eqIntS.f kj5 t293 t281).bind fun t297 => (if t297 = true then (laws_FnExactPermFrom.j1 kj5 t291 t290 (t294 != t282)) else (laws_FnExactPermFrom.j1 kj5 t291 t290 true))) = some r := H
       have A20 := Aside0.mk A200
       clear A200
       have HC21 := Aside0.mk H
       clear H
       obtain ⟨Ao22, co22, eo22⟩ := Kd.R_slice HO_7.out
       subst eo22
       go_upto_region 16 with (first | ((with_reducible refine gate_callee (f := 10) rfl ?_); refine gL (some 39) Tryd.func10 #[.slice Ao22 t285.length co22, .int .i64 1] ?_; (with_reducible refine (laws_markIntS.calls kj5 (fun k_ => some k_ = (.slice Ao22 t285.length co22 : Value).ownBlock) (.slice Ao22 t285.length co22) t285 1 t290 t291 w _ ?side1 ?side2 A16.out).mono ?_); (case side1 => exact bP HB); (case side2 => exact Kd.R_tight rfl HO_7.out); rintro e w23 ⟨rfl, hy0, hb, hkp⟩; refine ⟨_, rfl, ?_⟩; replace HO_5 := Aside0.mk (Kd.R_mono (ok' := fun k_ => oN k_ Ao22 t285 co22) (Kd.R_keptB (HO_5.out) hkp (fun k_ hk_ hs_ => (hk_) hs_)) (fun k_ hk_ => hk_.1)); replace HO_7 := Aside0.mk (Kd.R_reok rfl hy0 (fun k_ e_ => HO_7.out.1 k_ e_)); replace HB := Aside0.mk (hb); (try clear hb); (try clear hkp); (try clear hy0)) | ((with_reducible refine gate_callee (f := 11) rfl ?_); refine goesL_ (some 42) rfl rfl Tryd.func11 (by kernel_rfl) rfl #[.slice Ao22 t291.length co22, .int .i64 1] rfl (by (try simp only [List.map_toArray, List.map_cons, List.map_nil]); first | done | (rw [show t291.length = t285.length from (Kd.R_reads' HO_7.out).1.symm] <;> rfl) | rfl | (simp only [List.length_drop, List.length_take]; rfl)) ?_; (with_reducible refine (laws_heldIntS.calls kj5 _ _ t291 1 t292 _ ?side1 ?side2 A17.out).mono ?_); (case side1 => exact cP (Kd.R_reads' HO_7.out).2.2); (case side2 => rw [show t291.length = t285.length from (Kd.R_reads' HO_7.out).1.symm]; exact (Kd.R_reads' HO_7.out).2.1); rintro e w' ⟨rfl, ⟨nd, rfl⟩⟩; refine ⟨_, rfl, ?_⟩) | ((with_reducible refine gate_callee (f := 8) rfl ?_); refine gL (some 51) Tryd.func8 #[.int .i64 a0, .string a1] ?_; (with_reducible refine (impl_PermFrom.calls kj5 a0 a1 t293 t294 _ m0_ ev1_ ev2_ ?pm0 ?pm1 ?pm2 HJ1_.out HJ2_.out A20.out).mono ?_); (case pm0 => exact (Below.cell (bP HB) (World.block_lt_of_cell? w _ HM0_.out)).trans HM0_.out); (case pm1 => exact (Below.cell (bP HB) (World.block_lt_of_cell? w _ HM1_.out)).trans HM1_.out); (case pm2 => exact (Below.cell (bP HB) (World.block_lt_of_cell? w _ HM2_.out)).trans HM2_.out); rintro e w24 ⟨v295, rfl, ho0, hb⟩; refine ⟨_, rfl, ?_⟩; have HO296 := Aside0.mk (Kd.R_lower (Kd.R_new' (Kd.R_new' ho0 (Kd.R_lt (rP HO_5))) (Kd.R_lt (rP HO_7))) (below_size (bP HB))); replace HO_5 := Aside0.mk (Kd.R_elder' (rP HO_5) (Kd.R_base ho0) hb); replace HO_7 := Aside0.mk (Kd.R_elder' (rP HO_7) (Kd.R_base ho0) hb); replace HB := bS HB hb; (try clear hb); (try clear hb2); (try clear hk); (try clear hi); (try clear ho0)))
       (try simp only [Act.put, List.setIfInBounds_toArray, List.set_cons_zero, List.set_cons_succ])
       go_cut [62] (fun v62 wc => ∃ (kq : Nat) (x62_20 : Bool), v62 = .bool x62_20 ∧ Aside0 (laws_FnExactPermFrom.j1 kq t291 t290 x62_20 = some r) ∧ Aside0 (kq ≤ kj5) ∧ Aside0 (Kd.R (Kd.int .i64) 3 wc w.heap.size (fun _ => True) (.slice Ao22 t285.length co22) t291) ∧ Aside0 (Below w.heap.size w wc))
       case first =>
        have H := HC21.out
        clear HC21
        replace H := Option.bind_eq_some_iff.mp H
        obtain ⟨t297, A250, H⟩ := H
        replace H : (if t297 = true then (laws_FnExactPermFrom.j1 kj5 t291 t290 (t294 != t282)) else (laws_FnExactPermFrom.j1 kj5 t291 t290 true)) = some r := H
        have A25 := Aside0.mk A250
        clear A250
        by_cases c26 : t297 = true
        ·subst c26
         have H1 : (laws_FnExactPermFrom.j1 kj5 t291 t290 (t294 != t282)) = some r := by rw [if_pos rfl] at H; exact H
         clear H
         have H := H1
         clear H1
         have H' := Aside0.mk H
         clear H
         obtain ⟨Ao27, co27, eo27⟩ := Kd.R_slice HO296.out
         subst eo27
         obtain ⟨Ao28, co28, eo28⟩ := Kd.R_slice HO_5.out
         subst eo28
         go_wp2_with (first | ((with_reducible refine gate_callee (f := 9) rfl ?_); refine gL (some 56) Tryd.func9 #[.slice Ao27 t293.length co27, .slice Ao28 t281.length co28] ?_; (with_reducible refine (laws_eqIntS.calls kj5 _ _ t293 _ _ t281 true _ ?side1 ?side2 ?side3 ?side4 A25.out).mono ?_); (case side1 => exact cP (Kd.R_reads' HO296.out).2.2); (case side2 => exact (Kd.R_reads' HO296.out).2.1); (case side3 => exact cP (Kd.R_reads' HO_5.out).2.2); (case side4 => exact (Kd.R_reads' HO_5.out).2.1); rintro e w' ⟨rfl, ⟨nd, rfl⟩⟩; refine ⟨_, rfl, ?_⟩))
         go_meet
         case rel => exact ⟨_, ((t294 != t282)), eS, H', ⟨by have := HJ5.out; first | omega | exact Nat.le_refl _⟩, ⟨by (with_reducible repeat (first | apply Kd.R_alloc | apply Kd.R_drewN | apply Kd.R_drew)); exact Kd.R_mono HO_7.out (fun _ hk => trivial)⟩, ⟨bP HB⟩⟩
        ·replace c26 := Bool.eq_false_iff.mpr c26
         subst c26
         have H1 : (laws_FnExactPermFrom.j1 kj5 t291 t290 true) = some r := by rw [if_neg (show ¬ (false = true) by decide)] at H; exact H
         clear H
         have H := H1
         clear H1
         have H' := Aside0.mk H
         clear H
         obtain ⟨Ao29, co29, eo29⟩ := Kd.R_slice HO296.out
         subst eo29
         obtain ⟨Ao30, co30, eo30⟩ := Kd.R_slice HO_5.out
         subst eo30
         go_wp2_with (first | ((with_reducible refine gate_callee (f := 9) rfl ?_); refine gL (some 56) Tryd.func9 #[.slice Ao29 t293.length co29, .slice Ao30 t281.length co30] ?_; (with_reducible refine (laws_eqIntS.calls kj5 _ _ t293 _ _ t281 false _ ?side1 ?side2 ?side3 ?side4 A25.out).mono ?_); (case side1 => exact cP (Kd.R_reads' HO296.out).2.2); (case side2 => exact (Kd.R_reads' HO296.out).2.1); (case side3 => exact cP (Kd.R_reads' HO_5.out).2.2); (case side4 => exact (Kd.R_reads' HO_5.out).2.1); rintro e w' ⟨rfl, ⟨nd, rfl⟩⟩; refine ⟨_, rfl, ?_⟩))
         go_meet
         case rel => exact ⟨_, (true), eS, H', ⟨by have := HJ5.out; first | omega | exact Nat.le_refl _⟩, ⟨by (with_reducible repeat (first | apply Kd.R_alloc | apply Kd.R_drewN | apply Kd.R_drew)); exact Kd.R_mono HO_7.out (fun _ hk => trivial)⟩, ⟨bP HB⟩⟩
       case rest =>
        clear HC21
        try clear c1
        try clear c2
        try clear p2
        try clear c3
        try clear c3b0
        try clear c3b1
        try clear c7
        try clear c8
        try clear c9
        try clear c10
        try clear c11
        try clear c15
        try clear c18
        try clear c18b0
        try clear c19
        try clear c19b0
        try clear c19b1
        try clear c26
        try clear p2
        obtain ⟨kq, x62_20, rfl, HA, HJ20, HO_7, HB⟩ := hcut
        have hl7_20 := (Kd.R_reads' HO_7.out).1
        rw [hl7_20] at HO_7
        (try simp only [hl7_20])
        cases kq with
        | zero => exact absurd HA.out (by simp [laws_FnExactPermFrom.j1])
        | succ kj20 =>
         have H := HA.out
         clear HA
         simp only [laws_FnExactPermFrom.j1] at H
         by_cases c31 : x62_20 = true
         ·subst c31
          have H1 : (some false) = some r := by rw [if_pos rfl] at H; exact H
          clear H
          have H := H1
          clear H1
          exact absurd ((Option.some.inj H).trans hr_.out) (by decide)
         ·replace c31 := Bool.eq_false_iff.mpr c31
          subst c31
          have H1 : ((laws_heldIntS.f kj20 t291 1).bind fun t298 => (if t298 < 0 then (some false) else (if t298 = t290 then (some true) else (some false)))) = some r := by rw [if_neg (show ¬ (false = true) by decide)] at H; exact H
          clear H
          have H := H1
          clear H1
          replace H := Option.bind_eq_some_iff.mp H
          obtain ⟨t298, A320, H⟩ := H
          replace H : (if t298 < 0 then (some false) else (if t298 = t290 then (some true) else (some false))) = some r := H
          have A32 := Aside0.mk A320
          clear A320
          by_cases c33 : t298 < 0
          ·rw [if_pos c33] at H
           have c33b0 : decide (t298 < 0) = true := decide_eq_true c33
           clear c33
           exact absurd ((Option.some.inj H).trans hr_.out) (by decide)
          ·rw [if_neg c33] at H
           have c33b0 : decide (t298 < 0) = false := decide_eq_false c33
           clear c33
           by_cases c34 : t298 = t290
           ·rw [if_pos c34] at H
            have c34b0 : (t298 == t290) = true := beq_iff_eq.mpr c34
            have c34b1 : (t298 != t290) = false := bne_eq_false_iff_eq.mpr c34
            clear c34
            obtain rfl := Option.some.inj H
            go_wp2_with (first | ((with_reducible refine gate_callee (f := 11) rfl ?_); refine gL (some 65) Tryd.func11 #[.slice Ao22 t291.length co22, .int .i64 1] ?_; (with_reducible refine (laws_heldIntS.calls kj20 _ _ t291 1 t298 _ ?side1 ?side2 A32.out).mono ?_); (case side1 => exact cP (Kd.R_reads' HO_7.out).2.2); (case side2 => exact (Kd.R_reads' HO_7.out).2.1); rintro e w' ⟨rfl, ⟨nd, rfl⟩⟩; refine ⟨_, rfl, ?_⟩))
            go_ret
            exact ⟨eR, bP HB⟩
           ·rw [if_neg c34] at H
            have c34b0 : (t298 == t290) = false := beq_eq_false_iff_ne.mpr c34
            have c34b1 : (t298 != t290) = true := bne_iff_ne.mpr c34
            exact absurd ((Option.some.inj H).trans hr_.out) (by decide)
      ·rw [if_neg c19] at H
       have c19b0 : (t292 == t290) = false := beq_eq_false_iff_ne.mpr c19
       have c19b1 : (t292 != t290) = true := bne_iff_ne.mpr c19
       exact absurd ((Option.some.inj H).trans hr_.out) (by decide)

/-- THE ONE PURE STATEMENT of laws_FnExactPermFrom: yours. -/
def laws_FnExactPermFrom.Pure : Prop := ∀ (a0 : Int) (a1 : ByteArray), (Lit.int .i64 a0).wf = true → a1.size ≤ 140737488351232 → ∃ k, laws_FnExactPermFrom.f k a0 a1 = some true
theorem laws_FnExactPermFrom.walk (P : laws_FnExactPermFrom.Pure) (a0 : Int) (a1 : ByteArray) (w : World) (m0_ : Int) (ev1_ ev2_ : Value) (hm0_ : w.cell? ⟨0, 0, none⟩ = some (.int .i64 m0_)) (hm1_ : w.cell? ⟨1, 0, none⟩ = some ev1_) (hm2_ : w.cell? ⟨2, 0, none⟩ = some ev2_) (hj1_ : ev1_ = .nilIface ∨ ∃ te pe, ev1_ = .iface te pe) (hj2_ : ev2_ = .nilIface ∨ ∃ te pe, ev2_ = .iface te pe) (w0 : (Lit.int .i64 a0).wf = true) (w1 : a1.size ≤ 140737488351232) :
 Calls Tryd.prog 3 #[.int .i64 a0, .string a1] w fun e w' => e = .returned (.bool true) ∧ Below w.heap.size w w' := by
 obtain ⟨k, h⟩ := P a0 a1 w0 w1
 refine (laws_FnExactPermFrom.calls k a0 a1 true w m0_ ev1_ ev2_ hm0_ hm1_ hm2_ hj1_ hj2_ ⟨rfl⟩ h).mono ?_
 rintro e w' ⟨rfl, hd⟩
 exact ⟨rfl, hd⟩

end Go.Proofs.YtieaplnngmgkeaaDoor.F
