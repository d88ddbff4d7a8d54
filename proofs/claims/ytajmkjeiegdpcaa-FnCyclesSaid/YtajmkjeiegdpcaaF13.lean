/- Contracts: what these Go functions return. -/
import Derived.Test.YtajmkjeiegdpcaaF0
import Derived.Test.YtajmkjeiegdpcaaF3
import Derived.Test.YtajmkjeiegdpcaaF6
import Derived.Test.YtajmkjeiegdpcaaF11
import Derived.Test.YtajmkjeiegdpcaaF12
namespace Go.Proofs.Ytajmkjeiegdpcaa.F
open Go.RowKit Go.Proofs.YtajmkjeiegdpcaaW.PrintWords Go.Proofs.YtajmkjeiegdpcaaW.PrintLast Go.Proofs.YtajmkjeiegdpcaaW.PrintMore
attribute [local go_sem] max2_int min2_int max_two min_two max_three min_three max_four min_four
set_option linter.unusedVariables false
set_option linter.unusedSimpArgs false

/-! ### laws_FnCycles: function 4 -/
mutual
def laws_FnCycles.j0 : Nat → List Int → List (List Int) → Bool → List (List Int) → Bool → Bool → Option (Bool)
 | 0, _, _, _, _, _, _ => none
 | k + 1, x3, x4, x5, x6, x7, x40 => if x40 = true then (if (x5 == x7) = true then ((laws_sameLists.f k x4 x6).bind fun t257 => (some t257)) else (some false)) else (laws_FnCycles.l0 k x3 x4 (([] : List Int)) (-1) 0)
def laws_FnCycles.l0 : Nat → List Int → List (List Int) → List Int → Int → Int → Option (Bool)
 | 0, _, _, _, _, _ => none
 | k + 1, x3, x4, x8, x9, x10 => if x10 < (x4.length : Int) then (if 0 ≤ x10 then (if 0 < ((rd_L1 x4 x10).length : Int) then (if (rd (rd_L1 x4 x10) 0) ≤ x9 then (some false) else (laws_FnCycles.l1 k x3 x4 x8 (rd (rd_L1 x4 x10) 0) x10 (rd_L1 x4 x10) 0)) else (none)) else (none)) else (some ((x8.length : Int) == (x3.length : Int)))
def laws_FnCycles.l1 : Nat → List Int → List (List Int) → List Int → Int → Int → List Int → Int → Option (Bool)
 | 0, _, _, _, _, _, _, _ => none
 | k + 1, x3, x4, x8, x9, x10, x11, x12 => if x12 < (x11.length : Int) then (if 0 ≤ x12 then ((laws_hasInt.f k x8 (rd x11 x12)).bind fun t265 => (if t265 = true then (some false) else (if 0 < (x11.length : Int) then (if (rd x11 x12) < (rd x11 0) then (some false) else (if 0 ≤ (rd x11 x12) then (if (rd x11 x12) < (x3.length : Int) then (if (x11.length : Int) = 0 then (none) else (if 0 ≤ (Int.tmod (wrap64 (x12 + 1)) (x11.length : Int)) then (if (Int.tmod (wrap64 (x12 + 1)) (x11.length : Int)) < (x11.length : Int) then (if (rd x3 (rd x11 x12)) = (rd x11 (Int.tmod (wrap64 (x12 + 1)) (x11.length : Int))) then (if x8.length < 17592186044416 then (laws_FnCycles.l1 k x3 x4 (x8 ++ [rd x11 x12]) x9 x10 x11 (wrap64 (x12 + 1))) else (none)) else (some false)) else (none)) else (none))) else (none)) else (none))) else (none)))) else (none)) else (laws_FnCycles.l0 k x3 x4 x8 x9 (wrap64 (x10 + 1)))
end
def laws_FnCycles.f (k : Nat) (l0 : List Int) : Option (Bool) := if (l0.length : Int) > 1048576 then (some true) else ((spec_DrawPermCycles.f k l0).bind fun t245 => ((impl_PermCycles.f k t245).bind fun bt248 => ((spec_PermCycles.f k t245).bind fun bt252 => (if (bt248.2 != bt252.2) = true then (laws_FnCycles.j0 k t245 bt248.1 bt248.2 bt252.1 bt252.2 true) else ((laws_sameLists.f k bt248.1 bt252.1).bind fun t256 => (if t256 = true then (laws_FnCycles.j0 k t245 bt248.1 bt248.2 bt252.1 bt252.2 (!bt248.2)) else (laws_FnCycles.j0 k t245 bt248.1 bt248.2 bt252.1 bt252.2 true)))))))
def laws_FnCycles.T20 : Bool × List (List Nat × List Nat) := (true, [([], []), ([], []), ([], []), ([1, 2], [1, 2]), ([3], [3]), ([0, 4], [0, 4]), ([5, 5], [5]), ([6], [6]), ([6], [6]), ([7, 8, 6], [6, 7, 8]), ([9, 6], [6, 9]), ([6], [6]), ([11, 6], [6, 11]), ([12, 6], [6, 12]), ([10, 13, 6], [6, 10, 13]), ([6, 14], [6, 14]), ([15, 6], [15]), ([16], [16]), ([16], [16]), ([16], [16]), ([18, 19, 16], [16, 18, 19]), ([20, 16], [16, 20]), ([17, 21, 16], [16, 17, 21]), ([22, 16], [16, 22]), ([16], [16]), ([16], [16]), ([25, 16], [16, 25]), ([16], [16]), ([27, 16], [16, 27]), ([26, 28, 16], [16, 26, 28]), ([24, 29, 16], [16, 24, 29]), ([30, 16], [16, 30]), ([23, 31, 16], [16, 23, 31]), ([16, 32], [16, 32])])
def laws_FnCycles.B20 : List Nat := [0, 0, 0, 6, 14, 31, 63, 127, 127, 511, 1023, 127, 2175, 6271, 16383, 32767, 65535, 131071, 131071, 131071, 917503, 1966079, 4194303, 8388607, 131071, 131071, 33685503, 131071, 134348799, 503447551, 1057095679, 2130837503, 4294967295, 8589934591]
theorem laws_FnCycles.tab20 : rtab .any (opsOf Try.f4 20) = laws_FnCycles.T20 := by kernel_rfl
theorem laws_FnCycles.bits20 : waitsOk laws_FnCycles.T20.2 laws_FnCycles.B20 = true := by kernel_rfl
set_option maxHeartbeats 8000000 in
set_option maxRecDepth 100000 in
theorem laws_FnCycles.calls (k : Nat) (A0 : Option Addr) (c0 : Nat) (l0 : List Int) (r : Bool) (w : World) (hr0 : Kd.C (Kd.int .u8) w A0 l0.length l0) (hc0 : l0.length ≤ c0) (hr_ : Aside0 (r = true)) (h : laws_FnCycles.f k l0 = some r) :
 Calls Try.prog 4 #[.slice A0 l0.length c0] w fun e w' => e = .returned (.bool r) ∧ Below w.heap.size w w' := by
 have HR0 := Aside0.mk hr0
 have HC0 := Aside0.mk hc0
 clear hr0 hc0
 have HB := Aside0.mk (Below.refl w.heap.size w)
 have H : (if (l0.length : Int) > 1048576 then (some true) else ((spec_DrawPermCycles.f k l0).bind fun t245 => ((impl_PermCycles.f k t245).bind fun bt248 => ((spec_PermCycles.f k t245).bind fun bt252 => (if (bt248.2 != bt252.2) = true then (laws_FnCycles.j0 k t245 bt248.1 bt248.2 bt252.1 bt252.2 true) else ((laws_sameLists.f k bt248.1 bt252.1).bind fun t256 => (if t256 = true then (laws_FnCycles.j0 k t245 bt248.1 bt248.2 bt252.1 bt252.2 (!bt248.2)) else (laws_FnCycles.j0 k t245 bt248.1 bt248.2 bt252.1 bt252.2 true)))))))) = some r := h
 clear h
 by_cases c2 : (l0.length : Int) > 1048576
 ·rw [if_pos c2] at H
  have c2b0 : decide (1048576 < (l0.length : Int)) = true := decide_eq_true c2
  have c2b1 : decide (1048576 < l0.length) = true := decide_eq_true (by omega)
  clear c2
  obtain rfl := Option.some.inj H
  go_enter Try.func4, Try.ntmps4
  go_wp2
  go_ret
  exact ⟨eR, bP HB⟩
 ·rw [if_neg c2] at H
  have c2b0 : decide (1048576 < (l0.length : Int)) = false := decide_eq_false c2
  have c2b1 : decide (1048576 < l0.length) = false := decide_eq_false (by omega)
  clear c2
  replace H := Option.bind_eq_some_iff.mp H
  obtain ⟨t245, A30, H⟩ := H
  replace H : ((impl_PermCycles.f k t245).bind fun bt248 => ((spec_PermCycles.f k t245).bind fun bt252 => (if (bt248.2 != bt252.2) = true then (laws_FnCycles.j0 k t245 bt248.1 bt248.2 bt252.1 bt252.2 true) else ((laws_sameLists.f k bt248.1 bt252.1).bind fun t256 => (if t256 = true then (laws_FnCycles.j0 k t245 bt248.1 bt248.2 bt252.1 bt252.2 (!bt248.2)) else (laws_FnCycles.j0 k t245 bt248.1 bt248.2 bt252.1 bt252.2 true)))))) = some r := H
  have A3 := Aside0.mk A30
  clear A30
  replace H := Option.bind_eq_some_iff.mp H
  obtain ⟨⟨t248, t249⟩, A40, H⟩ := H
  replace H : ((spec_PermCycles.f k t245).bind fun bt252 => (if (t249 != bt252.2) = true then (laws_FnCycles.j0 k t245 t248 t249 bt252.1 bt252.2 true) else ((laws_sameLists.f k t248 bt252.1).bind fun t256 => (if t256 = true then (laws_FnCycles.j0 k t245 t248 t249 bt252.1 bt252.2 (!t249)) else (laws_FnCycles.j0 k t245 t248 t249 bt252.1 bt252.2 true))))) = some r := H
  have A4 := Aside0.mk A40
  clear A40
  replace H := Option.bind_eq_some_iff.mp H
  obtain ⟨⟨t252, t253⟩, A50, H⟩ := H
  replace H : (if (t249 != t253) = true then (laws_FnCycles.j0 k t245 t248 t249 t252 t253 true) else ((laws_sameLists.f k t248 t252).bind fun t256 => (if t256 = true then (laws_FnCycles.j0 k t245 t248 t249 t252 t253 (!t249)) else (laws_FnCycles.j0 k t245 t248 t249 t252 t253 true)))) = some r := H
  have A5 := Aside0.mk A50
  clear A50
  have HC6 := Aside0.mk H
  clear H
  go_enter Try.func4, Try.ntmps4
  go_upto_region 6 with (first | ((with_reducible refine gate_callee (f := 16) rfl ?_); refine gL (some 17) Try.func16 #[.slice A0 l0.length c0] ?_; (with_reducible refine (spec_DrawPermCycles.calls k _ _ l0 t245 _ ?side1 ?side2 A3.out).mono ?_); (case side1 => repeat (first | exact HR0.out | (with_reducible refine Kd.C_alloc ?_ _) | (with_reducible refine Kd.C_drewN ?_ _) | (with_reducible refine Kd.C_drew ?_))); (case side2 => exact HC0.out); rintro e w7 ⟨v246, rfl, ho0, hb⟩; refine ⟨_, rfl, ?_⟩; have HO247 := rL ho0 HB; replace HB := bS HB hb; (try clear hb); (try clear hb2); (try clear hk); (try clear hi); (try clear ho0); obtain ⟨Ao8, co8, eo8⟩ := Kd.R_slice HO247.out; subst eo8) | ((with_reducible refine gate_callee (f := 10) rfl ?_); refine gL (some 20) Try.func10 #[.slice Ao8 t245.length co8] ?_; (with_reducible refine (impl_PermCycles.calls k _ _ t245 t248 t249 _ ?side1 ?side2 A4.out).mono ?_); (case side1 => exact cP (Kd.R_reads' HO247.out).2.2); (case side2 => exact (Kd.R_reads' HO247.out).2.1); rintro e w9 ⟨v250, rfl, ho0, hb⟩; refine ⟨_, rfl, ?_⟩; have HO251 := Aside0.mk (Kd.S_lower (Kd.S_new' ho0 (Kd.R_lt (rP HO247))) (below_size (bP HB))); replace HO247 := rB HO247 hb; replace HB := bS HB hb; (try clear hb); (try clear hb2); (try clear hk); (try clear hi); (try clear ho0)) | ((with_reducible refine gate_callee (f := 8) rfl ?_); refine gL (some 25) Try.func8 #[.slice Ao8 t245.length co8] ?_; (with_reducible refine (spec_PermCycles.calls k _ _ t245 t252 t253 _ ?side1 ?side2 A5.out).mono ?_); (case side1 => exact cP (Kd.R_reads' HO247.out).2.2); (case side2 => exact (Kd.R_reads' HO247.out).2.1); rintro e w10 ⟨v254, rfl, ho0, hb⟩; refine ⟨_, rfl, ?_⟩; have HO255 := Aside0.mk (Kd.S_lower (Kd.S_new' (Kd.S_new' ho0 (Kd.R_lt (rP HO247))) (Kd.S_lt (by (with_reducible repeat (first | apply Kd.S_alloc | apply Kd.S_drewN | apply Kd.S_drew)); exact HO251.out))) (below_size (bP HB))); replace HO247 := rB HO247 hb; replace HO251 := Aside0.mk (Kd.S_elder' (by (with_reducible repeat (first | apply Kd.S_alloc | apply Kd.S_drewN | apply Kd.S_drew)); exact HO251.out) (Kd.S_base ho0) hb); replace HB := bS HB hb; (try clear hb); (try clear hb2); (try clear hk); (try clear hi); (try clear ho0)))
  (try simp only [Act.put, List.setIfInBounds_toArray, List.set_cons_zero, List.set_cons_succ])
  go_cut [40] (fun v40 wc => ∃ (kq : Nat) (x40_5 : Bool), v40 = .bool x40_5 ∧ Aside0 (laws_FnCycles.j0 kq t245 t248 t249 t252 t253 x40_5 = some r) ∧ Aside0 (kq ≤ k) ∧ Aside0 (Kd.R (Kd.int .i64) 3 wc w.heap.size (fun _ => True) (.slice Ao8 t245.length co8) t245) ∧ Aside0 (Kd.S (Kd.slice 3 (Kd.int .i64)) 22 wc w.heap.size (fun k_ => oN k_ Ao8 t245 co8 ∧ some k_ ≠ (v254 : Value).ownBlock) v250 t248) ∧ Aside0 (Kd.S (Kd.slice 3 (Kd.int .i64)) 22 wc w.heap.size (fun k_ => oN k_ Ao8 t245 co8 ∧ some k_ ≠ (v250 : Value).ownBlock) v254 t252) ∧ Aside0 (Below w.heap.size w wc))
  case first =>
   have H := HC6.out
   clear HC6
   by_cases c11 : (t249 != t253) = true
   ·rw [if_pos c11] at H
    have c11b0 : (t249 != t253) = true := c11
    (try (have c11b1 : decide (t249 = t253) = false := by simpa using c11))
    (try (have c11b2 : (t249 == t253) = false := by simpa using c11))
    (try (have c11b3 : ¬ (t249 = t253) := by simpa using c11))
    clear c11
    (first | rw [c11b0] | (simp only [i64_w, i32_w]; rw [c11b0]) | skip)
    have H' := Aside0.mk H
    clear H
    go_wp2
    go_meet
    case rel => exact ⟨_, (true), eS, H', ⟨by first | omega | exact Nat.le_refl _⟩, ⟨rP HO247⟩, ⟨by (with_reducible repeat (first | apply Kd.S_alloc | apply Kd.S_drewN | apply Kd.S_drew)); exact Kd.S_mono HO251.out (fun _ hk => ⟨hk.1.2, hk.2⟩)⟩, ⟨by (with_reducible repeat (first | apply Kd.S_alloc | apply Kd.S_drewN | apply Kd.S_drew)); exact Kd.S_mono HO255.out (fun _ hk => ⟨hk.1.2, hk.2⟩)⟩, ⟨bP HB⟩⟩
   ·rw [if_neg c11] at H
    have c11b0 : (t249 != t253) = false := by simpa using c11
    (try (have c11b1 : decide (t249 = t253) = true := by simpa using c11))
    (try (have c11b2 : (t249 == t253) = true := by simpa using c11))
    clear c11
    (first | rw [c11b0] | (simp only [i64_w, i32_w]; rw [c11b0]) | skip)
    replace H := Option.bind_eq_some_iff.mp H
    obtain ⟨t256, A120, H⟩ := H
    replace H : (if t256 = true then (laws_FnCycles.j0 k t245 t248 t249 t252 t253 (!t249)) else (laws_FnCycles.j0 k t245 t248 t249 t252 t253 true)) = some r := H
    have A12 := Aside0.mk A120
    clear A120
    by_cases c13 : t256 = true
    ·subst c13
     have H1 : (laws_FnCycles.j0 k t245 t248 t249 t252 t253 (!t249)) = some r := by rw [if_pos rfl] at H; exact H
     clear H
     have H := H1
     clear H1
     have H' := Aside0.mk H
     clear H
     obtain ⟨Ao14, co14, eo14⟩ := Kd.S_slice HO251.out
     subst eo14
     obtain ⟨Ao15, co15, eo15⟩ := Kd.S_slice HO255.out
     subst eo15
     go_wp2_with (first | (go_at_call 17; (with_reducible refine (laws_sameLists.calls k _ _ t248 _ _ t252 true _ ?side1 ?side2 ?side3 ?side4 A12.out).mono ?_); (case side1 => exact cP (Kd.S_reads' HO251.out).2.2); (case side2 => exact (Kd.S_reads' HO251.out).2.1); (case side3 => exact cP (Kd.S_reads' HO255.out).2.2); (case side4 => exact (Kd.S_reads' HO255.out).2.1); rintro e w' ⟨rfl, ⟨nd, rfl⟩⟩))
     go_meet
     case rel => exact ⟨_, (!t249), eS, H', ⟨by first | omega | exact Nat.le_refl _⟩, ⟨rP HO247⟩, ⟨by (with_reducible repeat (first | apply Kd.S_alloc | apply Kd.S_drewN | apply Kd.S_drew)); exact Kd.S_mono HO251.out (fun _ hk => ⟨hk.1.2, hk.2⟩)⟩, ⟨by (with_reducible repeat (first | apply Kd.S_alloc | apply Kd.S_drewN | apply Kd.S_drew)); exact Kd.S_mono HO255.out (fun _ hk => ⟨hk.1.2, hk.2⟩)⟩, ⟨bP HB⟩⟩
    ·replace c13 := Bool.eq_false_iff.mpr c13
     subst c13
     have H1 : (laws_FnCycles.j0 k t245 t248 t249 t252 t253 true) = some r := by rw [if_neg (show ¬ (false = true) by decide)] at H; exact H
     clear H
     have H := H1
     clear H1
     have H' := Aside0.mk H
     clear H
     obtain ⟨Ao16, co16, eo16⟩ := Kd.S_slice HO251.out
     subst eo16
     obtain ⟨Ao17, co17, eo17⟩ := Kd.S_slice HO255.out
     subst eo17
     go_wp2_with (first | (go_at_call 17; (with_reducible refine (laws_sameLists.calls k _ _ t248 _ _ t252 false _ ?side1 ?side2 ?side3 ?side4 A12.out).mono ?_); (case side1 => exact cP (Kd.S_reads' HO251.out).2.2); (case side2 => exact (Kd.S_reads' HO251.out).2.1); (case side3 => exact cP (Kd.S_reads' HO255.out).2.2); (case side4 => exact (Kd.S_reads' HO255.out).2.1); rintro e w' ⟨rfl, ⟨nd, rfl⟩⟩))
     go_meet
     case rel => exact ⟨_, (true), eS, H', ⟨by first | omega | exact Nat.le_refl _⟩, ⟨rP HO247⟩, ⟨by (with_reducible repeat (first | apply Kd.S_alloc | apply Kd.S_drewN | apply Kd.S_drew)); exact Kd.S_mono HO251.out (fun _ hk => ⟨hk.1.2, hk.2⟩)⟩, ⟨by (with_reducible repeat (first | apply Kd.S_alloc | apply Kd.S_drewN | apply Kd.S_drew)); exact Kd.S_mono HO255.out (fun _ hk => ⟨hk.1.2, hk.2⟩)⟩, ⟨bP HB⟩⟩
  case rest =>
   clear HC6
   try clear c1
   try clear c2
   try clear c2b0
   try clear c2b1
   try clear p2
   try clear c4
   try clear c8
   try clear c10
   try clear c11
   try clear c11b0
   try clear c11b1
   try clear c11b2
   try clear c13
   try clear c16
   obtain ⟨kq, x40_5, rfl, HA, HJ5, HO_3, HO_4, HO_6, HB⟩ := hcut
   cases kq with
   | zero => exact absurd HA.out (by simp [laws_FnCycles.j0])
   | succ kj5 =>
    have H := HA.out
    clear HA
    simp only [laws_FnCycles.j0] at H
    by_cases c18 : x40_5 = true
    ·subst c18
     have H1 : (if (t249 == t253) = true then ((laws_sameLists.f kj5 t248 t252).bind fun t257 => (some t257)) else (some false)) = some r := by rw [if_pos rfl] at H; exact H
     clear H
     have H := H1
     clear H1
     by_cases c19 : (t249 == t253) = true
     ·rw [if_pos c19] at H
      have c19b0 : (t249 == t253) = true := c19
      (try (have c19b1 : decide (t249 = t253) = true := by simpa using c19))
      (try (have c19b2 : (t249 == t253) = true := by simpa using c19))
      clear c19
      replace H := Option.bind_eq_some_iff.mp H
      obtain ⟨t257, A200, H⟩ := H
      replace H : (some t257) = some r := H
      have A20 := Aside0.mk A200
      clear A200
      obtain rfl := Option.some.inj H
      obtain ⟨Ao21, co21, eo21⟩ := Kd.S_slice HO_4.out
      subst eo21
      obtain ⟨Ao22, co22, eo22⟩ := Kd.S_slice HO_6.out
      subst eo22
      go_wp2_with (first | (go_at_call 17; (with_reducible refine (laws_sameLists.calls kj5 _ _ t248 _ _ t252 t257 _ ?side1 ?side2 ?side3 ?side4 A20.out).mono ?_); (case side1 => exact cP (Kd.S_reads' HO_4.out).2.2); (case side2 => exact (Kd.S_reads' HO_4.out).2.1); (case side3 => exact cP (Kd.S_reads' HO_6.out).2.2); (case side4 => exact (Kd.S_reads' HO_6.out).2.1); rintro e w' ⟨rfl, ⟨nd, rfl⟩⟩))
      go_ret
      exact ⟨eR, bP HB⟩
     ·rw [if_neg c19] at H
      have c19b0 : (t249 == t253) = false := by simpa using c19
      (try (have c19b1 : decide (t249 = t253) = false := by simpa using c19))
      (try (have c19b2 : (t249 == t253) = false := by simpa using c19))
      (try (have c19b3 : ¬ (t249 = t253) := by simpa using c19))
      clear c19
      exact absurd ((Option.some.inj H).trans hr_.out) (by decide)
    ·replace c18 := Bool.eq_false_iff.mpr c18
     subst c18
     have H1 : (laws_FnCycles.l0 kj5 t245 t248 (([] : List Int)) (-1) 0) = some r := by rw [if_neg (show ¬ (false = true) by decide)] at H; exact H
     clear H
     have H := H1
     clear H1
     obtain ⟨y258, hy258⟩ : ∃ y_ : List Int, y_ = (([] : List Int)) := ⟨_, rfl⟩
     replace H : (laws_FnCycles.l0 kj5 t245 t248 y258 (-1) 0) = some r := by first | (rw [hy258]; with_reducible exact H) | (have H2_ := (Option.bind_some _ _).symm.trans H; rw [hy258]; with_reducible exact H2_) | (have H2_ := (Option.bind_some _ _).symm.trans H; with_reducible exact H2_) | with_reducible exact H | (rw [hy258]; exact H) | exact H
     have Ny258 := Aside0.mk hy258
     clear hy258
     have H' := Aside0.mk H
     clear H
     go_wp2_with (first | ((with_reducible refine gate_dst (N := 49) rfl ?_); (try (refine gate_guard (by rfl) ?_; dsimp only)); refine Kd.R_lit (Kd.int .i64) _ 3 ?hg (N := 49) ?hd (xs := ([] : List Int)) (inner := []) (ok := fun _ => True) (okp := fun _ => True) ?hr ?hp (fun _ hk => hk) trivial (Below.refl _ _) (Nat.le_refl _) (by simp) ?_; (case hd => rfl); (case hg => rfl); (case hr => first | (go_simp; done) | (go_simp; rfl)); (case hp => exact (Reps.none _ _)); intro v259 w23 ho24 hb hg_ hnew_; clear hg_ hnew_; (first | rw [← Ny258.out] at ho24 | (simp only [Int.reduceToNat] at ho24; rw [← Ny258.out] at ho24)); replace HO_4 := Aside0.mk (Kd.S_elder' (by (with_reducible repeat (first | apply Kd.S_alloc | apply Kd.S_drewN | apply Kd.S_drew)); exact HO_4.out) (Kd.R_base ho24) hb); replace HO_6 := Aside0.mk (Kd.S_elder' (by (with_reducible repeat (first | apply Kd.S_alloc | apply Kd.S_drewN | apply Kd.S_drew)); exact HO_6.out) (Kd.R_base ho24) hb); have HO260 := Aside0.mk (Kd.R_lower (Kd.R_new' ho24 (Kd.R_lt (rP HO_3))) (below_size (bP HB))); replace HO_3 := Aside0.mk (Kd.R_elder' (rP HO_3) (Kd.R_base ho24) hb); replace HB := bS HB hb; clear hb ho24))
     go_loopg [8, 9, 10] kj5 (fun kq v8 v9 v10 w' => ∃ (x8_2 : List Int) (x9_2 : Int) (x10_2 : Int), v9 = .int .i64 x9_2 ∧ v10 = .int .i64 x10_2 ∧ Aside0 (laws_FnCycles.l0 kq t245 t248 x8_2 x9_2 x10_2 = some r) ∧ Aside0 (kq ≤ kj5) ∧ Aside0 (Kd.R (Kd.int .i64) 3 w' w.heap.size (fun k_ => some k_ ≠ (v8 : Value).ownBlock) (.slice Ao8 t245.length co8) t245) ∧ Aside0 (Kd.S (Kd.slice 3 (Kd.int .i64)) 22 w' w.heap.size (fun k_ => oN k_ Ao8 t245 co8 ∧ some k_ ≠ (v8 : Value).ownBlock) v250 t248) ∧ Aside0 (Kd.R (Kd.int .i64) 3 w' w.heap.size (fun k_ => oN k_ Ao8 t245 co8) v8 x8_2) ∧ Aside0 (Below w.heap.size w w'))
     case atStart => exact ⟨(y258), ((-1)), (0), eS, eS, H', ⟨Nat.le_refl _⟩, ⟨by (with_reducible repeat (first | apply Kd.R_alloc | apply Kd.R_drewN | apply Kd.R_drew)); exact Kd.R_mono HO_3.out (fun _ hk => hk.2)⟩, ⟨by (with_reducible repeat (first | apply Kd.S_alloc | apply Kd.S_drewN | apply Kd.S_drew)); exact Kd.S_mono HO_4.out (fun _ hk => ⟨hk.1.1, hk.2⟩)⟩, ⟨by (with_reducible repeat (first | apply Kd.R_alloc | apply Kd.R_drewN | apply Kd.R_drew)); exact Kd.R_mono HO260.out (fun _ hk => hk.2)⟩, ⟨bP HB⟩⟩
     case round =>
      clear H'
      try clear c1
      try clear c2
      try clear c2b0
      try clear c2b1
      try clear p2
      try clear c4
      try clear c8
      try clear c10
      try clear c11
      try clear c11b0
      try clear c11b1
      try clear c11b2
      try clear c13
      try clear c16
      try clear c18
      try clear c19
      try clear c19b0
      try clear c19b1
      try clear c19b2
      try clear p2
      obtain ⟨x8_2, x9_2, x10_2, rfl, rfl, HA, HK2, HO_3, HO_4, HO_8, HB⟩ := hrel
      cases gk with
      | zero => exact absurd HA.out (by simp [laws_FnCycles.l0])
      | succ k2 =>
       have H := HA.out
       clear HA
       simp only [laws_FnCycles.l0] at H
       by_cases c25 : x10_2 < (t248.length : Int)
       ·rw [if_pos c25] at H
        have c25b0 : decide (x10_2 < (t248.length : Int)) = true := decide_eq_true c25
        clear c25
        by_cases c26 : 0 ≤ x10_2
        ·rw [if_pos c26] at H
         have c26b0 : decide (0 ≤ x10_2) = true := decide_eq_true c26
         clear c26
         by_cases c27 : 0 < ((rd_L1 t248 x10_2).length : Int)
         ·rw [if_pos c27] at H
          have c27b0 : decide (0 < ((rd_L1 t248 x10_2).length : Int)) = true := decide_eq_true c27
          have c27b1 : decide (0 < (rd_L1 t248 x10_2).length) = true := decide_eq_true (by omega)
          clear c27
          by_cases c28 : (rd (rd_L1 t248 x10_2) 0) ≤ x9_2
          ·rw [if_pos c28] at H
           have c28b0 : decide ((rd (rd_L1 t248 x10_2) 0) ≤ x9_2) = true := decide_eq_true c28
           clear c28
           exact absurd ((Option.some.inj H).trans hr_.out) (by decide)
          ·rw [if_neg c28] at H
           have c28b0 : decide ((rd (rd_L1 t248 x10_2) 0) ≤ x9_2) = false := decide_eq_false c28
           clear c28
           have H' := Aside0.mk H
           clear H
           obtain ⟨Ao29, co29, eo29⟩ := Kd.S_slice HO_4.out
           subst eo29
           have p261 : 0 ≤ (x10_2 : Int) := dT
           have q261 : x10_2 < (t248.length : Int) := dT
           obtain ⟨ad261, A261_0, c261_0, e261, hx261_0, hl261_0, hi261_0⟩ := at_L1 (Kd.S_reads' HO_4.out).2.2 x10_2 p261 q261
           cases e261
           obtain ⟨ce261, hce261, hMe261, hcc261⟩ := Kd.S_get HO_4.out [] x10_2 p261 (by first | exact q261 | exact dT | (have e_ := (Kd.S_reads' HO_4.out).1; omega))
           obtain ⟨ve261_0, rfl, ge261_0⟩ := hMe261
           have hv261_0 := hcc261 0 _ rfl
           rw [Nat.add_zero, show ((Kd.slice 3 (Kd.int .i64))).sz = 1 from rfl, Nat.mul_one] at hv261_0
           replace hv261_0 := Option.some.inj (hv261_0.symm.trans hx261_0)
           rw [hv261_0] at ge261_0
           have HL261_0 := Aside0.mk (show Kd.R (Kd.int .i64) 3 _ _ _ _ (rd_L1 t248 x10_2) from ge261_0)
           clear hv261_0 ge261_0
           clear hcc261 hce261
           have HR261_0 := Aside0.mk hi261_0
           have HC261_0 := Aside0.mk hl261_0
           clear hi261_0 hl261_0
           replace p261 := eq_true p261
           replace q261 := eq_true q261
           have p262 : 0 ≤ (0 : Int) := (by omega)
           have q262 : 0 < ((rd_L1 t248 x10_2).length : Int) := dT
           obtain ⟨ad262, e262, hx262_0⟩ := Kd.at_int (by repeat (first | (with_reducible exact HR261_0.out) | (with_reducible refine Kd.C_alloc ?_ _) | (with_reducible refine Kd.C_drewN ?_ _) | (with_reducible refine Kd.C_drew ?_) | exact HR261_0.out)) 0 p262 q262
           cases e262
           have qi262 : (0 < (rd_L1 t248 x10_2).length) = True := eq_true (by omega)
           (try rw [show ((0 : Int)).toNat = 0 from rfl] at hx262_0)
           (try rw [Addr.add_zero'] at hx262_0)
           replace p262 := eq_true p262
           replace q262 := eq_true q262
           have p263 : 0 ≤ (0 : Int) := (by omega)
           have q263 : 0 < ((rd_L1 t248 x10_2).length : Int) := dT
           obtain ⟨ad263, e263, hx263_0⟩ := Kd.at_int (by repeat (first | (with_reducible exact HR261_0.out) | (with_reducible refine Kd.C_alloc ?_ _) | (with_reducible refine Kd.C_drewN ?_ _) | (with_reducible refine Kd.C_drew ?_) | exact HR261_0.out)) 0 p263 q263
           obtain rfl : ad262 = ad263 := (by injection e263)
           have qi263 : (0 < (rd_L1 t248 x10_2).length) = True := eq_true (by omega)
           (try rw [show ((0 : Int)).toNat = 0 from rfl] at hx263_0)
           (try rw [Addr.add_zero'] at hx263_0)
           replace p263 := eq_true p263
           replace q263 := eq_true q263
           go_wp2
           go_loopg [8, 12] k2 (fun kq v8 v12 w' => ∃ (x8_3 : List Int) (x12_3 : Int), v12 = .int .i64 x12_3 ∧ Aside0 (laws_FnCycles.l1 kq t245 t248 x8_3 (rd (rd_L1 t248 x10_2) 0) x10_2 (rd_L1 t248 x10_2) x12_3 = some r) ∧ Aside0 (kq ≤ k2) ∧ Aside0 (Kd.R (Kd.int .i64) 3 w' w.heap.size (fun k_ => some k_ ≠ (v8 : Value).ownBlock) (.slice Ao8 t245.length co8) t245) ∧ Aside0 (Kd.R (Kd.int .i64) 3 w' w.heap.size (fun k_ => some k_ ≠ (v8 : Value).ownBlock) (.slice (some ad262) (rd_L1 t248 x10_2).length c261_0) (rd_L1 t248 x10_2)) ∧ Aside0 (Kd.S (Kd.slice 3 (Kd.int .i64)) 22 w' w.heap.size (fun k_ => oN k_ Ao8 t245 co8 ∧ some k_ ≠ (v8 : Value).ownBlock) (.slice (some ad261) t248.length co29) t248) ∧ Aside0 (Kd.R (Kd.int .i64) 3 w' w.heap.size (fun k_ => oN k_ Ao8 t245 co8) v8 x8_3) ∧ Aside0 (Below w.heap.size w w'))
           case atStart => exact ⟨(x8_2), (0), eS, H', ⟨Nat.le_refl _⟩, ⟨rP HO_3⟩, ⟨by (with_reducible repeat (first | apply Kd.R_alloc | apply Kd.R_drewN | apply Kd.R_drew)); exact Kd.R_mono HL261_0.out (fun _ hk => hk.1.2)⟩, ⟨by (with_reducible repeat (first | apply Kd.S_alloc | apply Kd.S_drewN | apply Kd.S_drew)); exact HO_4.out⟩, ⟨rP HO_8⟩, ⟨bP HB⟩⟩
           case round =>
            clear H'
            try clear c1
            try clear c2
            try clear c2b0
            try clear c2b1
            try clear p2
            try clear q2
            try clear hx2
            try clear qi2
            try clear c4
            try clear c8
            try clear c10
            try clear c11
            try clear c11b0
            try clear c11b1
            try clear c11b2
            try clear c13
            try clear c16
            try clear c18
            try clear c19
            try clear c19b0
            try clear c19b1
            try clear c19b2
            try clear c25
            try clear c25b0
            try clear c26
            try clear c26b0
            try clear p26
            try clear q26
            try clear hx26
            try clear qi26
            try clear c27
            try clear c27b0
            try clear c27b1
            try clear c28
            try clear c28b0
            try clear hx261_0
            try clear hx262_0
            try clear hx263_0
            try clear p2
            try clear p261
            try clear p262
            try clear p263
            try clear q261
            try clear q262
            try clear q263
            obtain ⟨x8_3, x12_3, rfl, HA, HK3, HO_3, HO_9, HO_4, HO_8, HB⟩ := hrel
            replace HR261_0 := Aside0.mk (Kd.R_reads' HO_9.out).2.2
            cases gk with
            | zero => exact absurd HA.out (by simp [laws_FnCycles.l1])
            | succ k3 =>
             have H := HA.out
             clear HA
             simp only [laws_FnCycles.l1] at H
             by_cases c30 : x12_3 < ((rd_L1 t248 x10_2).length : Int)
             ·rw [if_pos c30] at H
              have c30b0 : decide (x12_3 < ((rd_L1 t248 x10_2).length : Int)) = true := decide_eq_true c30
              clear c30
              by_cases c31 : 0 ≤ x12_3
              ·rw [if_pos c31] at H
               have c31b0 : decide (0 ≤ x12_3) = true := decide_eq_true c31
               clear c31
               replace H := Option.bind_eq_some_iff.mp H
               obtain ⟨t265, A320, H⟩ := H
               replace H : (if t265 = true then (some false) else (if 0 < ((rd_L1 t248 x10_2).length : Int) then (if (rd (rd_L1 t248 x10_2) x12_3) < (rd (rd_L1 t248 x10_2) 0) then (some false) else (if 0 ≤ (rd (rd_L1 t248 x10_2) x12_3) then (if (rd (rd_L1 t248 x10_2) x12_3) < (t245.length : Int) then (if ((rd_L1 t248 x10_2).length : Int) = 0 then (none) else (if 0 ≤ (Int.tmod (wrap64 (x12_3 + 1)) ((rd_L1 t248 x10_2).length : Int)) then (if (Int.tmod (wrap64 (x12_3 + 1)) ((rd_L1 t248 x10_2).length : Int)) < ((rd_L1 t248 x10_2).length : Int) then (if (rd t245 (rd (rd_L1 t248 x10_2) x12_3)) = (rd (rd_L1 t248 x10_2) (Int.tmod (wrap64 (x12_3 + 1)) ((rd_L1 t248 x10_2).length : Int))) then (if x8_3.length < 17592186044416 then (laws_FnCycles.l1 k3 t245 t248 (x8_3 ++ [rd (rd_L1 t248 x10_2) x12_3]) (rd (rd_L1 t248 x10_2) 0) x10_2 (rd_L1 t248 x10_2) (wrap64 (x12_3 + 1))) else (none)) else (some false)) else (none)) else (none))) else (none)) else (none))) else (none))) = some r := H
               have A32 := Aside0.mk A320
               clear A320
               by_cases c33 : t265 = true
               ·subst c33
                have H1 : (some false) = some r := by rw [if_pos rfl] at H; exact H
                clear H
                have H := H1
                clear H1
                exact absurd ((Option.some.inj H).trans hr_.out) (by decide)
               ·replace c33 := Bool.eq_false_iff.mpr c33
                subst c33
                have H1 : (if 0 < ((rd_L1 t248 x10_2).length : Int) then (if (rd (rd_L1 t248 x10_2) x12_3) < (rd (rd_L1 t248 x10_2) 0) then (some false) else (if 0 ≤ (rd (rd_L1 t248 x10_2) x12_3) then (if (rd (rd_L1 t248 x10_2) x12_3) < (t245.length : Int) then (if ((rd_L1 t248 x10_2).length : Int) = 0 then (none) else (if 0 ≤ (Int.tmod (wrap64 (x12_3 + 1)) ((rd_L1 t248 x10_2).length : Int)) then (if (Int.tmod (wrap64 (x12_3 + 1)) ((rd_L1 t248 x10_2).length : Int)) < ((rd_L1 t248 x10_2).length : Int) then (if (rd t245 (rd (rd_L1 t248 x10_2) x12_3)) = (rd (rd_L1 t248 x10_2) (Int.tmod (wrap64 (x12_3 + 1)) ((rd_L1 t248 x10_2).length : Int))) then (if x8_3.length < 17592186044416 then (laws_FnCycles.l1 k3 t245 t248 (x8_3 ++ [rd (rd_L1 t248 x10_2) x12_3]) (rd (rd_L1 t248 x10_2) 0) x10_2 (rd_L1 t248 x10_2) (wrap64 (x12_3 + 1))) else (none)) else (some false)) else (none)) else (none))) else (none)) else (none))) else (none)) = some r := by rw [if_neg (show ¬ (false = true) by decide)] at H; exact H
                clear H
                have H := H1
                clear H1
                by_cases c34 : 0 < ((rd_L1 t248 x10_2).length : Int)
                ·rw [if_pos c34] at H
                 have c34b0 : decide (0 < ((rd_L1 t248 x10_2).length : Int)) = true := decide_eq_true c34
                 have c34b1 : decide (0 < (rd_L1 t248 x10_2).length) = true := decide_eq_true (by omega)
                 clear c34
                 by_cases c35 : (rd (rd_L1 t248 x10_2) x12_3) < (rd (rd_L1 t248 x10_2) 0)
                 ·rw [if_pos c35] at H
                  have c35b0 : decide ((rd (rd_L1 t248 x10_2) x12_3) < (rd (rd_L1 t248 x10_2) 0)) = true := decide_eq_true c35
                  clear c35
                  exact absurd ((Option.some.inj H).trans hr_.out) (by decide)
                 ·rw [if_neg c35] at H
                  have c35b0 : decide ((rd (rd_L1 t248 x10_2) x12_3) < (rd (rd_L1 t248 x10_2) 0)) = false := decide_eq_false c35
                  clear c35
                  by_cases c36 : 0 ≤ (rd (rd_L1 t248 x10_2) x12_3)
                  ·rw [if_pos c36] at H
                   have c36b0 : decide (0 ≤ (rd (rd_L1 t248 x10_2) x12_3)) = true := decide_eq_true c36
                   clear c36
                   by_cases c37 : (rd (rd_L1 t248 x10_2) x12_3) < (t245.length : Int)
                   ·rw [if_pos c37] at H
                    have c37b0 : decide ((rd (rd_L1 t248 x10_2) x12_3) < (t245.length : Int)) = true := decide_eq_true c37
                    clear c37
                    by_cases c38 : ((rd_L1 t248 x10_2).length : Int) = 0
                    ·rw [if_pos c38] at H
                     exact absurd H (by simp)
                    ·rw [if_neg c38] at H
                     have c38b0 : (((rd_L1 t248 x10_2).length : Int) == 0) = false := beq_eq_false_iff_ne.mpr c38
                     have c38b1 : (((rd_L1 t248 x10_2).length : Int) != 0) = true := bne_iff_ne.mpr c38
                     have c38b2 : ¬ ((rd_L1 t248 x10_2) = []) := fun h_ => c38 (by rw [h_]; rfl)
                     obtain ⟨ji39, hji39⟩ : ∃ j_ : Int, (Int.tmod (wrap64 (x12_3 + 1)) ((rd_L1 t248 x10_2).length : Int)) = j_ := ⟨_, rfl⟩
                     replace H : (if 0 ≤ (ji39) then (if (ji39) < ((rd_L1 t248 x10_2).length : Int) then (if (rd t245 (rd (rd_L1 t248 x10_2) x12_3)) = (rd (rd_L1 t248 x10_2) (ji39)) then (if x8_3.length < 17592186044416 then (laws_FnCycles.l1 k3 t245 t248 (x8_3 ++ [rd (rd_L1 t248 x10_2) x12_3]) (rd (rd_L1 t248 x10_2) 0) x10_2 (rd_L1 t248 x10_2) (wrap64 (x12_3 + 1))) else (none)) else (some false)) else (none)) else (none)) = some r := by first | (rw [hji39] at H; exact H) | (simp only [hji39] at H ⊢; exact H)
                     (try rw [hji39] at A32)
                     by_cases c40 : 0 ≤ (ji39)
                     ·rw [if_pos c40] at H
                      have c40b0 : decide (0 ≤ (ji39)) = true := decide_eq_true c40
                      clear c40
                      by_cases c41 : (ji39) < ((rd_L1 t248 x10_2).length : Int)
                      ·rw [if_pos c41] at H
                       have c41b0 : decide ((ji39) < ((rd_L1 t248 x10_2).length : Int)) = true := decide_eq_true c41
                       clear c41
                       by_cases c42 : (rd t245 (rd (rd_L1 t248 x10_2) x12_3)) = (rd (rd_L1 t248 x10_2) (ji39))
                       ·rw [if_pos c42] at H
                        have c42b0 : ((rd t245 (rd (rd_L1 t248 x10_2) x12_3)) == (rd (rd_L1 t248 x10_2) (ji39))) = true := beq_iff_eq.mpr c42
                        have c42b1 : ((rd t245 (rd (rd_L1 t248 x10_2) x12_3)) != (rd (rd_L1 t248 x10_2) (ji39))) = false := bne_eq_false_iff_eq.mpr c42
                        clear c42
                        by_cases c43 : x8_3.length < 17592186044416
                        ·rw [if_pos c43] at H
                         have LMc43 := Aside0.mk c43
                         clear c43
                         obtain ⟨y272, hy272⟩ : ∃ y_ : List Int, y_ = (x8_3 ++ [rd (rd_L1 t248 x10_2) x12_3]) := ⟨_, rfl⟩
                         replace H : (laws_FnCycles.l1 k3 t245 t248 y272 (rd (rd_L1 t248 x10_2) 0) x10_2 (rd_L1 t248 x10_2) (wrap64 (x12_3 + 1))) = some r := by first | (rw [hy272]; with_reducible exact H) | (have H2_ := (Option.bind_some _ _).symm.trans H; rw [hy272]; with_reducible exact H2_) | (have H2_ := (Option.bind_some _ _).symm.trans H; with_reducible exact H2_) | with_reducible exact H | (rw [hy272]; exact H) | exact H
                         have Ny272 := Aside0.mk hy272
                         clear hy272
                         have H' := Aside0.mk H
                         clear H
                         try go_wp2
                         have n0_ := Aside0.mk (Kd.R_drew HO_3.out)
                         replace HO_9 := Aside0.mk (Kd.R_drew HO_9.out)
                         have n1_ := Aside0.mk (Kd.S_drew HO_4.out)
                         have n2_ := Aside0.mk (Kd.R_drew HO_8.out)
                         have n3_ := Aside0.mk (below_drew1 HB.out)
                         clear HO_3
                         clear HO_4
                         clear HO_8
                         clear HB
                         have HO_3 := n0_
                         have HO_4 := n1_
                         have HO_8 := n2_
                         have HB := n3_
                         try (replace HR261_0 := Aside0.mk (Kd.C_drew HR261_0.out))
                         clear n0_ n1_ n2_ n3_
                         have p264 : 0 ≤ (x12_3 : Int) := dT
                         have q264 : x12_3 < ((rd_L1 t248 x10_2).length : Int) := dT
                         obtain ⟨ad264, e264, hx264_0⟩ := Kd.at_int HR261_0.out x12_3 p264 q264
                         have hw264_0 := hx264_0
                         obtain rfl : ad262 = ad264 := (by injection e264)
                         try replace hx264_0 := (HB.out.cell (World.block_lt_of_cell? w _ hx264_0)).trans hx264_0
                         replace p264 := eq_true p264
                         replace q264 := eq_true q264
                         obtain ⟨Ao45, co45, eo45⟩ := Kd.R_slice HO_8.out
                         (first | subst eo45 | (injection eo45 with f1_ f2_ f3_; have f4_ := f1_.symm; have f5_ := f3_.symm; clear f1_ f2_ f3_; subst f4_; subst f5_))
                         have p266 : 0 ≤ (x12_3 : Int) := dT
                         have q266 : x12_3 < ((rd_L1 t248 x10_2).length : Int) := dT
                         obtain ⟨ad266, e266, hx266_0⟩ := Kd.at_int HR261_0.out x12_3 p266 q266
                         have hw266_0 := hx266_0
                         obtain rfl : ad262 = ad266 := (by injection e266)
                         try replace hx266_0 := (HB.out.cell (World.block_lt_of_cell? w _ hx266_0)).trans hx266_0
                         replace p266 := eq_true p266
                         replace q266 := eq_true q266
                         have p267 : 0 ≤ (0 : Int) := (by omega)
                         have q267 : 0 < ((rd_L1 t248 x10_2).length : Int) := dT
                         obtain ⟨ad267, e267, hx267_0⟩ := Kd.at_int HR261_0.out 0 p267 q267
                         have hw267_0 := hx267_0
                         (try rw [show ((0 : Int)).toNat = 0 from rfl] at hw267_0)
                         (try rw [show 0 * 1 = 0 from rfl] at hw267_0)
                         (try rw [Addr.add_zero'] at hw267_0)
                         obtain rfl : ad262 = ad267 := (by injection e267)
                         have qi267 : (0 < (rd_L1 t248 x10_2).length) = True := eq_true (by omega)
                         (try rw [show ((0 : Int)).toNat = 0 from rfl] at hx267_0)
                         (try rw [Addr.add_zero'] at hx267_0)
                         try replace hx267_0 := (HB.out.cell (World.block_lt_of_cell? w _ hx267_0)).trans hx267_0
                         replace p267 := eq_true p267
                         replace q267 := eq_true q267
                         have p268 : 0 ≤ (x12_3 : Int) := dT
                         have q268 : x12_3 < ((rd_L1 t248 x10_2).length : Int) := dT
                         obtain ⟨ad268, e268, hx268_0⟩ := Kd.at_int HR261_0.out x12_3 p268 q268
                         have hw268_0 := hx268_0
                         obtain rfl : ad262 = ad268 := (by injection e268)
                         try replace hx268_0 := (HB.out.cell (World.block_lt_of_cell? w _ hx268_0)).trans hx268_0
                         replace p268 := eq_true p268
                         replace q268 := eq_true q268
                         have p269 : 0 ≤ ((rd (rd_L1 t248 x10_2) x12_3) : Int) := dT
                         have q269 : (rd (rd_L1 t248 x10_2) x12_3) < (t245.length : Int) := dT
                         obtain ⟨ad269, e269, hx269_0⟩ := Kd.at_int (Kd.R_reads' HO_3.out).2.2 (rd (rd_L1 t248 x10_2) x12_3) p269 q269
                         cases e269
                         replace p269 := eq_true p269
                         replace q269 := eq_true q269
                         have p270 : 0 ≤ ((ji39) : Int) := dT
                         have q270 : (ji39) < ((rd_L1 t248 x10_2).length : Int) := dT
                         obtain ⟨ad270, e270, hx270_0⟩ := Kd.at_int HR261_0.out (ji39) p270 q270
                         have hw270_0 := hx270_0
                         obtain rfl : ad262 = ad270 := (by injection e270)
                         try replace hx270_0 := (HB.out.cell (World.block_lt_of_cell? w _ hx270_0)).trans hx270_0
                         replace p270 := eq_true p270
                         replace q270 := eq_true q270
                         refine start_ (n := 34) (S := fun w' => w'.cell? (ad262.add (x12_3).toNat) = some (.int .i64 (rd (rd_L1 t248 x10_2) x12_3)) ∧ w'.cell? (ad262.add (x12_3).toNat) = some (.int .i64 (rd (rd_L1 t248 x10_2) x12_3)) ∧ w'.cell? ad262 = some (.int .i64 (rd (rd_L1 t248 x10_2) 0)) ∧ w'.cell? (ad262.add (x12_3).toNat) = some (.int .i64 (rd (rd_L1 t248 x10_2) x12_3)) ∧ w'.cell? (ad269.add ((rd (rd_L1 t248 x10_2) x12_3)).toNat) = some (.int .i64 (rd t245 (rd (rd_L1 t248 x10_2) x12_3))) ∧ w'.cell? (ad262.add ((ji39)).toNat) = some (.int .i64 (rd (rd_L1 t248 x10_2) (ji39)))) (ds := []) #[false, false, false, false, false, false, false, false, false, false, false, false, false, false, false, false, false, false, false, false, false, false, false, false, false, false, false, false, false, false, false, false, false, false] (by kernel_rfl) rfl rfl ⟨hw264_0, hw266_0, hw267_0, hw268_0, hx269_0, hw270_0⟩ (fun hHeld => ?_); refine with_tabW laws_FnCycles.tab20 laws_FnCycles.bits20 (fun HT_ HW_ => ?_)
                         generalize wr.drew = w44 at HO_3 HO_9 HR261_0 HO_4 HO_8 HB hw264_0 hw266_0 hw267_0 hw268_0 hw270_0 hx264_0 hx266_0 hx267_0 hx268_0 hx269_0 hx270_0 hHeld ⊢
                         refine pure_ (i := 0) (N := some 74) (v := ?_) (a' := ?_) #[true, false, false, false, false, false, false, false, false, false, false, false, false, false, false, false, false, false, false, false, false, false, false, false, false, false, false, false, false, false, false, false, false, false] rfl rfl (any_of HT_.out (by kernel_rfl)) (fun _ _ _ h => h) (Or.inl ⟨by rfl, ?_⟩) ?_ ?_
                         rotate_left
                         ·intro w'
                          go_simp
                          with_reducible rfl
                         rotate_left
                         ·simp only [Act.put, List.setIfInBounds_toArray, List.set_cons_zero, List.set_cons_succ, i64_w, i32_w]
                          rfl
                         refine pure_ (i := 1) (N := some 75) (v := ?_) (a' := ?_) #[true, true, false, false, false, false, false, false, false, false, false, false, false, false, false, false, false, false, false, false, false, false, false, false, false, false, false, false, false, false, false, false, false, false] rfl rfl (any_of HT_.out (by kernel_rfl)) (fun _ _ _ h => h) (Or.inl ⟨by rfl, ?_⟩) ?_ ?_
                         rotate_left
                         ·intro w'
                          go_simp
                          with_reducible rfl
                         rotate_left
                         ·simp only [Act.put, List.setIfInBounds_toArray, List.set_cons_zero, List.set_cons_succ, i64_w, i32_w]
                          rfl
                         refine pure_ (i := 2) (N := some 76) (v := ?_) (a' := ?_) #[true, true, true, false, false, false, false, false, false, false, false, false, false, false, false, false, false, false, false, false, false, false, false, false, false, false, false, false, false, false, false, false, false, false] rfl rfl (any_of HT_.out (by kernel_rfl)) (fun _ _ _ h => h) (Or.inl ⟨by rfl, ?_⟩) ?_ ?_
                         rotate_left
                         ·intro w'
                          go_simp
                          with_reducible rfl
                         rotate_left
                         ·simp only [Act.put, List.setIfInBounds_toArray, List.set_cons_zero, List.set_cons_succ, i64_w, i32_w]
                          rfl
                         refine pure_ (i := 3) (N := some 77) (v := ?_) (a' := ?_) #[true, true, true, true, false, false, false, false, false, false, false, false, false, false, false, false, false, false, false, false, false, false, false, false, false, false, false, false, false, false, false, false, false, false] rfl rfl (any_of HT_.out (by kernel_rfl)) (fun _ _ _ h => h) (Or.inl ⟨by rfl, ?_⟩) ?_ ?_
                         rotate_left
                         ·intro w'
                          go_simp
                          with_reducible rfl
                         rotate_left
                         ·simp only [Act.put, List.setIfInBounds_toArray, List.set_cons_zero, List.set_cons_succ, i64_w, i32_w]
                          rfl
                         refine take_ (i := 4) (N := some 78) (v := ?_) (a' := ?_) #[true, true, true, true, true, false, false, false, false, false, false, false, false, false, false, false, false, false, false, false, false, false, false, false, false, false, false, false, false, false, false, false, false, false] rfl rfl (take_ofW HT_.out HW_.out (by kernel_rfl)) (fun _ _ _ h => h) (Or.inl ⟨by rfl, ?_⟩) hHeld ?_ ?_
                         rotate_left
                         ·rintro w' ⟨s0, s1, s2, s3, s4, s5⟩
                          go_simp
                          with_reducible rfl
                         rotate_left
                         ·simp only [Act.put, List.setIfInBounds_toArray, List.set_cons_zero, List.set_cons_succ, i64_w, i32_w]
                          rfl
                         refine one_ (i := 5) (N := some 79) #[true, true, true, true, true, true, false, false, false, false, false, false, false, false, false, false, false, false, false, false, false, false, false, false, false, false, false, false, false, false, false, false, false, false] rfl rfl (one_of HT_.out (by kernel_rfl)) (by decide) (fun K hK => ?_)
                         refine goes_ Try.func18 (by kernel_rfl) rfl #[.slice Ao45 x8_3.length co45, .int .i64 (rd (rd_L1 t248 x10_2) x12_3)] (by rfl) rfl rfl (by (try simp only [List.map_toArray, List.map_cons, List.map_nil]); first | done | rfl | (simp only [List.length_drop, List.length_take]; rfl)) ?_
                         with_reducible refine (laws_hasInt.calls k3 _ _ x8_3 (rd (rd_L1 t248 x10_2) x12_3) false _ ?side1 ?side2 A32.out).mono ?_
                         (case side1 => exact cP (Kd.R_reads' HO_8.out).2.2)
                         (case side2 => exact (Kd.R_reads' HO_8.out).2.1)
                         rintro e w' ⟨rfl, ⟨nd, rfl⟩⟩
                         refine ⟨_, rfl, ?_⟩
                         refine hK.out _ _ ⟨hHeld.1, hHeld.2.1, hHeld.2.2.1, hHeld.2.2.2.1, hHeld.2.2.2.2.1, hHeld.2.2.2.2.2⟩ (fun hHeld => ?_)
                         clear hK K
                         refine norm_ (a' := ?_) ?_ ?_
                         rotate_left
                         ·show Act.put _ (some 79) _ = _
                          simp only [Act.put, List.setIfInBounds_toArray, List.set_cons_zero, List.set_cons_succ, i64_w, i32_w]
                          rfl
                         refine pure_ (i := 6) (N := some 80) (v := ?_) (a' := ?_) #[true, true, true, true, true, true, true, false, false, false, false, false, false, false, false, false, false, false, false, false, false, false, false, false, false, false, false, false, false, false, false, false, false, false] rfl rfl (any_of HT_.out (by kernel_rfl)) (fun _ _ _ h => h) (Or.inl ⟨by rfl, ?_⟩) ?_ ?_
                         rotate_left
                         ·intro w'
                          go_simp
                          with_reducible rfl
                         rotate_left
                         ·simp only [Act.put, List.setIfInBounds_toArray, List.set_cons_zero, List.set_cons_succ, i64_w, i32_w]
                          rfl
                         refine pure_ (i := 7) (N := some 81) (v := ?_) (a' := ?_) #[true, true, true, true, true, true, true, true, false, false, false, false, false, false, false, false, false, false, false, false, false, false, false, false, false, false, false, false, false, false, false, false, false, false] rfl rfl (any_of HT_.out (by kernel_rfl)) (fun _ _ _ h => h) (Or.inl ⟨by rfl, ?_⟩) ?_ ?_
                         rotate_left
                         ·intro w'
                          go_simp
                          with_reducible rfl
                         rotate_left
                         ·simp only [Act.put, List.setIfInBounds_toArray, List.set_cons_zero, List.set_cons_succ, i64_w, i32_w]
                          rfl
                         refine pure_ (i := 8) (N := some 82) (v := ?_) (a' := ?_) #[true, true, true, true, true, true, true, true, true, false, false, false, false, false, false, false, false, false, false, false, false, false, false, false, false, false, false, false, false, false, false, false, false, false] rfl rfl (any_of HT_.out (by kernel_rfl)) (fun _ _ _ h => h) (Or.inl ⟨by rfl, ?_⟩) ?_ ?_
                         rotate_left
                         ·intro w'
                          go_simp
                          with_reducible rfl
                         rotate_left
                         ·simp only [Act.put, List.setIfInBounds_toArray, List.set_cons_zero, List.set_cons_succ, i64_w, i32_w]
                          rfl
                         refine pure_ (i := 9) (N := some 83) (v := ?_) (a' := ?_) #[true, true, true, true, true, true, true, true, true, true, false, false, false, false, false, false, false, false, false, false, false, false, false, false, false, false, false, false, false, false, false, false, false, false] rfl rfl (any_of HT_.out (by kernel_rfl)) (fun _ _ _ h => h) (Or.inl ⟨by rfl, ?_⟩) ?_ ?_
                         rotate_left
                         ·intro w'
                          go_simp
                          with_reducible rfl
                         rotate_left
                         ·simp only [Act.put, List.setIfInBounds_toArray, List.set_cons_zero, List.set_cons_succ, i64_w, i32_w]
                          rfl
                         refine pure_ (i := 11) (N := some 85) (v := ?_) (a' := ?_) #[true, true, true, true, true, true, true, true, true, true, false, true, false, false, false, false, false, false, false, false, false, false, false, false, false, false, false, false, false, false, false, false, false, false] rfl rfl (any_of HT_.out (by kernel_rfl)) (fun _ _ _ h => h) (Or.inl ⟨by rfl, ?_⟩) ?_ ?_
                         rotate_left
                         ·intro w'
                          go_simp
                          with_reducible rfl
                         rotate_left
                         ·simp only [Act.put, List.setIfInBounds_toArray, List.set_cons_zero, List.set_cons_succ, i64_w, i32_w]
                          rfl
                         refine pure_ (i := 12) (N := some 86) (v := ?_) (a' := ?_) #[true, true, true, true, true, true, true, true, true, true, false, true, true, false, false, false, false, false, false, false, false, false, false, false, false, false, false, false, false, false, false, false, false, false] rfl rfl (any_of HT_.out (by kernel_rfl)) (fun _ _ _ h => h) (Or.inl ⟨by rfl, ?_⟩) ?_ ?_
                         rotate_left
                         ·intro w'
                          go_simp
                          with_reducible rfl
                         rotate_left
                         ·simp only [Act.put, List.setIfInBounds_toArray, List.set_cons_zero, List.set_cons_succ, i64_w, i32_w]
                          rfl
                         refine take_ (i := 10) (N := some 84) (v := ?_) (a' := ?_) #[true, true, true, true, true, true, true, true, true, true, true, true, true, false, false, false, false, false, false, false, false, false, false, false, false, false, false, false, false, false, false, false, false, false] rfl rfl (take_ofW HT_.out HW_.out (by kernel_rfl)) (fun _ _ _ h => h) (Or.inl ⟨by rfl, ?_⟩) hHeld ?_ ?_
                         rotate_left
                         ·rintro w' ⟨s0, s1, s2, s3, s4, s5⟩
                          go_simp
                          with_reducible rfl
                         rotate_left
                         ·simp only [Act.put, List.setIfInBounds_toArray, List.set_cons_zero, List.set_cons_succ, i64_w, i32_w]
                          rfl
                         refine take_ (i := 13) (N := some 87) (v := ?_) (a' := ?_) #[true, true, true, true, true, true, true, true, true, true, true, true, true, true, false, false, false, false, false, false, false, false, false, false, false, false, false, false, false, false, false, false, false, false] rfl rfl (take_ofW HT_.out HW_.out (by kernel_rfl)) (fun _ _ _ h => h) (Or.inl ⟨by rfl, ?_⟩) hHeld ?_ ?_
                         rotate_left
                         ·rintro w' ⟨s0, s1, s2, s3, s4, s5⟩
                          go_simp
                          with_reducible rfl
                         rotate_left
                         ·simp only [Act.put, List.setIfInBounds_toArray, List.set_cons_zero, List.set_cons_succ, i64_w, i32_w]
                          rfl
                         refine pure_ (i := 14) (N := some 88) (v := ?_) (a' := ?_) #[true, true, true, true, true, true, true, true, true, true, true, true, true, true, true, false, false, false, false, false, false, false, false, false, false, false, false, false, false, false, false, false, false, false] rfl rfl (any_of HT_.out (by kernel_rfl)) (fun _ _ _ h => h) (Or.inl ⟨by rfl, ?_⟩) ?_ ?_
                         rotate_left
                         ·intro w'
                          go_simp
                          with_reducible rfl
                         rotate_left
                         ·simp only [Act.put, List.setIfInBounds_toArray, List.set_cons_zero, List.set_cons_succ, i64_w, i32_w]
                          rfl
                         refine pure_ (i := 15) (N := some 89) (v := ?_) (a' := ?_) #[true, true, true, true, true, true, true, true, true, true, true, true, true, true, true, true, false, false, false, false, false, false, false, false, false, false, false, false, false, false, false, false, false, false] rfl rfl (any_of HT_.out (by kernel_rfl)) (fun _ _ _ h => h) (Or.inl ⟨by rfl, ?_⟩) ?_ ?_
                         rotate_left
                         ·intro w'
                          go_simp
                          with_reducible rfl
                         rotate_left
                         ·simp only [Act.put, List.setIfInBounds_toArray, List.set_cons_zero, List.set_cons_succ, i64_w, i32_w]
                          rfl
                         refine pure_ (i := 16) (N := some 90) (v := ?_) (a' := ?_) #[true, true, true, true, true, true, true, true, true, true, true, true, true, true, true, true, true, false, false, false, false, false, false, false, false, false, false, false, false, false, false, false, false, false] rfl rfl (any_of HT_.out (by kernel_rfl)) (fun _ _ _ h => h) (Or.inl ⟨by rfl, ?_⟩) ?_ ?_
                         rotate_left
                         ·intro w'
                          go_simp
                          with_reducible rfl
                         rotate_left
                         ·simp only [Act.put, List.setIfInBounds_toArray, List.set_cons_zero, List.set_cons_succ, i64_w, i32_w]
                          rfl
                         refine pure_ (i := 17) (N := some 91) (v := ?_) (a' := ?_) #[true, true, true, true, true, true, true, true, true, true, true, true, true, true, true, true, true, true, false, false, false, false, false, false, false, false, false, false, false, false, false, false, false, false] rfl rfl (any_of HT_.out (by kernel_rfl)) (fun _ _ _ h => h) (Or.inl ⟨by rfl, ?_⟩) ?_ ?_
                         rotate_left
                         ·intro w'
                          go_simp
                          with_reducible rfl
                         rotate_left
                         ·simp only [Act.put, List.setIfInBounds_toArray, List.set_cons_zero, List.set_cons_succ, i64_w, i32_w]
                          rfl
                         refine pure_ (i := 18) (N := some 92) (v := ?_) (a' := ?_) #[true, true, true, true, true, true, true, true, true, true, true, true, true, true, true, true, true, true, true, false, false, false, false, false, false, false, false, false, false, false, false, false, false, false] rfl rfl (any_of HT_.out (by kernel_rfl)) (fun _ _ _ h => h) (Or.inl ⟨by rfl, ?_⟩) ?_ ?_
                         rotate_left
                         ·intro w'
                          go_simp
                          with_reducible rfl
                         rotate_left
                         ·simp only [Act.put, List.setIfInBounds_toArray, List.set_cons_zero, List.set_cons_succ, i64_w, i32_w]
                          rfl
                         refine pure_ (i := 19) (N := some 93) (v := ?_) (a' := ?_) #[true, true, true, true, true, true, true, true, true, true, true, true, true, true, true, true, true, true, true, true, false, false, false, false, false, false, false, false, false, false, false, false, false, false] rfl rfl (any_of HT_.out (by kernel_rfl)) (fun _ _ _ h => h) (Or.inl ⟨by rfl, ?_⟩) ?_ ?_
                         rotate_left
                         ·intro w'
                          go_simp
                          with_reducible rfl
                         rotate_left
                         ·simp only [Act.put, List.setIfInBounds_toArray, List.set_cons_zero, List.set_cons_succ, i64_w, i32_w]
                          rfl
                         refine pure_ (i := 20) (N := some 94) (v := ?_) (a' := ?_) #[true, true, true, true, true, true, true, true, true, true, true, true, true, true, true, true, true, true, true, true, true, false, false, false, false, false, false, false, false, false, false, false, false, false] rfl rfl (any_of HT_.out (by kernel_rfl)) (fun _ _ _ h => h) (Or.inl ⟨by rfl, ?_⟩) ?_ ?_
                         rotate_left
                         ·intro w'
                          go_simp
                          with_reducible rfl
                         rotate_left
                         ·simp only [Act.put, List.setIfInBounds_toArray, List.set_cons_zero, List.set_cons_succ, i64_w, i32_w]
                          rfl
                         refine pure_ (i := 24) (N := some 98) (v := ?_) (a' := ?_) #[true, true, true, true, true, true, true, true, true, true, true, true, true, true, true, true, true, true, true, true, true, false, false, false, true, false, false, false, false, false, false, false, false, false] rfl rfl (any_of HT_.out (by kernel_rfl)) (fun _ _ _ h => h) (Or.inl ⟨by rfl, ?_⟩) ?_ ?_
                         rotate_left
                         ·intro w'
                          go_simp
                          with_reducible rfl
                         rotate_left
                         ·simp only [Act.put, List.setIfInBounds_toArray, List.set_cons_zero, List.set_cons_succ, i64_w, i32_w]
                          rfl
                         refine pure_ (i := 25) (N := some 99) (v := ?_) (a' := ?_) #[true, true, true, true, true, true, true, true, true, true, true, true, true, true, true, true, true, true, true, true, true, false, false, false, true, true, false, false, false, false, false, false, false, false] rfl rfl (any_of HT_.out (by kernel_rfl)) (fun _ _ _ h => h) (Or.inl ⟨by rfl, ?_⟩) ?_ ?_
                         rotate_left
                         ·intro w'
                          go_simp
                          with_reducible rfl
                         rotate_left
                         ·simp only [Act.put, List.setIfInBounds_toArray, List.set_cons_zero, List.set_cons_succ, i64_w, i32_w]
                          rfl
                         refine pure_ (i := 26) (N := some 100) (v := ?_) (a' := ?_) #[true, true, true, true, true, true, true, true, true, true, true, true, true, true, true, true, true, true, true, true, true, false, false, false, true, true, true, false, false, false, false, false, false, false] rfl rfl (any_of HT_.out (by kernel_rfl)) (fun _ _ _ h => h) (Or.inl ⟨by rfl, ?_⟩) ?_ ?_
                         rotate_left
                         ·intro w'
                          go_simp
                          with_reducible rfl
                         rotate_left
                         ·simp only [Act.put, List.setIfInBounds_toArray, List.set_cons_zero, List.set_cons_succ, i64_w, i32_w]
                          rfl
                         refine pure_ (i := 27) (N := some 101) (v := ?_) (a' := ?_) #[true, true, true, true, true, true, true, true, true, true, true, true, true, true, true, true, true, true, true, true, true, false, false, false, true, true, true, true, false, false, false, false, false, false] rfl rfl (any_of HT_.out (by kernel_rfl)) (fun _ _ _ h => h) (Or.inl ⟨by rfl, ?_⟩) ?_ ?_
                         rotate_left
                         ·intro w'
                          go_simp
                          with_reducible rfl
                         rotate_left
                         ·simp only [Act.put, List.setIfInBounds_toArray, List.set_cons_zero, List.set_cons_succ, i64_w, i32_w]
                          rfl
                         refine pure_ (i := 28) (N := some 102) (v := ?_) (a' := ?_) #[true, true, true, true, true, true, true, true, true, true, true, true, true, true, true, true, true, true, true, true, true, false, false, false, true, true, true, true, true, false, false, false, false, false] rfl rfl (any_of HT_.out (by kernel_rfl)) (fun _ _ _ h => h) (Or.inl ⟨by rfl, ?_⟩) ?_ ?_
                         rotate_left
                         ·intro w'
                          go_simp
                          with_reducible rfl
                         rotate_left
                         ·simp only [Act.put, List.setIfInBounds_toArray, List.set_cons_zero, List.set_cons_succ, i64_w, i32_w]
                          rfl
                         refine pure_ (i := 29) (N := some 103) (v := ?_) (a' := ?_) #[true, true, true, true, true, true, true, true, true, true, true, true, true, true, true, true, true, true, true, true, true, false, false, false, true, true, true, true, true, true, false, false, false, false] rfl rfl (any_of HT_.out (by kernel_rfl)) (fun _ _ _ h => h) (Or.inl ⟨by rfl, ?_⟩) ?_ ?_
                         rotate_left
                         ·intro w'
                          go_simp
                          with_reducible rfl
                         rotate_left
                         ·simp only [Act.put, List.setIfInBounds_toArray, List.set_cons_zero, List.set_cons_succ, i64_w, i32_w]
                          rfl
                         refine pure_ (i := 30) (N := some 104) (v := ?_) (a' := ?_) #[true, true, true, true, true, true, true, true, true, true, true, true, true, true, true, true, true, true, true, true, true, false, false, false, true, true, true, true, true, true, true, false, false, false] rfl rfl (any_of HT_.out (by kernel_rfl)) (fun _ _ _ h => h) (Or.inl ⟨by rfl, ?_⟩) ?_ ?_
                         rotate_left
                         ·intro w'
                          go_simp
                          with_reducible rfl
                         rotate_left
                         ·simp only [Act.put, List.setIfInBounds_toArray, List.set_cons_zero, List.set_cons_succ, i64_w, i32_w]
                          rfl
                         refine take_ (i := 21) (N := some 95) (v := ?_) (a' := ?_) #[true, true, true, true, true, true, true, true, true, true, true, true, true, true, true, true, true, true, true, true, true, true, false, false, true, true, true, true, true, true, true, false, false, false] rfl rfl (take_ofW HT_.out HW_.out (by kernel_rfl)) (fun _ _ _ h => h) (Or.inl ⟨by rfl, ?_⟩) hHeld ?_ ?_
                         rotate_left
                         ·rintro w' ⟨s0, s1, s2, s3, s4, s5⟩
                          go_simp
                          with_reducible rfl
                         rotate_left
                         ·simp only [Act.put, List.setIfInBounds_toArray, List.set_cons_zero, List.set_cons_succ, i64_w, i32_w]
                          rfl
                         refine pure_ (i := 22) (N := some 96) (v := ?_) (a' := ?_) #[true, true, true, true, true, true, true, true, true, true, true, true, true, true, true, true, true, true, true, true, true, true, true, false, true, true, true, true, true, true, true, false, false, false] rfl rfl (any_of HT_.out (by kernel_rfl)) (fun _ _ _ h => h) (Or.inl ⟨by rfl, ?_⟩) ?_ ?_
                         rotate_left
                         ·intro w'
                          go_simp
                          with_reducible rfl
                         rotate_left
                         ·simp only [Act.put, List.setIfInBounds_toArray, List.set_cons_zero, List.set_cons_succ, i64_w, i32_w]
                          rfl
                         refine take_ (i := 23) (N := some 97) (v := ?_) (a' := ?_) #[true, true, true, true, true, true, true, true, true, true, true, true, true, true, true, true, true, true, true, true, true, true, true, true, true, true, true, true, true, true, true, false, false, false] rfl rfl (take_ofW HT_.out HW_.out (by kernel_rfl)) (fun _ _ _ h => h) (Or.inl ⟨by rfl, ?_⟩) hHeld ?_ ?_
                         rotate_left
                         ·rintro w' ⟨s0, s1, s2, s3, s4, s5⟩
                          go_simp
                          with_reducible rfl
                         rotate_left
                         ·simp only [Act.put, List.setIfInBounds_toArray, List.set_cons_zero, List.set_cons_succ, i64_w, i32_w]
                          rfl
                         refine take_ (i := 31) (N := some 105) (v := ?_) (a' := ?_) #[true, true, true, true, true, true, true, true, true, true, true, true, true, true, true, true, true, true, true, true, true, true, true, true, true, true, true, true, true, true, true, true, false, false] rfl rfl (take_ofW HT_.out HW_.out (by kernel_rfl)) (fun _ _ _ h => h) (Or.inl ⟨by rfl, ?_⟩) hHeld ?_ ?_
                         rotate_left
                         ·rintro w' ⟨s0, s1, s2, s3, s4, s5⟩
                          go_simp
                          with_reducible rfl
                         rotate_left
                         ·simp only [Act.put, List.setIfInBounds_toArray, List.set_cons_zero, List.set_cons_succ, i64_w, i32_w]
                          rfl
                         refine pure_ (i := 32) (N := some 106) (v := ?_) (a' := ?_) #[true, true, true, true, true, true, true, true, true, true, true, true, true, true, true, true, true, true, true, true, true, true, true, true, true, true, true, true, true, true, true, true, true, false] rfl rfl (any_of HT_.out (by kernel_rfl)) (fun _ _ _ h => h) (Or.inl ⟨by rfl, ?_⟩) ?_ ?_
                         rotate_left
                         ·intro w'
                          go_simp
                          with_reducible rfl
                         rotate_left
                         ·simp only [Act.put, List.setIfInBounds_toArray, List.set_cons_zero, List.set_cons_succ, i64_w, i32_w]
                          rfl
                         refine pure_ (i := 33) (N := some 107) (v := ?_) (a' := ?_) #[true, true, true, true, true, true, true, true, true, true, true, true, true, true, true, true, true, true, true, true, true, true, true, true, true, true, true, true, true, true, true, true, true, true] rfl rfl (any_of HT_.out (by kernel_rfl)) (fun _ _ _ h => h) (Or.inl ⟨by rfl, ?_⟩) ?_ ?_
                         rotate_left
                         ·intro w'
                          go_simp
                          with_reducible rfl
                         rotate_left
                         ·simp only [Act.put, List.setIfInBounds_toArray, List.set_cons_zero, List.set_cons_succ, i64_w, i32_w]
                          rfl
                         refine done_ (done_of HT_.out (by kernel_rfl)) ?_
                         have p271 : 0 ≤ (x12_3 : Int) := dT
                         have q271 : x12_3 < ((rd_L1 t248 x10_2).length : Int) := dT
                         obtain ⟨ad271, e271, hx271_0⟩ := Kd.at_int HR261_0.out x12_3 p271 q271
                         obtain rfl : ad262 = ad271 := (by injection e271)
                         try replace hx271_0 := (HB.out.cell (World.block_lt_of_cell? w _ hx271_0)).trans hx271_0
                         replace p271 := eq_true p271
                         replace q271 := eq_true q271
                         try go_wp2_with (first | ((with_reducible refine gate_builtin (b := .append) (xs := #[.tmp 108, .tmp 113]) rfl ?_); (try (refine gate_guard (by rfl) ?_; dsimp only)); at_builtin; refine Kd.R_append (Kd.int .i64) (w0 := w) w.heap.size rfl (.tmp 108) (.tmp 113) 22 3 (.int .i64 0) 8 rfl Try.underlying22 info3 rfl (by decide) (by omega) (.slice Ao45 x8_3.length co45) x8_3 (rd (rd_L1 t248 x10_2) x12_3) [.int .i64 (rd (rd_L1 t248 x10_2) x12_3)] (fun k_ => some k_ ≠ (.slice (some ad269) t245.length co8 : Value).ownBlock) (fun _ => False) rfl rfl ?aP (fun _ hk => hk.elim) ?aF ?aO ?aB ?aS ?aL ?_; (case aP => exact rfl); (case aB => exact (bP HB)); (case aF => exact (fun k_ hk => Kd.fresh' (Kd.R_lt (rP HO_3)) k_ hk)); (case aO => exact (rP HO_8)); (case aS => exact (below_size (bP HB))); (case aL => have := LMc43.out; omega); intro v273 w46 ho hb hg hat; rw [← Ny272.out] at ho; replace HO_3 := Aside0.mk (Kd.R_after (ok := (fun _ => True)) (by (with_reducible repeat (first | apply Kd.R_alloc | apply Kd.R_drewN | apply Kd.R_drew)); exact Kd.R_mono HO_3.out (fun _ hk => ⟨trivial, hk⟩)) hg hat); replace HO_9 := Aside0.mk (Kd.R_after (ok := (fun _ => True)) (by (with_reducible repeat (first | apply Kd.R_alloc | apply Kd.R_drewN | apply Kd.R_drew)); exact Kd.R_mono HO_9.out (fun _ hk => ⟨trivial, hk⟩)) hg hat); replace HO_4 := Aside0.mk (Kd.S_after (ok := (fun k_ => some k_ ≠ (.slice (some ad269) t245.length co8 : Value).ownBlock)) (by (with_reducible repeat (first | apply Kd.S_alloc | apply Kd.S_drewN | apply Kd.S_drew)); exact HO_4.out) hg hat); replace HB := Aside0.mk (hb); have HO274 := Aside0.mk (ho); clear HO_8; clear ho hb hg hat))
                         go_roundg k3
                         case measure => have := HJ5.out; have := HK2.out; have := HK3.out; omega
                         case rel => exact ⟨(y272), (wrap64 (x12_3 + 1)), eS, H', ⟨by have := HJ5.out; have := HK2.out; have := HK3.out; omega⟩, ⟨by (with_reducible repeat (first | apply Kd.R_alloc | apply Kd.R_drewN | apply Kd.R_drew)); exact Kd.R_mono HO_3.out (fun _ hk => hk.2)⟩, ⟨by (with_reducible repeat (first | apply Kd.R_alloc | apply Kd.R_drewN | apply Kd.R_drew)); exact Kd.R_mono HO_9.out (fun _ hk => hk.2)⟩, ⟨by (with_reducible repeat (first | apply Kd.S_alloc | apply Kd.S_drewN | apply Kd.S_drew)); exact HO_4.out⟩, ⟨rP HO274⟩, ⟨bP HB⟩⟩
                        ·rw [if_neg c43] at H
                         exact absurd H (by simp)
                       ·rw [if_neg c42] at H
                        have c42b0 : ((rd t245 (rd (rd_L1 t248 x10_2) x12_3)) == (rd (rd_L1 t248 x10_2) (ji39))) = false := beq_eq_false_iff_ne.mpr c42
                        have c42b1 : ((rd t245 (rd (rd_L1 t248 x10_2) x12_3)) != (rd (rd_L1 t248 x10_2) (ji39))) = true := bne_iff_ne.mpr c42
                        exact absurd ((Option.some.inj H).trans hr_.out) (by decide)
                      ·rw [if_neg c41] at H
                       exact absurd H (by simp)
                     ·rw [if_neg c40] at H
                      exact absurd H (by simp)
                   ·rw [if_neg c37] at H
                    exact absurd H (by simp)
                  ·rw [if_neg c36] at H
                   exact absurd H (by simp)
                ·rw [if_neg c34] at H
                 exact absurd H (by simp)
              ·rw [if_neg c31] at H
               exact absurd H (by simp)
             ·rw [if_neg c30] at H
              have c30b0 : decide (x12_3 < ((rd_L1 t248 x10_2).length : Int)) = false := decide_eq_false c30
              clear c30
              have H' := Aside0.mk H
              clear H
              go_wp2
              go_roundg k3
              case measure => have := HJ5.out; have := HK2.out; have := HK3.out; omega
              case rel => exact ⟨(x8_3), ((rd (rd_L1 t248 x10_2) 0)), (wrap64 (x10_2 + 1)), eS, eS, H', ⟨by have := HJ5.out; have := HK2.out; have := HK3.out; omega⟩, ⟨rP HO_3⟩, ⟨by (with_reducible repeat (first | apply Kd.S_alloc | apply Kd.S_drewN | apply Kd.S_drew)); exact HO_4.out⟩, ⟨rP HO_8⟩, ⟨bP HB⟩⟩
         ·rw [if_neg c27] at H
          exact absurd H (by simp)
        ·rw [if_neg c26] at H
         exact absurd H (by simp)
       ·rw [if_neg c25] at H
        have c25b0 : decide (x10_2 < (t248.length : Int)) = false := decide_eq_false c25
        clear c25
        obtain rfl := Option.some.inj H
        obtain ⟨Ao47, co47, eo47⟩ := Kd.S_slice HO_4.out
        subst eo47
        obtain ⟨Ao48, co48, eo48⟩ := Kd.R_slice HO_8.out
        subst eo48
        go_wp2
        go_ret
        exact ⟨eR, bP HB⟩

/-- THE ONE PURE STATEMENT of laws_FnCycles: yours. -/
def laws_FnCycles.Pure : Prop := ∀ (l0 : List Int), l0.length ≤ maxLen → l0.length * 1 ≤ 140737488351232 → (∀ x ∈ l0, (Lit.int .u8 x).wf = true) → ∃ k, laws_FnCycles.f k l0 = some true
theorem laws_FnCycles.walk (P : laws_FnCycles.Pure) (a0 : Option Addr) (len0 cap0 : Nat) (z0 : List Int) (w : World) (w0 : (a0 = none ∧ len0 = 0 ∧ cap0 = 0 ∧ z0 = []) ∨ ∃ x, a0 = some x ∧ len0 ≤ cap0 ∧ cap0 ≤ maxLen ∧ z0.length = cap0 ∧ (∀ i, i < z0.length → w.cell? (x.add i) = some (.int .u8 (z0.getD i 0))) ∧ ∀ n ∈ z0, (Lit.int .u8 n).wf = true) (y0 : len0 * 1 ≤ 140737488351232) :
 Calls Try.prog 4 #[.slice a0 len0 cap0] w fun e w' => e = .returned (.bool true) ∧ Below w.heap.size w w' := by
 obtain ⟨l0, rfl, hr0, hm0, hw0, hc0⟩ := ReadsInt.ofRowC w0
 obtain ⟨k, h⟩ := P l0 hm0 y0 hw0
 refine (laws_FnCycles.calls k _ _ l0 true w (Kd.C_of_reads (d := (0 : Int)) (h1 := fun _ => rfl) hr0) hc0 ⟨rfl⟩ h).mono ?_
 rintro e w' ⟨rfl, hd⟩
 exact ⟨rfl, hd⟩

end Go.Proofs.Ytajmkjeiegdpcaa.F
