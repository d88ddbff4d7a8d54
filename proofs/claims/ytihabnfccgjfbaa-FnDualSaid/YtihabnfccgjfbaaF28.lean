/- Contracts: what these Go functions return. -/
import Derived.Test.YtihabnfccgjfbaaF0
import Derived.Test.YtihabnfccgjfbaaF16
import Derived.Test.YtihabnfccgjfbaaF22
import Derived.Test.YtihabnfccgjfbaaF23
import Derived.Test.YtihabnfccgjfbaaF24
import Derived.Test.YtihabnfccgjfbaaF25
import Derived.Test.YtihabnfccgjfbaaF27
namespace Go.Proofs.Ytihabnfccgjfbaa.F
open Go.RowKit Go.Proofs.YtihabnfccgjfbaaW.PrintWords Go.Proofs.YtihabnfccgjfbaaW.PrintLast Go.Proofs.YtihabnfccgjfbaaW.PrintMore
attribute [local go_sem] max2_int min2_int max_two min_two max_three min_three max_four min_four
set_option linter.unusedVariables false
set_option linter.unusedSimpArgs false

/-! ### laws_FnDual: function 5 -/
mutual
def laws_FnDual.j0 : Nat → List Int → List Int → Bool → Option (Bool)
 | 0, _, _, _ => none
 | k + 1, x0, x1, x30 => if x30 = true then (some true) else ((spec_DrawMapDual.f k x0).bind fun bt487 => ((impl_MapDual.f k bt487.1 bt487.2).bind fun bt494 => ((spec_MapDual.f k bt487.1 bt487.2).bind fun bt502 => (if (bt494.2.2 != bt502.2.2) = true then (laws_FnDual.j1 k x1 bt494.2.2 bt502.2.2 true bt487.1 bt487.2 bt494.1 bt494.2.1 bt502.1 bt502.2.1) else ((laws_sameMap.f k bt494.1 bt494.2.1 bt502.1 bt502.2.1).bind fun t510 => (if t510 = true then (laws_FnDual.j1 k x1 bt494.2.2 bt502.2.2 (!bt494.2.2) bt487.1 bt487.2 bt494.1 bt494.2.1 bt502.1 bt502.2.1) else (laws_FnDual.j1 k x1 bt494.2.2 bt502.2.2 true bt487.1 bt487.2 bt494.1 bt494.2.1 bt502.1 bt502.2.1)))))))
def laws_FnDual.j1 : Nat → List Int → Bool → Bool → Bool → List Int → List Int → List Int → List Int → List Int → List Int → Option (Bool)
 | 0, _, _, _, _, _, _, _, _, _, _ => none
 | k + 1, x1, x7, x9, x55, x494000, x494001, x502000, x502001, x510000, x510001 => if x55 = true then (if (x7 == x9) = true then ((laws_sameMap.f k x502000 x502001 x510000 x510001).bind fun t511 => (some t511)) else (some false)) else ((impl_MapDual.f k x502000 x502001).bind fun bt512 => ((impl_MapCounts.f k x494000 x494001).bind fun bt520 => ((impl_MapCounts.f k x502000 x502001).bind fun bt524 => ((laws_mixOf.f k (x494000.length : Int) (1 + ((x1.length : Int) % 5))).bind fun t528 => ((impl_MapRename.f k x502000 x502001 t528).bind fun bt531 => ((impl_MapRename.f k x494000 x494001 t528).bind fun bt539 => ((impl_MapDual.f k bt539.1 bt539.2.1).bind fun bt547 => (if bt512.2.2 = true then (if bt520.2 = true then (if bt524.2 = true then (if bt531.2.2 = true then (if bt539.2.2 = true then (if bt547.2.2 = true then ((laws_sameMap.f k bt512.1 bt512.2.1 x494000 x494001).bind fun t555 => (if t555 = true then (if 0 < (bt520.1.length : Int) then (if 2 < (bt524.1.length : Int) then (if (rd bt520.1 0) = (rd bt524.1 2) then (if 2 < (bt520.1.length : Int) then (if 0 < (bt524.1.length : Int) then (if (rd bt520.1 2) = (rd bt524.1 0) then (if 1 < (bt520.1.length : Int) then (if 1 < (bt524.1.length : Int) then (if (rd bt520.1 1) = (rd bt524.1 1) then ((laws_sameMap.f k bt531.1 bt531.2.1 bt547.1 bt547.2.1).bind fun t562 => (some t562)) else (some false)) else (none)) else (none)) else (some false)) else (none)) else (none)) else (some false)) else (none)) else (none)) else (some false))) else (some false)) else (some false)) else (some false)) else (some false)) else (some false)) else (some false)))))))))
end
def laws_FnDual.f (k : Nat) (l0 : List Int) (l1 : List Int) : Option (Bool) := if (l0.length : Int) > 1048576 then (laws_FnDual.j0 k l0 l1 true) else (laws_FnDual.j0 k l0 l1 (decide ((l1.length : Int) > 1048576)))
def laws_FnDual.T15 : Bool × List (List Nat × List Nat) := (true, [([], []), ([0], [0]), ([1], [1]), ([1, 2], [1, 2]), ([3, 1], [3]), ([4], [4]), ([4, 5], [4, 5]), ([6, 4], [6]), ([7], [7]), ([7, 8], [7, 8]), ([9, 7], [9]), ([10], [10]), ([10, 11], [10, 11]), ([12, 10], [12]), ([13], [13]), ([13, 14], [13, 14]), ([15, 13], [15]), ([16], [16]), ([16], [16]), ([17, 18, 16, 16], [16, 17, 18]), ([16, 19], [16, 19]), ([20, 19], [20]), ([21], [21]), ([22, 21], [21, 22]), ([23, 21], [21, 23]), ([21], [21]), ([25, 21], [21, 25]), ([26, 21], [21, 26]), ([24, 27, 21], [21, 24, 27]), ([21, 28], [21, 28]), ([29, 21], [29]), ([30], [30]), ([31, 30], [30, 31]), ([32, 30], [30, 32]), ([30], [30]), ([34, 30], [30, 34]), ([35, 30], [30, 35]), ([33, 36, 30], [30, 33, 36]), ([30, 37], [30, 37]), ([38, 30], [38]), ([39], [39]), ([40, 39], [39, 40]), ([41, 39], [39, 41]), ([39], [39]), ([43, 39], [39, 43]), ([44, 39], [39, 44]), ([42, 45, 39], [39, 42, 45]), ([39, 46], [39, 46]), ([47, 39], [47]), ([48], [48]), ([48], [48]), ([49, 50, 48, 48], [48, 49, 50]), ([48, 51], [48, 51]), ([52, 51, 0, 1, 2, 3, 4, 5, 6, 7, 8, 9, 10, 11, 12, 13, 14, 15, 16, 17, 18, 19, 20, 21, 22, 23, 24, 25, 26, 27, 28, 29, 30, 31, 32, 33, 34, 35, 36, 37, 38, 39, 40, 41, 42, 43, 44, 45, 46, 47, 48, 49, 50, 51, 52], [52])])
def laws_FnDual.B15 : List Nat := [0, 1, 3, 7, 15, 31, 63, 127, 255, 511, 1023, 2047, 4095, 8191, 16383, 32767, 65535, 131071, 131071, 524287, 1048575, 2097151, 4194303, 8388607, 16777215, 4194303, 37748735, 104857599, 268435455, 536870911, 1073741823, 2147483647, 4294967295, 8589934591, 2147483647, 19327352831, 53687091199, 137438953471, 274877906943, 549755813887, 1099511627775, 2199023255551, 4398046511103, 1099511627775, 9895604649983, 27487790694399, 70368744177663, 140737488355327, 281474976710655, 562949953421311, 562949953421311, 2251799813685247, 4503599627370495, 9007199254740991]
theorem laws_FnDual.tab15 : rtab .any (opsOf Try.f5 15) = laws_FnDual.T15 := by kernel_rfl
theorem laws_FnDual.bits15 : waitsOk laws_FnDual.T15.2 laws_FnDual.B15 = true := by kernel_rfl
set_option maxHeartbeats 8000000 in
set_option maxRecDepth 100000 in
theorem laws_FnDual.calls (k : Nat) (A0 : Option Addr) (c0 : Nat) (l0 : List Int) (A1 : Option Addr) (c1 : Nat) (l1 : List Int) (r : Bool) (w : World) (hr0 : Kd.C (Kd.int .u8) w A0 l0.length l0) (hc0 : l0.length ≤ c0) (hr1 : Kd.C (Kd.int .u8) w A1 l1.length l1) (hc1 : l1.length ≤ c1) (hr_ : Aside0 (r = true)) (h : laws_FnDual.f k l0 l1 = some r) :
 Calls Try.prog 5 #[.slice A0 l0.length c0, .slice A1 l1.length c1] w fun e w' => e = .returned (.bool r) ∧ Below w.heap.size w w' := by
 have hu25 := Try.underlying25
 have HR0 := Aside0.mk hr0
 have HC0 := Aside0.mk hc0
 clear hr0 hc0
 have HR1 := Aside0.mk hr1
 have HC1 := Aside0.mk hc1
 clear hr1 hc1
 have HB := Aside0.mk (Below.refl w.heap.size w)
 have H : (if (l0.length : Int) > 1048576 then (laws_FnDual.j0 k l0 l1 true) else (laws_FnDual.j0 k l0 l1 (decide ((l1.length : Int) > 1048576)))) = some r := h
 clear h
 have HC3 := Aside0.mk H
 clear H
 go_enter Try.func5, Try.ntmps5
 go_upto_region 1 with (fail)
 go_cut [30] (fun v30 wc => ∃ (kq : Nat) (x30_2 : Bool), v30 = .bool x30_2 ∧ Aside0 (laws_FnDual.j0 kq l0 l1 x30_2 = some r) ∧ Aside0 (kq ≤ k) ∧ Aside0 (Below w.heap.size w wc))
 case first =>
  have H := HC3.out
  clear HC3
  by_cases c4 : (l0.length : Int) > 1048576
  ·rw [if_pos c4] at H
   have c4b0 : decide (1048576 < (l0.length : Int)) = true := decide_eq_true c4
   have c4b1 : decide (1048576 < l0.length) = true := decide_eq_true (by omega)
   clear c4
   (first | rw [c4b0] | (simp only [i64_w, i32_w]; rw [c4b0]) | skip)
   have H' := Aside0.mk H
   clear H
   go_wp2
   go_meet
   case rel => exact ⟨_, (true), eS, H', ⟨by first | omega | exact Nat.le_refl _⟩, ⟨bP HB⟩⟩
  ·rw [if_neg c4] at H
   have c4b0 : decide (1048576 < (l0.length : Int)) = false := decide_eq_false c4
   have c4b1 : decide (1048576 < l0.length) = false := decide_eq_false (by omega)
   clear c4
   (first | rw [c4b0] | (simp only [i64_w, i32_w]; rw [c4b0]) | skip)
   have H' := Aside0.mk H
   clear H
   go_wp2
   go_meet
   case rel => exact ⟨_, (decide ((l1.length : Int) > 1048576)), eS, H', ⟨by first | omega | exact Nat.le_refl _⟩, ⟨bP HB⟩⟩
 case rest =>
  clear HC3
  try clear c1
  try clear p2
  try clear c4
  try clear c4b0
  try clear c4b1
  obtain ⟨kq, x30_2, rfl, HA, HJ2, HB⟩ := hcut
  cases kq with
  | zero => exact absurd HA.out (by simp [laws_FnDual.j0])
  | succ kj2 =>
   have H := HA.out
   clear HA
   simp only [laws_FnDual.j0] at H
   by_cases c5 : x30_2 = true
   ·subst c5
    have H1 : (some true) = some r := by rw [if_pos rfl] at H; exact H
    clear H
    have H := H1
    clear H1
    obtain rfl := Option.some.inj H
    go_wp2
    go_ret
    exact ⟨eR, bP HB⟩
   ·replace c5 := Bool.eq_false_iff.mpr c5
    subst c5
    have H1 : ((spec_DrawMapDual.f kj2 l0).bind fun bt487 => ((impl_MapDual.f kj2 bt487.1 bt487.2).bind fun bt494 => ((spec_MapDual.f kj2 bt487.1 bt487.2).bind fun bt502 => (if (bt494.2.2 != bt502.2.2) = true then (laws_FnDual.j1 kj2 l1 bt494.2.2 bt502.2.2 true bt487.1 bt487.2 bt494.1 bt494.2.1 bt502.1 bt502.2.1) else ((laws_sameMap.f kj2 bt494.1 bt494.2.1 bt502.1 bt502.2.1).bind fun t510 => (if t510 = true then (laws_FnDual.j1 kj2 l1 bt494.2.2 bt502.2.2 (!bt494.2.2) bt487.1 bt487.2 bt494.1 bt494.2.1 bt502.1 bt502.2.1) else (laws_FnDual.j1 kj2 l1 bt494.2.2 bt502.2.2 true bt487.1 bt487.2 bt494.1 bt494.2.1 bt502.1 bt502.2.1))))))) = some r := by rw [if_neg (show ¬ (false = true) by decide)] at H; exact H
    clear H
    have H := H1
    clear H1
    replace H := Option.bind_eq_some_iff.mp H
    obtain ⟨⟨t487, t490⟩, A60, H⟩ := H
    replace H : ((impl_MapDual.f kj2 t487 t490).bind fun bt494 => ((spec_MapDual.f kj2 t487 t490).bind fun bt502 => (if (bt494.2.2 != bt502.2.2) = true then (laws_FnDual.j1 kj2 l1 bt494.2.2 bt502.2.2 true t487 t490 bt494.1 bt494.2.1 bt502.1 bt502.2.1) else ((laws_sameMap.f kj2 bt494.1 bt494.2.1 bt502.1 bt502.2.1).bind fun t510 => (if t510 = true then (laws_FnDual.j1 kj2 l1 bt494.2.2 bt502.2.2 (!bt494.2.2) t487 t490 bt494.1 bt494.2.1 bt502.1 bt502.2.1) else (laws_FnDual.j1 kj2 l1 bt494.2.2 bt502.2.2 true t487 t490 bt494.1 bt494.2.1 bt502.1 bt502.2.1)))))) = some r := H
    have A6 := Aside0.mk A60
    clear A60
    replace H := Option.bind_eq_some_iff.mp H
    obtain ⟨⟨t494, t497, t500⟩, A70, H⟩ := H
    replace H : ((spec_MapDual.f kj2 t487 t490).bind fun bt502 => (if (t500 != bt502.2.2) = true then (laws_FnDual.j1 kj2 l1 t500 bt502.2.2 true t487 t490 t494 t497 bt502.1 bt502.2.1) else ((laws_sameMap.f kj2 t494 t497 bt502.1 bt502.2.1).bind fun t510 => (if t510 = true then (laws_FnDual.j1 kj2 l1 t500 bt502.2.2 (!t500) t487 t490 t494 t497 bt502.1 bt502.2.1) else (laws_FnDual.j1 kj2 l1 t500 bt502.2.2 true t487 t490 t494 t497 bt502.1 bt502.2.1))))) = some r := H
    have A7 := Aside0.mk A70
    clear A70
    replace H := Option.bind_eq_some_iff.mp H
    obtain ⟨⟨t502, t505, t508⟩, A80, H⟩ := H
    replace H : (if (t500 != t508) = true then (laws_FnDual.j1 kj2 l1 t500 t508 true t487 t490 t494 t497 t502 t505) else ((laws_sameMap.f kj2 t494 t497 t502 t505).bind fun t510 => (if t510 = true then (laws_FnDual.j1 kj2 l1 t500 t508 (!t500) t487 t490 t494 t497 t502 t505) else (laws_FnDual.j1 kj2 l1 t500 t508 true t487 t490 t494 t497 t502 t505)))) = some r := H
    have A8 := Aside0.mk A80
    clear A80
    have HC9 := Aside0.mk H
    clear H
    go_upto_region 6 with (first | ((with_reducible refine gate_callee (f := 19) rfl ?_); refine gL (some 32) Try.func19 #[.slice A0 l0.length c0] ?_; (with_reducible refine (spec_DrawMapDual.calls kj2 _ _ l0 t487 t490 _ ?side1 ?side2 A6.out).mono ?_); (case side1 => exact cB HR0 HB); (case side2 => exact HC0.out); rintro e w10 ⟨v488, v491, rfl, ho0, ho1, hb⟩; refine ⟨_, rfl, ?_⟩; have HO489 := Aside0.mk (Kd.Q_lower ho0 (below_size (bP HB))); have HO492 := rL ho1 HB; replace HB := bS HB hb; (try clear hb); (try clear hb2); (try clear hk); (try clear hi); (try clear ho0); (try clear ho1)) | ((with_reducible refine gate_dst (N := 5) rfl ?_); (try (refine gate_guard (by rfl) ?_; dsimp only)); refine bE 5 #[.slice none 0 0, .slice none 0 0] 25 ?_; intro gb493 hg w11 hbox hb; replace HO489 := Aside0.mk (Kd.Q_below (by (with_reducible repeat (first | apply Kd.Q_alloc | apply Kd.Q_drewN | apply Kd.Q_drew)); exact HO489.out) hb); replace HO492 := rB HO492 hb; have BK493 := Aside0.mk (hbox); have GW493 := gS HB hg; have GE493 := gS HB hg; replace HB := bS HB hb; clear hb hbox hg; obtain ⟨Ao12, co12, eo12, _⟩ := Kd.Q_slice HO489.out; subst eo12; have hcz13_0 := zc0 BK493; have hcz13_1 := zc1 BK493; have hfz13_0 := blk_frozen BK493.out 0; have hfz13_1 := blk_frozen BK493.out 1; obtain ⟨Ao14, co14, eo14⟩ := Kd.R_slice HO492.out; subst eo14) | ((with_reducible refine gate_callee (f := 20) rfl ?_); refine gL (some 35) Try.func20 #[.agg #[.slice Ao12 t487.length co12, .slice Ao14 t490.length co14]] ?_; (with_reducible refine (impl_MapDual.calls kj2 _ _ t487 _ _ t490 t494 t497 t500 _ ?side1 ?side2 ?side3 ?side4 A7.out).mono ?_); (case side1 => refine (Kd.Q_reads' (e := 3) (base := w.heap.size) (ok := fun k_ => oN k_ Ao14 t490 co14) (n := t487.length) (c := co12) ?_).2.2; exact (by (with_reducible repeat (first | apply Kd.Q_alloc | apply Kd.Q_drewN | apply Kd.Q_drew)); exact (Kd.Q_mono (Kd.Q_far (p := ⟨gb493, 1, none⟩) (Kd.Q_far (p := ⟨gb493, 0, none⟩) (Kd.Q_types HO489.out BK493.out (by decide)) (fun _ hk => hk.2) (.slice Ao12 t487.length co12)) (fun _ hk => hk.2) (.slice Ao14 t490.length co14)) (fun _ h_ => h_.1)))); (case side2 => exact (Kd.Q_reads' HO489.out).2.1); (case side3 => refine (Kd.R_reads' (e := 3) (base := w.heap.size) (ok := fun k_ => oN k_ Ao12 t487 co12) (n := t490.length) (c := co14) ?_).2.2; exact (rT (Kd.R_mono (Kd.R_far (p := ⟨gb493, 1, none⟩) (Kd.R_far (p := ⟨gb493, 0, none⟩) (Kd.R_types HO492.out BK493.out (by decide)) (fun _ hk => hk.2) (.slice Ao12 t487.length co12)) (fun _ hk => hk.2) (.slice Ao14 t490.length co14)) (fun _ h_ => h_.1)))); (case side4 => exact (Kd.R_reads' HO492.out).2.1); rintro e w15 ⟨v495, v498, rfl, ho0, ho1, hb⟩; refine ⟨_, rfl, ?_⟩; have HO496 := Aside0.mk (Kd.R_lower (Kd.R_new' (Kd.R_new' ho0 (Kd.Q_lt (by (with_reducible repeat (first | apply Kd.Q_alloc | apply Kd.Q_drewN | apply Kd.Q_drew)); exact (Kd.Q_mono (Kd.Q_far (p := ⟨gb493, 1, none⟩) (Kd.Q_far (p := ⟨gb493, 0, none⟩) (Kd.Q_types HO489.out BK493.out (by decide)) (fun _ hk => hk.2) (.slice Ao12 t487.length co12)) (fun _ hk => hk.2) (.slice Ao14 t490.length co14)) (fun _ h_ => h_.1))))) (Kd.R_lt (rT (Kd.R_mono (Kd.R_far (p := ⟨gb493, 1, none⟩) (Kd.R_far (p := ⟨gb493, 0, none⟩) (Kd.R_types HO492.out BK493.out (by decide)) (fun _ hk => hk.2) (.slice Ao12 t487.length co12)) (fun _ hk => hk.2) (.slice Ao14 t490.length co14)) (fun _ h_ => h_.1))))) (below_size (bP HB))); have HO499 := Aside0.mk (Kd.R_lower (Kd.R_new' (Kd.R_new' ho1 (Kd.Q_lt (by (with_reducible repeat (first | apply Kd.Q_alloc | apply Kd.Q_drewN | apply Kd.Q_drew)); exact (Kd.Q_mono (Kd.Q_far (p := ⟨gb493, 1, none⟩) (Kd.Q_far (p := ⟨gb493, 0, none⟩) (Kd.Q_types HO489.out BK493.out (by decide)) (fun _ hk => hk.2) (.slice Ao12 t487.length co12)) (fun _ hk => hk.2) (.slice Ao14 t490.length co14)) (fun _ h_ => h_.1))))) (Kd.R_lt (rT (Kd.R_mono (Kd.R_far (p := ⟨gb493, 1, none⟩) (Kd.R_far (p := ⟨gb493, 0, none⟩) (Kd.R_types HO492.out BK493.out (by decide)) (fun _ hk => hk.2) (.slice Ao12 t487.length co12)) (fun _ hk => hk.2) (.slice Ao14 t490.length co14)) (fun _ h_ => h_.1))))) (below_size (bP HB))); replace HO489 := Aside0.mk (Kd.Q_mono (Kd.Q_told (Kd.Q_told (Kd.Q_old (by (with_reducible repeat (first | apply Kd.Q_alloc | apply Kd.Q_drewN | apply Kd.Q_drew)); exact (Kd.Q_mono (Kd.Q_far (p := ⟨gb493, 1, none⟩) (Kd.Q_far (p := ⟨gb493, 0, none⟩) (Kd.Q_types HO489.out BK493.out (by decide)) (fun _ hk => hk.2) (.slice Ao12 t487.length co12)) (fun _ hk => hk.2) (.slice Ao14 t490.length co14)) (fun _ h_ => h_.1))) hb) (Kd.R_base ho0)) (Kd.R_base ho1)) (fun _ h_ => h_.1)); replace HO492 := Aside0.mk (Kd.R_mono (Kd.R_told (Kd.R_told (Kd.R_old (rT (Kd.R_mono (Kd.R_far (p := ⟨gb493, 1, none⟩) (Kd.R_far (p := ⟨gb493, 0, none⟩) (Kd.R_types HO492.out BK493.out (by decide)) (fun _ hk => hk.2) (.slice Ao12 t487.length co12)) (fun _ hk => hk.2) (.slice Ao14 t490.length co14)) (fun _ h_ => h_.1))) hb) (Kd.R_base ho0)) (Kd.R_base ho1)) (fun _ h_ => h_.1)); replace BK493 := Aside0.mk (blk_below (g := gb493) (o := .cells #[.slice Ao12 t487.length co12, .slice Ao14 t490.length co14] 25 (0, 0)) (by (with_reducible repeat (first | refine blk_drewN ?_ _ | refine blk_drew ?_ | refine blk_alloc ?_ _)); refine blk_put (cs := #[.slice Ao12 t487.length co12, .slice none 0 0]) ?_ 1 _ rfl; (with_reducible repeat (first | refine blk_drewN ?_ _ | refine blk_drew ?_ | refine blk_alloc ?_ _)); refine blk_put (cs := #[.slice none 0 0, .slice none 0 0]) ?_ 0 _ rfl; (with_reducible repeat (first | refine blk_drewN ?_ _ | refine blk_drew ?_ | refine blk_alloc ?_ _)); exact BK493.out) hb); replace HB := bS HB hb; (try clear hb); (try clear hb2); (try clear hk); (try clear hi); (try clear ho0); (try clear ho1)) | ((with_reducible refine gate_dst (N := 6) rfl ?_); (try (refine gate_guard (by rfl) ?_; dsimp only)); refine bE 6 #[.slice none 0 0, .slice none 0 0] 25 ?_; intro gb501 hg w16 hbox hb; replace HO489 := Aside0.mk (Kd.Q_below (by (with_reducible repeat (first | apply Kd.Q_alloc | apply Kd.Q_drewN | apply Kd.Q_drew)); exact HO489.out) hb); replace HO492 := rB HO492 hb; replace HO496 := rB HO496 hb; replace HO499 := rB HO499 hb; have BK501 := Aside0.mk (hbox); have GW501 := gS HB hg; have GE501 := gS HB hg; replace HB := bS HB hb; have NB493_501 := nL BK493 hg; have NB501_493 := nG BK493 hg; replace BK493 := kB BK493 hb; clear hb hbox hg; obtain ⟨Ao17, co17, eo17⟩ := Kd.R_slice HO496.out; subst eo17; have hnb18 := NB501_493.out; have hnc18 := NB493_501.out; have hcz19_0 := zc0 BK501; have hcz19_1 := zc1 BK501; have hfz19_0 := blk_frozen BK501.out 0; have hfz19_1 := blk_frozen BK501.out 1; obtain ⟨Ao20, co20, eo20⟩ := Kd.R_slice HO499.out; subst eo20; have hcz21_0 := zc0 BK493; have hcz21_1 := zc1 BK493; have hfz21_0 := blk_frozen BK493.out 0; have hfz21_1 := blk_frozen BK493.out 1) | ((with_reducible refine gate_callee (f := 21) rfl ?_); refine gL (some 40) Try.func21 #[.agg #[.slice Ao12 t487.length co12, .slice Ao14 t490.length co14]] ?_; (with_reducible refine (spec_MapDual.calls kj2 _ _ t487 _ _ t490 t502 t505 t508 _ ?side1 ?side2 ?side3 ?side4 A8.out).mono ?_); (case side1 => refine (Kd.Q_reads' (e := 3) (base := w.heap.size) (ok := fun k_ => ((oN k_ Ao14 t490 co14 ∧ oN k_ Ao17 t494 co17) ∧ oN k_ Ao20 t497 co20)) (n := t487.length) (c := co12) ?_).2.2; exact (by (with_reducible repeat (first | apply Kd.Q_alloc | apply Kd.Q_drewN | apply Kd.Q_drew)); exact (Kd.Q_mono (Kd.Q_far (p := ⟨gb501, 1, none⟩) (Kd.Q_far (p := ⟨gb501, 0, none⟩) (Kd.Q_types HO489.out BK501.out (by decide)) (fun _ hk => hk.2) (.slice Ao17 t494.length co17)) (fun _ hk => hk.2) (.slice Ao20 t497.length co20)) (fun _ h_ => h_.1)))); (case side2 => exact (Kd.Q_reads' HO489.out).2.1); (case side3 => refine (Kd.R_reads' (e := 3) (base := w.heap.size) (ok := fun k_ => ((oN k_ Ao12 t487 co12 ∧ oN k_ Ao17 t494 co17) ∧ oN k_ Ao20 t497 co20)) (n := t490.length) (c := co14) ?_).2.2; exact (rT (Kd.R_mono (Kd.R_far (p := ⟨gb501, 1, none⟩) (Kd.R_far (p := ⟨gb501, 0, none⟩) (Kd.R_types HO492.out BK501.out (by decide)) (fun _ hk => hk.2) (.slice Ao17 t494.length co17)) (fun _ hk => hk.2) (.slice Ao20 t497.length co20)) (fun _ h_ => h_.1)))); (case side4 => exact (Kd.R_reads' HO492.out).2.1); rintro e w22 ⟨v503, v506, rfl, ho0, ho1, hb⟩; refine ⟨_, rfl, ?_⟩; have HO504 := Aside0.mk (Kd.R_lower (Kd.R_new' (Kd.R_new' (Kd.R_new' (Kd.R_new' ho0 (Kd.Q_lt (by (with_reducible repeat (first | apply Kd.Q_alloc | apply Kd.Q_drewN | apply Kd.Q_drew)); exact (Kd.Q_mono (Kd.Q_far (p := ⟨gb501, 1, none⟩) (Kd.Q_far (p := ⟨gb501, 0, none⟩) (Kd.Q_types HO489.out BK501.out (by decide)) (fun _ hk => hk.2) (.slice Ao17 t494.length co17)) (fun _ hk => hk.2) (.slice Ao20 t497.length co20)) (fun _ h_ => h_.1))))) (Kd.R_lt (rT (Kd.R_mono (Kd.R_far (p := ⟨gb501, 1, none⟩) (Kd.R_far (p := ⟨gb501, 0, none⟩) (Kd.R_types HO492.out BK501.out (by decide)) (fun _ hk => hk.2) (.slice Ao17 t494.length co17)) (fun _ hk => hk.2) (.slice Ao20 t497.length co20)) (fun _ h_ => h_.1))))) (Kd.R_lt (rT (Kd.R_mono (Kd.R_far (p := ⟨gb501, 1, none⟩) (Kd.R_far (p := ⟨gb501, 0, none⟩) (Kd.R_types HO496.out BK501.out (by decide)) (fun _ hk => hk.2) (.slice Ao17 t494.length co17)) (fun _ hk => hk.2) (.slice Ao20 t497.length co20)) (fun _ h_ => h_.1))))) (Kd.R_lt (rT (Kd.R_mono (Kd.R_far (p := ⟨gb501, 1, none⟩) (Kd.R_far (p := ⟨gb501, 0, none⟩) (Kd.R_types HO499.out BK501.out (by decide)) (fun _ hk => hk.2) (.slice Ao17 t494.length co17)) (fun _ hk => hk.2) (.slice Ao20 t497.length co20)) (fun _ h_ => h_.1))))) (below_size (bP HB))); have HO507 := Aside0.mk (Kd.R_lower (Kd.R_new' (Kd.R_new' (Kd.R_new' (Kd.R_new' ho1 (Kd.Q_lt (by (with_reducible repeat (first | apply Kd.Q_alloc | apply Kd.Q_drewN | apply Kd.Q_drew)); exact (Kd.Q_mono (Kd.Q_far (p := ⟨gb501, 1, none⟩) (Kd.Q_far (p := ⟨gb501, 0, none⟩) (Kd.Q_types HO489.out BK501.out (by decide)) (fun _ hk => hk.2) (.slice Ao17 t494.length co17)) (fun _ hk => hk.2) (.slice Ao20 t497.length co20)) (fun _ h_ => h_.1))))) (Kd.R_lt (rT (Kd.R_mono (Kd.R_far (p := ⟨gb501, 1, none⟩) (Kd.R_far (p := ⟨gb501, 0, none⟩) (Kd.R_types HO492.out BK501.out (by decide)) (fun _ hk => hk.2) (.slice Ao17 t494.length co17)) (fun _ hk => hk.2) (.slice Ao20 t497.length co20)) (fun _ h_ => h_.1))))) (Kd.R_lt (rT (Kd.R_mono (Kd.R_far (p := ⟨gb501, 1, none⟩) (Kd.R_far (p := ⟨gb501, 0, none⟩) (Kd.R_types HO496.out BK501.out (by decide)) (fun _ hk => hk.2) (.slice Ao17 t494.length co17)) (fun _ hk => hk.2) (.slice Ao20 t497.length co20)) (fun _ h_ => h_.1))))) (Kd.R_lt (rT (Kd.R_mono (Kd.R_far (p := ⟨gb501, 1, none⟩) (Kd.R_far (p := ⟨gb501, 0, none⟩) (Kd.R_types HO499.out BK501.out (by decide)) (fun _ hk => hk.2) (.slice Ao17 t494.length co17)) (fun _ hk => hk.2) (.slice Ao20 t497.length co20)) (fun _ h_ => h_.1))))) (below_size (bP HB))); replace HO489 := Aside0.mk (Kd.Q_mono (Kd.Q_told (Kd.Q_told (Kd.Q_old (by (with_reducible repeat (first | apply Kd.Q_alloc | apply Kd.Q_drewN | apply Kd.Q_drew)); exact (Kd.Q_mono (Kd.Q_far (p := ⟨gb501, 1, none⟩) (Kd.Q_far (p := ⟨gb501, 0, none⟩) (Kd.Q_types HO489.out BK501.out (by decide)) (fun _ hk => hk.2) (.slice Ao17 t494.length co17)) (fun _ hk => hk.2) (.slice Ao20 t497.length co20)) (fun _ h_ => h_.1))) hb) (Kd.R_base ho0)) (Kd.R_base ho1)) (fun _ h_ => h_.1)); replace HO492 := Aside0.mk (Kd.R_mono (Kd.R_told (Kd.R_told (Kd.R_old (rT (Kd.R_mono (Kd.R_far (p := ⟨gb501, 1, none⟩) (Kd.R_far (p := ⟨gb501, 0, none⟩) (Kd.R_types HO492.out BK501.out (by decide)) (fun _ hk => hk.2) (.slice Ao17 t494.length co17)) (fun _ hk => hk.2) (.slice Ao20 t497.length co20)) (fun _ h_ => h_.1))) hb) (Kd.R_base ho0)) (Kd.R_base ho1)) (fun _ h_ => h_.1)); replace HO496 := Aside0.mk (Kd.R_mono (Kd.R_told (Kd.R_told (Kd.R_old (rT (Kd.R_mono (Kd.R_far (p := ⟨gb501, 1, none⟩) (Kd.R_far (p := ⟨gb501, 0, none⟩) (Kd.R_types HO496.out BK501.out (by decide)) (fun _ hk => hk.2) (.slice Ao17 t494.length co17)) (fun _ hk => hk.2) (.slice Ao20 t497.length co20)) (fun _ h_ => h_.1))) hb) (Kd.R_base ho0)) (Kd.R_base ho1)) (fun _ h_ => h_.1)); replace HO499 := Aside0.mk (Kd.R_mono (Kd.R_told (Kd.R_told (Kd.R_old (rT (Kd.R_mono (Kd.R_far (p := ⟨gb501, 1, none⟩) (Kd.R_far (p := ⟨gb501, 0, none⟩) (Kd.R_types HO499.out BK501.out (by decide)) (fun _ hk => hk.2) (.slice Ao17 t494.length co17)) (fun _ hk => hk.2) (.slice Ao20 t497.length co20)) (fun _ h_ => h_.1))) hb) (Kd.R_base ho0)) (Kd.R_base ho1)) (fun _ h_ => h_.1)); replace BK493 := kG BK493 hb; replace BK501 := Aside0.mk (blk_below (g := gb501) (o := .cells #[.slice Ao17 t494.length co17, .slice Ao20 t497.length co20] 25 (0, 0)) (by (with_reducible repeat (first | refine blk_drewN ?_ _ | refine blk_drew ?_ | refine blk_alloc ?_ _)); refine blk_put (cs := #[.slice Ao17 t494.length co17, .slice none 0 0]) ?_ 1 _ rfl; (with_reducible repeat (first | refine blk_drewN ?_ _ | refine blk_drew ?_ | refine blk_alloc ?_ _)); refine blk_put (cs := #[.slice none 0 0, .slice none 0 0]) ?_ 0 _ rfl; (with_reducible repeat (first | refine blk_drewN ?_ _ | refine blk_drew ?_ | refine blk_alloc ?_ _)); exact BK501.out) hb); replace HB := bS HB hb; (try clear hb); (try clear hb2); (try clear hk); (try clear hi); (try clear ho0); (try clear ho1)) | ((with_reducible refine gate_dst (N := 8) rfl ?_); (try (refine gate_guard (by rfl) ?_; dsimp only)); refine bE 8 #[.slice none 0 0, .slice none 0 0] 25 ?_; intro gb509 hg w23 hbox hb; replace HO489 := Aside0.mk (Kd.Q_below (by (with_reducible repeat (first | apply Kd.Q_alloc | apply Kd.Q_drewN | apply Kd.Q_drew)); exact HO489.out) hb); replace HO492 := rB HO492 hb; replace HO496 := rB HO496 hb; replace HO499 := rB HO499 hb; replace HO504 := rB HO504 hb; replace HO507 := rB HO507 hb; have BK509 := Aside0.mk (hbox); have GW509 := gS HB hg; have GE509 := gS HB hg; replace HB := bS HB hb; have NB493_509 := nL BK493 hg; have NB509_493 := nG BK493 hg; replace BK493 := kB BK493 hb; have NB501_509 := nL BK501 hg; have NB509_501 := nG BK501 hg; replace BK501 := kB BK501 hb; clear hb hbox hg; obtain ⟨Ao24, co24, eo24⟩ := Kd.R_slice HO504.out; subst eo24; have hnb25 := NB509_493.out; have hnc25 := NB493_509.out; have hnb26 := NB509_501.out; have hnc26 := NB501_509.out; have hcz27_0 := zc0 BK509; have hcz27_1 := zc1 BK509; have hfz27_0 := blk_frozen BK509.out 0; have hfz27_1 := blk_frozen BK509.out 1; obtain ⟨Ao28, co28, eo28⟩ := Kd.R_slice HO507.out; subst eo28))
    (try simp only [Act.put, List.setIfInBounds_toArray, List.set_cons_zero, List.set_cons_succ])
    go_cut [55] (fun v55 wc => ∃ (kq : Nat) (x55_8 : Bool), v55 = .bool x55_8 ∧ Aside0 (laws_FnDual.j1 kq l1 t500 t508 x55_8 t487 t490 t494 t497 t502 t505 = some r) ∧ Aside0 (kq ≤ kj2) ∧ Aside0 (Kd.Q (Kd.int .i64) 3 wc w.heap.size (fun k_ => oN k_ Ao14 t490 co14 ∧ oN k_ Ao17 t494 co17 ∧ oN k_ Ao20 t497 co20 ∧ oN k_ Ao24 t502 co24 ∧ oN k_ Ao28 t505 co28) (.slice Ao12 t487.length co12) t487) ∧ Aside0 (Kd.R (Kd.int .i64) 3 wc w.heap.size (fun k_ => oN k_ Ao12 t487 co12 ∧ oN k_ Ao17 t494 co17 ∧ oN k_ Ao20 t497 co20 ∧ oN k_ Ao24 t502 co24 ∧ oN k_ Ao28 t505 co28) (.slice Ao14 t490.length co14) t490) ∧ Aside0 (Kd.Q (Kd.int .i64) 3 wc w.heap.size (fun k_ => oN k_ Ao12 t487 co12 ∧ oN k_ Ao14 t490 co14 ∧ oN k_ Ao20 t497 co20 ∧ oN k_ Ao24 t502 co24 ∧ oN k_ Ao28 t505 co28) (.slice Ao17 t494.length co17) t494) ∧ Aside0 (Kd.R (Kd.int .i64) 3 wc w.heap.size (fun k_ => oN k_ Ao12 t487 co12 ∧ oN k_ Ao14 t490 co14 ∧ oN k_ Ao17 t494 co17 ∧ oN k_ Ao24 t502 co24 ∧ oN k_ Ao28 t505 co28) (.slice Ao20 t497.length co20) t497) ∧ Aside0 (Kd.Q (Kd.int .i64) 3 wc w.heap.size (fun k_ => oN k_ Ao12 t487 co12 ∧ oN k_ Ao14 t490 co14 ∧ oN k_ Ao17 t494 co17 ∧ oN k_ Ao20 t497 co20 ∧ oN k_ Ao28 t505 co28) (.slice Ao24 t502.length co24) t502) ∧ Aside0 (Kd.R (Kd.int .i64) 3 wc w.heap.size (fun k_ => oN k_ Ao12 t487 co12 ∧ oN k_ Ao14 t490 co14 ∧ oN k_ Ao17 t494 co17 ∧ oN k_ Ao20 t497 co20 ∧ oN k_ Ao24 t502 co24) (.slice Ao28 t505.length co28) t505) ∧ Aside0 (wc.heap[gb493]? = some (.cells #[(.slice Ao12 t487.length co12), (.slice Ao14 t490.length co14)] 25 (0, 0))) ∧ Aside0 (wc.heap[gb501]? = some (.cells #[(.slice Ao17 t494.length co17), (.slice Ao20 t497.length co20)] 25 (0, 0))) ∧ Aside0 (wc.heap[gb509]? = some (.cells #[(.slice Ao24 t502.length co24), (.slice Ao28 t505.length co28)] 25 (0, 0))) ∧ Aside0 (Below w.heap.size w wc))
    case first =>
     have H := HC9.out
     clear HC9
     by_cases c29 : (t500 != t508) = true
     ·rw [if_pos c29] at H
      have c29b0 : (t500 != t508) = true := c29
      (try (have c29b1 : decide (t500 = t508) = false := by simpa using c29))
      (try (have c29b2 : (t500 == t508) = false := by simpa using c29))
      (try (have c29b3 : ¬ (t500 = t508) := by simpa using c29))
      clear c29
      (first | rw [c29b0] | (simp only [i64_w, i32_w]; rw [c29b0]) | skip)
      have H' := Aside0.mk H
      clear H
      go_wp2
      go_meet
      case rel => exact ⟨_, (true), eS, H', ⟨by have := HJ2.out; first | omega | exact Nat.le_refl _⟩, ⟨by (with_reducible repeat (first | apply Kd.Q_alloc | apply Kd.Q_drewN | apply Kd.Q_drew)); exact Kd.Q_mono (Kd.Q_far (p := ⟨gb509, 1, none⟩) (Kd.Q_far (p := ⟨gb509, 0, none⟩) (Kd.Q_types HO489.out BK509.out (by decide)) (fun _ hk => hk.2) (.slice Ao24 t502.length co24)) (fun _ hk => hk.2) (.slice Ao28 t505.length co28)) (fun _ hk => ⟨hk.1.1.1.1.1, ⟨hk.1.1.1.1.2, ⟨hk.1.1.1.2, ⟨hk.1.1.2, hk.1.2⟩⟩⟩⟩)⟩, ⟨by (with_reducible repeat (first | apply Kd.R_alloc | apply Kd.R_drewN | apply Kd.R_drew)); exact Kd.R_mono (Kd.R_far (p := ⟨gb509, 1, none⟩) (Kd.R_far (p := ⟨gb509, 0, none⟩) (Kd.R_types HO492.out BK509.out (by decide)) (fun _ hk => hk.2) (.slice Ao24 t502.length co24)) (fun _ hk => hk.2) (.slice Ao28 t505.length co28)) (fun _ hk => ⟨hk.1.1.1.1.1, ⟨hk.1.1.1.1.2, ⟨hk.1.1.1.2, ⟨hk.1.1.2, hk.1.2⟩⟩⟩⟩)⟩, ⟨Kd.Q_of_R (by (with_reducible repeat (first | apply Kd.R_alloc | apply Kd.R_drewN | apply Kd.R_drew)); exact Kd.R_mono (Kd.R_far (p := ⟨gb509, 1, none⟩) (Kd.R_far (p := ⟨gb509, 0, none⟩) (Kd.R_types HO496.out BK509.out (by decide)) (fun _ hk => hk.2) (.slice Ao24 t502.length co24)) (fun _ hk => hk.2) (.slice Ao28 t505.length co28)) (fun _ hk => ⟨hk.1.1.1.1.2, ⟨hk.1.1.1.2, ⟨hk.1.1.1.1.1, ⟨hk.1.1.2, hk.1.2⟩⟩⟩⟩))⟩, ⟨by (with_reducible repeat (first | apply Kd.R_alloc | apply Kd.R_drewN | apply Kd.R_drew)); exact Kd.R_mono (Kd.R_far (p := ⟨gb509, 1, none⟩) (Kd.R_far (p := ⟨gb509, 0, none⟩) (Kd.R_types HO499.out BK509.out (by decide)) (fun _ hk => hk.2) (.slice Ao24 t502.length co24)) (fun _ hk => hk.2) (.slice Ao28 t505.length co28)) (fun _ hk => ⟨hk.1.1.1.1.2, ⟨hk.1.1.1.2, ⟨hk.1.1.1.1.1, ⟨hk.1.1.2, hk.1.2⟩⟩⟩⟩)⟩, ⟨Kd.Q_of_R (by (with_reducible repeat (first | apply Kd.R_alloc | apply Kd.R_drewN | apply Kd.R_drew)); exact Kd.R_mono (Kd.R_far (p := ⟨gb509, 1, none⟩) (Kd.R_far (p := ⟨gb509, 0, none⟩) (Kd.R_types HO504.out BK509.out (by decide)) (fun _ hk => hk.2) (.slice Ao24 t502.length co24)) (fun _ hk => hk.2) (.slice Ao28 t505.length co28)) (fun _ hk => ⟨hk.1.1.1.1.2, ⟨hk.1.1.1.2, ⟨hk.1.1.2, ⟨hk.1.2, hk.1.1.1.1.1⟩⟩⟩⟩))⟩, ⟨by (with_reducible repeat (first | apply Kd.R_alloc | apply Kd.R_drewN | apply Kd.R_drew)); exact Kd.R_mono (Kd.R_far (p := ⟨gb509, 1, none⟩) (Kd.R_far (p := ⟨gb509, 0, none⟩) (Kd.R_types HO507.out BK509.out (by decide)) (fun _ hk => hk.2) (.slice Ao24 t502.length co24)) (fun _ hk => hk.2) (.slice Ao28 t505.length co28)) (fun _ hk => ⟨hk.1.1.1.1.2, ⟨hk.1.1.1.2, ⟨hk.1.1.2, ⟨hk.1.2, hk.1.1.1.1.1⟩⟩⟩⟩)⟩, ⟨kF BK493⟩, ⟨kF BK501⟩, ⟨by (with_reducible repeat (first | refine blk_drewN ?_ _ | refine blk_drew ?_ | refine blk_alloc ?_ _)); refine blk_put (cs := #[.slice Ao24 t502.length co24, .slice none 0 0]) ?_ 1 _ rfl; (with_reducible repeat (first | refine blk_drewN ?_ _ | refine blk_drew ?_ | refine blk_alloc ?_ _)); refine blk_put (cs := #[.slice none 0 0, .slice none 0 0]) ?_ 0 _ rfl; (with_reducible repeat (first | refine blk_drewN ?_ _ | refine blk_drew ?_ | refine blk_alloc ?_ _)); exact BK509.out⟩, ⟨bP HB⟩⟩
     ·rw [if_neg c29] at H
      have c29b0 : (t500 != t508) = false := by simpa using c29
      (try (have c29b1 : decide (t500 = t508) = true := by simpa using c29))
      (try (have c29b2 : (t500 == t508) = true := by simpa using c29))
      clear c29
      (first | rw [c29b0] | (simp only [i64_w, i32_w]; rw [c29b0]) | skip)
      replace H := Option.bind_eq_some_iff.mp H
      obtain ⟨t510, A300, H⟩ := H
      replace H : (if t510 = true then (laws_FnDual.j1 kj2 l1 t500 t508 (!t500) t487 t490 t494 t497 t502 t505) else (laws_FnDual.j1 kj2 l1 t500 t508 true t487 t490 t494 t497 t502 t505)) = some r := H
      have A30 := Aside0.mk A300
      clear A300
      by_cases c31 : t510 = true
      ·subst c31
       have H1 : (laws_FnDual.j1 kj2 l1 t500 t508 (!t500) t487 t490 t494 t497 t502 t505) = some r := by rw [if_pos rfl] at H; exact H
       clear H
       have H := H1
       clear H1
       have H' := Aside0.mk H
       clear H
       have hnb32 := NB501_493.out
       have hnc32 := NB493_501.out
       have hnb33 := NB501_509.out
       have hnc33 := NB509_501.out
       have hcz34_0 := zc0 BK501
       have hcz34_1 := zc1 BK501
       have hfz34_0 := blk_frozen BK501.out 0
       have hfz34_1 := blk_frozen BK501.out 1
       have hnb35 := NB509_493.out
       have hnc35 := NB493_509.out
       have hcz36_0 := zc0 BK509
       have hcz36_1 := zc1 BK509
       have hfz36_0 := blk_frozen BK509.out 0
       have hfz36_1 := blk_frozen BK509.out 1
       go_wp2_with (first | (go_at_call 22; (with_reducible refine (laws_sameMap.calls kj2 _ _ t494 _ _ t497 _ _ t502 _ _ t505 true _ ?side1 ?side2 ?side3 ?side4 ?side5 ?side6 ?side7 ?side8 A30.out).mono ?_); (case side1 => refine (Kd.R_reads' (e := 3) (base := w.heap.size) (ok := fun k_ => ((((oN k_ Ao20 t497 co20 ∧ oN k_ Ao12 t487 co12) ∧ oN k_ Ao14 t490 co14) ∧ oN k_ Ao24 t502 co24) ∧ oN k_ Ao28 t505 co28)) (n := t494.length) (c := co17) ?_).2.2; exact (rT (Kd.R_mono (Kd.R_far (p := ⟨gb509, 1, none⟩) (Kd.R_far (p := ⟨gb509, 0, none⟩) (Kd.R_types HO496.out BK509.out (by decide)) (fun _ hk => hk.2) (.slice Ao24 t502.length co24)) (fun _ hk => hk.2) (.slice Ao28 t505.length co28)) (fun _ h_ => h_.1)))); (case side2 => exact (Kd.R_reads' HO496.out).2.1); (case side3 => refine (Kd.R_reads' (e := 3) (base := w.heap.size) (ok := fun k_ => ((((oN k_ Ao17 t494 co17 ∧ oN k_ Ao12 t487 co12) ∧ oN k_ Ao14 t490 co14) ∧ oN k_ Ao24 t502 co24) ∧ oN k_ Ao28 t505 co28)) (n := t497.length) (c := co20) ?_).2.2; exact (rT (Kd.R_mono (Kd.R_far (p := ⟨gb509, 1, none⟩) (Kd.R_far (p := ⟨gb509, 0, none⟩) (Kd.R_types HO499.out BK509.out (by decide)) (fun _ hk => hk.2) (.slice Ao24 t502.length co24)) (fun _ hk => hk.2) (.slice Ao28 t505.length co28)) (fun _ h_ => h_.1)))); (case side4 => exact (Kd.R_reads' HO499.out).2.1); (case side5 => refine (Kd.R_reads' (e := 3) (base := w.heap.size) (ok := fun k_ => ((((oN k_ Ao28 t505 co28 ∧ oN k_ Ao12 t487 co12) ∧ oN k_ Ao14 t490 co14) ∧ oN k_ Ao17 t494 co17) ∧ oN k_ Ao20 t497 co20)) (n := t502.length) (c := co24) ?_).2.2; exact (rT (Kd.R_mono (Kd.R_far (p := ⟨gb509, 1, none⟩) (Kd.R_far (p := ⟨gb509, 0, none⟩) (Kd.R_types HO504.out BK509.out (by decide)) (fun _ hk => hk.2) (.slice Ao24 t502.length co24)) (fun _ hk => hk.2) (.slice Ao28 t505.length co28)) (fun _ h_ => h_.1)))); (case side6 => exact (Kd.R_reads' HO504.out).2.1); (case side7 => refine (Kd.R_reads' (e := 3) (base := w.heap.size) (ok := fun k_ => ((((oN k_ Ao24 t502 co24 ∧ oN k_ Ao12 t487 co12) ∧ oN k_ Ao14 t490 co14) ∧ oN k_ Ao17 t494 co17) ∧ oN k_ Ao20 t497 co20)) (n := t505.length) (c := co28) ?_).2.2; exact (rT (Kd.R_mono (Kd.R_far (p := ⟨gb509, 1, none⟩) (Kd.R_far (p := ⟨gb509, 0, none⟩) (Kd.R_types HO507.out BK509.out (by decide)) (fun _ hk => hk.2) (.slice Ao24 t502.length co24)) (fun _ hk => hk.2) (.slice Ao28 t505.length co28)) (fun _ h_ => h_.1)))); (case side8 => exact (Kd.R_reads' HO507.out).2.1); rintro e w37 ⟨rfl, hb⟩; replace HO489 := Aside0.mk (Kd.Q_below (by (with_reducible repeat (first | apply Kd.Q_alloc | apply Kd.Q_drewN | apply Kd.Q_drew)); exact (Kd.Q_mono (Kd.Q_far (p := ⟨gb509, 1, none⟩) (Kd.Q_far (p := ⟨gb509, 0, none⟩) (Kd.Q_types HO489.out BK509.out (by decide)) (fun _ hk => hk.2) (.slice Ao24 t502.length co24)) (fun _ hk => hk.2) (.slice Ao28 t505.length co28)) (fun _ h_ => h_.1))) hb); replace HO492 := Aside0.mk (Kd.R_below (rT (Kd.R_mono (Kd.R_far (p := ⟨gb509, 1, none⟩) (Kd.R_far (p := ⟨gb509, 0, none⟩) (Kd.R_types HO492.out BK509.out (by decide)) (fun _ hk => hk.2) (.slice Ao24 t502.length co24)) (fun _ hk => hk.2) (.slice Ao28 t505.length co28)) (fun _ h_ => h_.1))) hb); replace HO496 := Aside0.mk (Kd.R_below (rT (Kd.R_mono (Kd.R_far (p := ⟨gb509, 1, none⟩) (Kd.R_far (p := ⟨gb509, 0, none⟩) (Kd.R_types HO496.out BK509.out (by decide)) (fun _ hk => hk.2) (.slice Ao24 t502.length co24)) (fun _ hk => hk.2) (.slice Ao28 t505.length co28)) (fun _ h_ => h_.1))) hb); replace HO499 := Aside0.mk (Kd.R_below (rT (Kd.R_mono (Kd.R_far (p := ⟨gb509, 1, none⟩) (Kd.R_far (p := ⟨gb509, 0, none⟩) (Kd.R_types HO499.out BK509.out (by decide)) (fun _ hk => hk.2) (.slice Ao24 t502.length co24)) (fun _ hk => hk.2) (.slice Ao28 t505.length co28)) (fun _ h_ => h_.1))) hb); replace HO504 := Aside0.mk (Kd.R_below (rT (Kd.R_mono (Kd.R_far (p := ⟨gb509, 1, none⟩) (Kd.R_far (p := ⟨gb509, 0, none⟩) (Kd.R_types HO504.out BK509.out (by decide)) (fun _ hk => hk.2) (.slice Ao24 t502.length co24)) (fun _ hk => hk.2) (.slice Ao28 t505.length co28)) (fun _ h_ => h_.1))) hb); replace HO507 := Aside0.mk (Kd.R_below (rT (Kd.R_mono (Kd.R_far (p := ⟨gb509, 1, none⟩) (Kd.R_far (p := ⟨gb509, 0, none⟩) (Kd.R_types HO507.out BK509.out (by decide)) (fun _ hk => hk.2) (.slice Ao24 t502.length co24)) (fun _ hk => hk.2) (.slice Ao28 t505.length co28)) (fun _ h_ => h_.1))) hb); replace BK493 := kG BK493 hb; replace BK501 := kG BK501 hb; replace BK509 := Aside0.mk (blk_below (g := gb509) (o := .cells #[.slice Ao24 t502.length co24, .slice Ao28 t505.length co28] 25 (0, 0)) (by (with_reducible repeat (first | refine blk_drewN ?_ _ | refine blk_drew ?_ | refine blk_alloc ?_ _)); refine blk_put (cs := #[.slice Ao24 t502.length co24, .slice none 0 0]) ?_ 1 _ rfl; (with_reducible repeat (first | refine blk_drewN ?_ _ | refine blk_drew ?_ | refine blk_alloc ?_ _)); refine blk_put (cs := #[.slice none 0 0, .slice none 0 0]) ?_ 0 _ rfl; (with_reducible repeat (first | refine blk_drewN ?_ _ | refine blk_drew ?_ | refine blk_alloc ?_ _)); exact BK509.out) hb); replace HB := bS HB hb; (try clear hb); (try clear hb2); (try clear hk); (try clear hi)))
       go_meet
       case rel => exact ⟨_, (!t500), eS, H', ⟨by have := HJ2.out; first | omega | exact Nat.le_refl _⟩, ⟨by (with_reducible repeat (first | apply Kd.Q_alloc | apply Kd.Q_drewN | apply Kd.Q_drew)); exact Kd.Q_mono HO489.out (fun _ hk => ⟨hk.1.1.1.1, ⟨hk.1.1.1.2, ⟨hk.1.1.2, ⟨hk.1.2, hk.2⟩⟩⟩⟩)⟩, ⟨by (with_reducible repeat (first | apply Kd.R_alloc | apply Kd.R_drewN | apply Kd.R_drew)); exact Kd.R_mono HO492.out (fun _ hk => ⟨hk.1.1.1.1, ⟨hk.1.1.1.2, ⟨hk.1.1.2, ⟨hk.1.2, hk.2⟩⟩⟩⟩)⟩, ⟨Kd.Q_of_R (by (with_reducible repeat (first | apply Kd.R_alloc | apply Kd.R_drewN | apply Kd.R_drew)); exact Kd.R_mono HO496.out (fun _ hk => ⟨hk.1.1.1.2, ⟨hk.1.1.2, ⟨hk.1.1.1.1, ⟨hk.1.2, hk.2⟩⟩⟩⟩))⟩, ⟨by (with_reducible repeat (first | apply Kd.R_alloc | apply Kd.R_drewN | apply Kd.R_drew)); exact Kd.R_mono HO499.out (fun _ hk => ⟨hk.1.1.1.2, ⟨hk.1.1.2, ⟨hk.1.1.1.1, ⟨hk.1.2, hk.2⟩⟩⟩⟩)⟩, ⟨Kd.Q_of_R (by (with_reducible repeat (first | apply Kd.R_alloc | apply Kd.R_drewN | apply Kd.R_drew)); exact Kd.R_mono HO504.out (fun _ hk => ⟨hk.1.1.1.2, ⟨hk.1.1.2, ⟨hk.1.2, ⟨hk.2, hk.1.1.1.1⟩⟩⟩⟩))⟩, ⟨by (with_reducible repeat (first | apply Kd.R_alloc | apply Kd.R_drewN | apply Kd.R_drew)); exact Kd.R_mono HO507.out (fun _ hk => ⟨hk.1.1.1.2, ⟨hk.1.1.2, ⟨hk.1.2, ⟨hk.2, hk.1.1.1.1⟩⟩⟩⟩)⟩, ⟨kP BK493⟩, ⟨kP BK501⟩, ⟨kP BK509⟩, ⟨bP HB⟩⟩
      ·replace c31 := Bool.eq_false_iff.mpr c31
       subst c31
       have H1 : (laws_FnDual.j1 kj2 l1 t500 t508 true t487 t490 t494 t497 t502 t505) = some r := by rw [if_neg (show ¬ (false = true) by decide)] at H; exact H
       clear H
       have H := H1
       clear H1
       have H' := Aside0.mk H
       clear H
       have hnb38 := NB501_493.out
       have hnc38 := NB493_501.out
       have hnb39 := NB501_509.out
       have hnc39 := NB509_501.out
       have hcz40_0 := zc0 BK501
       have hcz40_1 := zc1 BK501
       have hfz40_0 := blk_frozen BK501.out 0
       have hfz40_1 := blk_frozen BK501.out 1
       have hnb41 := NB509_493.out
       have hnc41 := NB493_509.out
       have hcz42_0 := zc0 BK509
       have hcz42_1 := zc1 BK509
       have hfz42_0 := blk_frozen BK509.out 0
       have hfz42_1 := blk_frozen BK509.out 1
       go_wp2_with (first | (go_at_call 22; (with_reducible refine (laws_sameMap.calls kj2 _ _ t494 _ _ t497 _ _ t502 _ _ t505 false _ ?side1 ?side2 ?side3 ?side4 ?side5 ?side6 ?side7 ?side8 A30.out).mono ?_); (case side1 => refine (Kd.R_reads' (e := 3) (base := w.heap.size) (ok := fun k_ => ((((oN k_ Ao20 t497 co20 ∧ oN k_ Ao12 t487 co12) ∧ oN k_ Ao14 t490 co14) ∧ oN k_ Ao24 t502 co24) ∧ oN k_ Ao28 t505 co28)) (n := t494.length) (c := co17) ?_).2.2; exact (rT (Kd.R_mono (Kd.R_far (p := ⟨gb509, 1, none⟩) (Kd.R_far (p := ⟨gb509, 0, none⟩) (Kd.R_types HO496.out BK509.out (by decide)) (fun _ hk => hk.2) (.slice Ao24 t502.length co24)) (fun _ hk => hk.2) (.slice Ao28 t505.length co28)) (fun _ h_ => h_.1)))); (case side2 => exact (Kd.R_reads' HO496.out).2.1); (case side3 => refine (Kd.R_reads' (e := 3) (base := w.heap.size) (ok := fun k_ => ((((oN k_ Ao17 t494 co17 ∧ oN k_ Ao12 t487 co12) ∧ oN k_ Ao14 t490 co14) ∧ oN k_ Ao24 t502 co24) ∧ oN k_ Ao28 t505 co28)) (n := t497.length) (c := co20) ?_).2.2; exact (rT (Kd.R_mono (Kd.R_far (p := ⟨gb509, 1, none⟩) (Kd.R_far (p := ⟨gb509, 0, none⟩) (Kd.R_types HO499.out BK509.out (by decide)) (fun _ hk => hk.2) (.slice Ao24 t502.length co24)) (fun _ hk => hk.2) (.slice Ao28 t505.length co28)) (fun _ h_ => h_.1)))); (case side4 => exact (Kd.R_reads' HO499.out).2.1); (case side5 => refine (Kd.R_reads' (e := 3) (base := w.heap.size) (ok := fun k_ => ((((oN k_ Ao28 t505 co28 ∧ oN k_ Ao12 t487 co12) ∧ oN k_ Ao14 t490 co14) ∧ oN k_ Ao17 t494 co17) ∧ oN k_ Ao20 t497 co20)) (n := t502.length) (c := co24) ?_).2.2; exact (rT (Kd.R_mono (Kd.R_far (p := ⟨gb509, 1, none⟩) (Kd.R_far (p := ⟨gb509, 0, none⟩) (Kd.R_types HO504.out BK509.out (by decide)) (fun _ hk => hk.2) (.slice Ao24 t502.length co24)) (fun _ hk => hk.2) (.slice Ao28 t505.length co28)) (fun _ h_ => h_.1)))); (case side6 => exact (Kd.R_reads' HO504.out).2.1); (case side7 => refine (Kd.R_reads' (e := 3) (base := w.heap.size) (ok := fun k_ => ((((oN k_ Ao24 t502 co24 ∧ oN k_ Ao12 t487 co12) ∧ oN k_ Ao14 t490 co14) ∧ oN k_ Ao17 t494 co17) ∧ oN k_ Ao20 t497 co20)) (n := t505.length) (c := co28) ?_).2.2; exact (rT (Kd.R_mono (Kd.R_far (p := ⟨gb509, 1, none⟩) (Kd.R_far (p := ⟨gb509, 0, none⟩) (Kd.R_types HO507.out BK509.out (by decide)) (fun _ hk => hk.2) (.slice Ao24 t502.length co24)) (fun _ hk => hk.2) (.slice Ao28 t505.length co28)) (fun _ h_ => h_.1)))); (case side8 => exact (Kd.R_reads' HO507.out).2.1); rintro e w43 ⟨rfl, hb⟩; replace HO489 := Aside0.mk (Kd.Q_below (by (with_reducible repeat (first | apply Kd.Q_alloc | apply Kd.Q_drewN | apply Kd.Q_drew)); exact (Kd.Q_mono (Kd.Q_far (p := ⟨gb509, 1, none⟩) (Kd.Q_far (p := ⟨gb509, 0, none⟩) (Kd.Q_types HO489.out BK509.out (by decide)) (fun _ hk => hk.2) (.slice Ao24 t502.length co24)) (fun _ hk => hk.2) (.slice Ao28 t505.length co28)) (fun _ h_ => h_.1))) hb); replace HO492 := Aside0.mk (Kd.R_below (rT (Kd.R_mono (Kd.R_far (p := ⟨gb509, 1, none⟩) (Kd.R_far (p := ⟨gb509, 0, none⟩) (Kd.R_types HO492.out BK509.out (by decide)) (fun _ hk => hk.2) (.slice Ao24 t502.length co24)) (fun _ hk => hk.2) (.slice Ao28 t505.length co28)) (fun _ h_ => h_.1))) hb); replace HO496 := Aside0.mk (Kd.R_below (rT (Kd.R_mono (Kd.R_far (p := ⟨gb509, 1, none⟩) (Kd.R_far (p := ⟨gb509, 0, none⟩) (Kd.R_types HO496.out BK509.out (by decide)) (fun _ hk => hk.2) (.slice Ao24 t502.length co24)) (fun _ hk => hk.2) (.slice Ao28 t505.length co28)) (fun _ h_ => h_.1))) hb); replace HO499 := Aside0.mk (Kd.R_below (rT (Kd.R_mono (Kd.R_far (p := ⟨gb509, 1, none⟩) (Kd.R_far (p := ⟨gb509, 0, none⟩) (Kd.R_types HO499.out BK509.out (by decide)) (fun _ hk => hk.2) (.slice Ao24 t502.length co24)) (fun _ hk => hk.2) (.slice Ao28 t505.length co28)) (fun _ h_ => h_.1))) hb); replace HO504 := Aside0.mk (Kd.R_below (rT (Kd.R_mono (Kd.R_far (p := ⟨gb509, 1, none⟩) (Kd.R_far (p := ⟨gb509, 0, none⟩) (Kd.R_types HO504.out BK509.out (by decide)) (fun _ hk => hk.2) (.slice Ao24 t502.length co24)) (fun _ hk => hk.2) (.slice Ao28 t505.length co28)) (fun _ h_ => h_.1))) hb); replace HO507 := Aside0.mk (Kd.R_below (rT (Kd.R_mono (Kd.R_far (p := ⟨gb509, 1, none⟩) (Kd.R_far (p := ⟨gb509, 0, none⟩) (Kd.R_types HO507.out BK509.out (by decide)) (fun _ hk => hk.2) (.slice Ao24 t502.length co24)) (fun _ hk => hk.2) (.slice Ao28 t505.length co28)) (fun _ h_ => h_.1))) hb); replace BK493 := kG BK493 hb; replace BK501 := kG BK501 hb; replace BK509 := Aside0.mk (blk_below (g := gb509) (o := .cells #[.slice Ao24 t502.length co24, .slice Ao28 t505.length co28] 25 (0, 0)) (by (with_reducible repeat (first | refine blk_drewN ?_ _ | refine blk_drew ?_ | refine blk_alloc ?_ _)); refine blk_put (cs := #[.slice Ao24 t502.length co24, .slice none 0 0]) ?_ 1 _ rfl; (with_reducible repeat (first | refine blk_drewN ?_ _ | refine blk_drew ?_ | refine blk_alloc ?_ _)); refine blk_put (cs := #[.slice none 0 0, .slice none 0 0]) ?_ 0 _ rfl; (with_reducible repeat (first | refine blk_drewN ?_ _ | refine blk_drew ?_ | refine blk_alloc ?_ _)); exact BK509.out) hb); replace HB := bS HB hb; (try clear hb); (try clear hb2); (try clear hk); (try clear hi)))
       go_meet
       case rel => exact ⟨_, (true), eS, H', ⟨by have := HJ2.out; first | omega | exact Nat.le_refl _⟩, ⟨by (with_reducible repeat (first | apply Kd.Q_alloc | apply Kd.Q_drewN | apply Kd.Q_drew)); exact Kd.Q_mono HO489.out (fun _ hk => ⟨hk.1.1.1.1, ⟨hk.1.1.1.2, ⟨hk.1.1.2, ⟨hk.1.2, hk.2⟩⟩⟩⟩)⟩, ⟨by (with_reducible repeat (first | apply Kd.R_alloc | apply Kd.R_drewN | apply Kd.R_drew)); exact Kd.R_mono HO492.out (fun _ hk => ⟨hk.1.1.1.1, ⟨hk.1.1.1.2, ⟨hk.1.1.2, ⟨hk.1.2, hk.2⟩⟩⟩⟩)⟩, ⟨Kd.Q_of_R (by (with_reducible repeat (first | apply Kd.R_alloc | apply Kd.R_drewN | apply Kd.R_drew)); exact Kd.R_mono HO496.out (fun _ hk => ⟨hk.1.1.1.2, ⟨hk.1.1.2, ⟨hk.1.1.1.1, ⟨hk.1.2, hk.2⟩⟩⟩⟩))⟩, ⟨by (with_reducible repeat (first | apply Kd.R_alloc | apply Kd.R_drewN | apply Kd.R_drew)); exact Kd.R_mono HO499.out (fun _ hk => ⟨hk.1.1.1.2, ⟨hk.1.1.2, ⟨hk.1.1.1.1, ⟨hk.1.2, hk.2⟩⟩⟩⟩)⟩, ⟨Kd.Q_of_R (by (with_reducible repeat (first | apply Kd.R_alloc | apply Kd.R_drewN | apply Kd.R_drew)); exact Kd.R_mono HO504.out (fun _ hk => ⟨hk.1.1.1.2, ⟨hk.1.1.2, ⟨hk.1.2, ⟨hk.2, hk.1.1.1.1⟩⟩⟩⟩))⟩, ⟨by (with_reducible repeat (first | apply Kd.R_alloc | apply Kd.R_drewN | apply Kd.R_drew)); exact Kd.R_mono HO507.out (fun _ hk => ⟨hk.1.1.1.2, ⟨hk.1.1.2, ⟨hk.1.2, ⟨hk.2, hk.1.1.1.1⟩⟩⟩⟩)⟩, ⟨kP BK493⟩, ⟨kP BK501⟩, ⟨kP BK509⟩, ⟨bP HB⟩⟩
    case rest =>
     clear HC9
     try clear c1
     try clear c2
     try clear p2
     try clear c3
     try clear c4
     try clear c4b0
     try clear c4b1
     try clear c5
     try clear c18
     try clear c19
     try clear c20
     try clear c21
     try clear c25
     try clear c26
     try clear c29
     try clear c29b0
     try clear c29b1
     try clear c29b2
     try clear c31
     try clear c32
     try clear c33
     try clear c35
     try clear c38
     try clear c39
     try clear c41
     try clear hcz13_0
     try clear hcz13_1
     try clear hcz19_0
     try clear hcz19_1
     try clear hcz21_0
     try clear hcz21_1
     try clear hcz27_0
     try clear hcz27_1
     try clear hcz34_0
     try clear hcz34_1
     try clear hcz36_0
     try clear hcz36_1
     try clear hcz40_0
     try clear hcz40_1
     try clear hcz42_0
     try clear hcz42_1
     try clear hfz13_0
     try clear hfz13_1
     try clear hfz19_0
     try clear hfz19_1
     try clear hfz21_0
     try clear hfz21_1
     try clear hfz27_0
     try clear hfz27_1
     try clear hfz34_0
     try clear hfz34_1
     try clear hfz36_0
     try clear hfz36_1
     try clear hfz40_0
     try clear hfz40_1
     try clear hfz42_0
     try clear hfz42_1
     try clear p2
     obtain ⟨kq, x55_8, rfl, HA, HJ8, HO_494000, HO_494001, HO_502000, HO_502001, HO_510000, HO_510001, BK493, BK501, BK509, HB⟩ := hcut
     cases kq with
     | zero => exact absurd HA.out (by simp [laws_FnDual.j1])
     | succ kj8 =>
      have H := HA.out
      clear HA
      simp only [laws_FnDual.j1] at H
      by_cases c44 : x55_8 = true
      ·subst c44
       have H1 : (if (t500 == t508) = true then ((laws_sameMap.f kj8 t494 t497 t502 t505).bind fun t511 => (some t511)) else (some false)) = some r := by rw [if_pos rfl] at H; exact H
       clear H
       have H := H1
       clear H1
       by_cases c45 : (t500 == t508) = true
       ·rw [if_pos c45] at H
        have c45b0 : (t500 == t508) = true := c45
        (try (have c45b1 : decide (t500 = t508) = true := by simpa using c45))
        (try (have c45b2 : (t500 == t508) = true := by simpa using c45))
        clear c45
        replace H := Option.bind_eq_some_iff.mp H
        obtain ⟨t511, A460, H⟩ := H
        replace H : (some t511) = some r := H
        have A46 := Aside0.mk A460
        clear A460
        obtain rfl := Option.some.inj H
        have hnb47 := NB501_493.out
        have hnc47 := NB493_501.out
        have hnb48 := NB501_509.out
        have hnc48 := NB509_501.out
        have hcz49_0 := zc0 BK501
        have hcz49_1 := zc1 BK501
        have hfz49_0 := blk_frozen BK501.out 0
        have hfz49_1 := blk_frozen BK501.out 1
        have hnb50 := NB509_493.out
        have hnc50 := NB493_509.out
        have hcz51_0 := zc0 BK509
        have hcz51_1 := zc1 BK509
        have hfz51_0 := blk_frozen BK509.out 0
        have hfz51_1 := blk_frozen BK509.out 1
        go_wp2_with (first | (go_at_call 22; (with_reducible refine (laws_sameMap.calls kj8 _ _ t494 _ _ t497 _ _ t502 _ _ t505 t511 _ ?side1 ?side2 ?side3 ?side4 ?side5 ?side6 ?side7 ?side8 A46.out).mono ?_); (case side1 => exact cP (Kd.Q_reads' HO_502000.out).2.2); (case side2 => exact (Kd.Q_reads' HO_502000.out).2.1); (case side3 => exact cP (Kd.R_reads' HO_502001.out).2.2); (case side4 => exact (Kd.R_reads' HO_502001.out).2.1); (case side5 => exact cP (Kd.Q_reads' HO_510000.out).2.2); (case side6 => exact (Kd.Q_reads' HO_510000.out).2.1); (case side7 => exact cP (Kd.R_reads' HO_510001.out).2.2); (case side8 => exact (Kd.R_reads' HO_510001.out).2.1); rintro e w52 ⟨rfl, hb⟩; replace HO_494000 := Aside0.mk (Kd.Q_below (by (with_reducible repeat (first | apply Kd.Q_alloc | apply Kd.Q_drewN | apply Kd.Q_drew)); exact HO_494000.out) hb); replace HO_494001 := rB HO_494001 hb; replace HO_502000 := Aside0.mk (Kd.Q_below (by (with_reducible repeat (first | apply Kd.Q_alloc | apply Kd.Q_drewN | apply Kd.Q_drew)); exact HO_502000.out) hb); replace HO_502001 := rB HO_502001 hb; replace HO_510000 := Aside0.mk (Kd.Q_below (by (with_reducible repeat (first | apply Kd.Q_alloc | apply Kd.Q_drewN | apply Kd.Q_drew)); exact HO_510000.out) hb); replace HO_510001 := rB HO_510001 hb; replace BK493 := kB BK493 hb; replace BK501 := kB BK501 hb; replace BK509 := kB BK509 hb; replace HB := bS HB hb; (try clear hb); (try clear hb2); (try clear hk); (try clear hi)))
        go_ret
        exact ⟨eR, bP HB⟩
       ·rw [if_neg c45] at H
        have c45b0 : (t500 == t508) = false := by simpa using c45
        (try (have c45b1 : decide (t500 = t508) = false := by simpa using c45))
        (try (have c45b2 : (t500 == t508) = false := by simpa using c45))
        (try (have c45b3 : ¬ (t500 = t508) := by simpa using c45))
        clear c45
        exact absurd ((Option.some.inj H).trans hr_.out) (by decide)
      ·replace c44 := Bool.eq_false_iff.mpr c44
       subst c44
       have H1 : ((impl_MapDual.f kj8 t494 t497).bind fun bt512 => ((impl_MapCounts.f kj8 t487 t490).bind fun bt520 => ((impl_MapCounts.f kj8 t494 t497).bind fun bt524 => ((laws_mixOf.f kj8 (t487.length : Int) (1 + ((l1.length : Int) % 5))).bind fun t528 => ((impl_MapRename.f kj8 t494 t497 t528).bind fun bt531 => ((impl_MapRename.f kj8 t487 t490 t528).bind fun bt539 => ((impl_MapDual.f kj8 bt539.1 bt539.2.1).bind fun bt547 => (if bt512.2.2 = true then (if bt520.2 = true then (if bt524.2 = true then (if bt531.2.2 = true then (if bt539.2.2 = true then (if bt547.2.2 = true then ((laws_sameMap.f kj8 bt512.1 bt512.2.1 t487 t490).bind fun t555 => (if t555 = true then (if 0 < (bt520.1.length : Int) then (if 2 < (bt524.1.length : Int) then (if (rd bt520.1 0) = (rd bt524.1 2) then (if 2 < (bt520.1.length : Int) then (if 0 < (bt524.1.length : Int) then (if (rd bt520.1 2) = (rd bt524.1 0) then (if 1 < (bt520.1.length : Int) then (if 1 < (bt524.1.length : Int) then (if (rd bt520.1 1) = (rd bt524.1 1) then ((laws_sameMap.f kj8 bt531.1 bt531.2.1 bt547.1 bt547.2.1).bind fun t562 => (some t562)) else (some false)) else (none)) else (none)) else (some false)) else (none)) else (none)) else (some false)) else (none)) else (none)) else (some false))) else (some false)) else (some false)) else (some false)) else (some false)) else (some false)) else (some false))))))))) = some r := by rw [if_neg (show ¬ (false = true) by decide)] at H; exact H
       clear H
       have H := H1
       clear H1
       replace H := Option.bind_eq_some_iff.mp H
       obtain ⟨⟨t512, t515, t518⟩, A530, H⟩ := H
       replace H : ((impl_MapCounts.f kj8 t487 t490).bind fun bt520 => ((impl_MapCounts.f kj8 t494 t497).bind fun bt524 => ((laws_mixOf.f kj8 (t487.length : Int) (1 + ((l1.length : Int) % 5))).bind fun t528 => ((impl_MapRename.f kj8 t494 t497 t528).bind fun bt531 => ((impl_MapRename.f kj8 t487 t490 t528).bind fun bt539 => ((impl_MapDual.f kj8 bt539.1 bt539.2.1).bind fun bt547 => (if t518 = true then (if bt520.2 = true then (if bt524.2 = true then (if bt531.2.2 = true then (if bt539.2.2 = true then (if bt547.2.2 = true then ((laws_sameMap.f kj8 t512 t515 t487 t490).bind fun t555 => (if t555 = true then (if 0 < (bt520.1.length : Int) then (if 2 < (bt524.1.length : Int) then (if (rd bt520.1 0) = (rd bt524.1 2) then (if 2 < (bt520.1.length : Int) then (if 0 < (bt524.1.length : Int) then (if (rd bt520.1 2) = (rd bt524.1 0) then (if 1 < (bt520.1.length : Int) then (if 1 < (bt524.1.length : Int) then (if (rd bt520.1 1) = (rd bt524.1 1) then ((laws_sameMap.f kj8 bt531.1 bt531.2.1 bt547.1 bt547.2.1).bind fun t562 => (some t562)) else (some false)) else (none)) else (none)) else (some false)) else (none)) else (none)) else (some false)) else (none)) else (none)) else (some false))) else (some false)) else (some false)) else (some false)) else (some false)) else (some false)) else (some false)))))))) = some r := H
       have A53 := Aside0.mk A530
       clear A530
       replace H := Option.bind_eq_some_iff.mp H
       obtain ⟨⟨t520, t523⟩, A540, H⟩ := H
       replace H : ((impl_MapCounts.f kj8 t494 t497).bind fun bt524 => ((laws_mixOf.f kj8 (t487.length : Int) (1 + ((l1.length : Int) % 5))).bind fun t528 => ((impl_MapRename.f kj8 t494 t497 t528).bind fun bt531 => ((impl_MapRename.f kj8 t487 t490 t528).bind fun bt539 => ((impl_MapDual.f kj8 bt539.1 bt539.2.1).bind fun bt547 => (if t518 = true then (if t523 = true then (if bt524.2 = true then (if bt531.2.2 = true then (if bt539.2.2 = true then (if bt547.2.2 = true then ((laws_sameMap.f kj8 t512 t515 t487 t490).bind fun t555 => (if t555 = true then (if 0 < (t520.length : Int) then (if 2 < (bt524.1.length : Int) then (if (rd t520 0) = (rd bt524.1 2) then (if 2 < (t520.length : Int) then (if 0 < (bt524.1.length : Int) then (if (rd t520 2) = (rd bt524.1 0) then (if 1 < (t520.length : Int) then (if 1 < (bt524.1.length : Int) then (if (rd t520 1) = (rd bt524.1 1) then ((laws_sameMap.f kj8 bt531.1 bt531.2.1 bt547.1 bt547.2.1).bind fun t562 => (some t562)) else (some false)) else (none)) else (none)) else (some false)) else (none)) else (none)) else (some false)) else (none)) else (none)) else (some false))) else (some false)) else (some false)) else (some false)) else (some false)) else (some false)) else (some false))))))) = some r := H
       have A54 := Aside0.mk A540
       clear A540
       replace H := Option.bind_eq_some_iff.mp H
       obtain ⟨⟨t524, t527⟩, A550, H⟩ := H
       replace H : ((laws_mixOf.f kj8 (t487.length : Int) (1 + ((l1.length : Int) % 5))).bind fun t528 => ((impl_MapRename.f kj8 t494 t497 t528).bind fun bt531 => ((impl_MapRename.f kj8 t487 t490 t528).bind fun bt539 => ((impl_MapDual.f kj8 bt539.1 bt539.2.1).bind fun bt547 => (if t518 = true then (if t523 = true then (if t527 = true then (if bt531.2.2 = true then (if bt539.2.2 = true then (if bt547.2.2 = true then ((laws_sameMap.f kj8 t512 t515 t487 t490).bind fun t555 => (if t555 = true then (if 0 < (t520.length : Int) then (if 2 < (t524.length : Int) then (if (rd t520 0) = (rd t524 2) then (if 2 < (t520.length : Int) then (if 0 < (t524.length : Int) then (if (rd t520 2) = (rd t524 0) then (if 1 < (t520.length : Int) then (if 1 < (t524.length : Int) then (if (rd t520 1) = (rd t524 1) then ((laws_sameMap.f kj8 bt531.1 bt531.2.1 bt547.1 bt547.2.1).bind fun t562 => (some t562)) else (some false)) else (none)) else (none)) else (some false)) else (none)) else (none)) else (some false)) else (none)) else (none)) else (some false))) else (some false)) else (some false)) else (some false)) else (some false)) else (some false)) else (some false)))))) = some r := H
       have A55 := Aside0.mk A550
       clear A550
       replace H := Option.bind_eq_some_iff.mp H
       obtain ⟨t528, A560, H⟩ := H
       replace H : ((impl_MapRename.f kj8 t494 t497 t528).bind fun bt531 => ((impl_MapRename.f kj8 t487 t490 t528).bind fun bt539 => ((impl_MapDual.f kj8 bt539.1 bt539.2.1).bind fun bt547 => (if t518 = true then (if t523 = true then (if t527 = true then (if bt531.2.2 = true then (if bt539.2.2 = true then (if bt547.2.2 = true then ((laws_sameMap.f kj8 t512 t515 t487 t490).bind fun t555 => (if t555 = true then (if 0 < (t520.length : Int) then (if 2 < (t524.length : Int) then (if (rd t520 0) = (rd t524 2) then (if 2 < (t520.length : Int) then (if 0 < (t524.length : Int) then (if (rd t520 2) = (rd t524 0) then (if 1 < (t520.length : Int) then (if 1 < (t524.length : Int) then (if (rd t520 1) = (rd t524 1) then ((laws_sameMap.f kj8 bt531.1 bt531.2.1 bt547.1 bt547.2.1).bind fun t562 => (some t562)) else (some false)) else (none)) else (none)) else (some false)) else (none)) else (none)) else (some false)) else (none)) else (none)) else (some false))) else (some false)) else (some false)) else (some false)) else (some false)) else (some false)) else (some false))))) = some r := H
       have A56 := Aside0.mk A560
       clear A560
       replace H := Option.bind_eq_some_iff.mp H
       obtain ⟨⟨t531, t534, t537⟩, A570, H⟩ := H
       replace H : ((impl_MapRename.f kj8 t487 t490 t528).bind fun bt539 => ((impl_MapDual.f kj8 bt539.1 bt539.2.1).bind fun bt547 => (if t518 = true then (if t523 = true then (if t527 = true then (if t537 = true then (if bt539.2.2 = true then (if bt547.2.2 = true then ((laws_sameMap.f kj8 t512 t515 t487 t490).bind fun t555 => (if t555 = true then (if 0 < (t520.length : Int) then (if 2 < (t524.length : Int) then (if (rd t520 0) = (rd t524 2) then (if 2 < (t520.length : Int) then (if 0 < (t524.length : Int) then (if (rd t520 2) = (rd t524 0) then (if 1 < (t520.length : Int) then (if 1 < (t524.length : Int) then (if (rd t520 1) = (rd t524 1) then ((laws_sameMap.f kj8 t531 t534 bt547.1 bt547.2.1).bind fun t562 => (some t562)) else (some false)) else (none)) else (none)) else (some false)) else (none)) else (none)) else (some false)) else (none)) else (none)) else (some false))) else (some false)) else (some false)) else (some false)) else (some false)) else (some false)) else (some false)))) = some r := H
       have A57 := Aside0.mk A570
       clear A570
       replace H := Option.bind_eq_some_iff.mp H
       obtain ⟨⟨t539, t542, t545⟩, A580, H⟩ := H
       replace H : ((impl_MapDual.f kj8 t539 t542).bind fun bt547 => (if t518 = true then (if t523 = true then (if t527 = true then (if t537 = true then (if t545 = true then (if bt547.2.2 = true then ((laws_sameMap.f kj8 t512 t515 t487 t490).bind fun t555 => (if t555 = true then (if 0 < (t520.length : Int) then (if 2 < (t524.length : Int) then (if (rd t520 0) = (rd t524 2) then (if 2 < (t520.length : Int) then (if 0 < (t524.length : Int) then (if (rd t520 2) = (rd t524 0) then (if 1 < (t520.length : Int) then (if 1 < (t524.length : Int) then (if (rd t520 1) = (rd t524 1) then ((laws_sameMap.f kj8 t531 t534 bt547.1 bt547.2.1).bind fun t562 => (some t562)) else (some false)) else (none)) else (none)) else (some false)) else (none)) else (none)) else (some false)) else (none)) else (none)) else (some false))) else (some false)) else (some false)) else (some false)) else (some false)) else (some false)) else (some false))) = some r := H
       have A58 := Aside0.mk A580
       clear A580
       replace H := Option.bind_eq_some_iff.mp H
       obtain ⟨⟨t547, t550, t553⟩, A590, H⟩ := H
       replace H : (if t518 = true then (if t523 = true then (if t527 = true then (if t537 = true then (if t545 = true then (if t553 = true then ((laws_sameMap.f kj8 t512 t515 t487 t490).bind fun t555 => (if t555 = true then (if 0 < (t520.length : Int) then (if 2 < (t524.length : Int) then (if (rd t520 0) = (rd t524 2) then (if 2 < (t520.length : Int) then (if 0 < (t524.length : Int) then (if (rd t520 2) = (rd t524 0) then (if 1 < (t520.length : Int) then (if 1 < (t524.length : Int) then (if (rd t520 1) = (rd t524 1) then ((laws_sameMap.f kj8 t531 t534 t547 t550).bind fun t562 => (some t562)) else (some false)) else (none)) else (none)) else (some false)) else (none)) else (none)) else (some false)) else (none)) else (none)) else (some false))) else (some false)) else (some false)) else (some false)) else (some false)) else (some false)) else (some false)) = some r := H
       have A59 := Aside0.mk A590
       clear A590
       by_cases c60 : t518 = true
       ·subst c60
        have H1 : (if t523 = true then (if t527 = true then (if t537 = true then (if t545 = true then (if t553 = true then ((laws_sameMap.f kj8 t512 t515 t487 t490).bind fun t555 => (if t555 = true then (if 0 < (t520.length : Int) then (if 2 < (t524.length : Int) then (if (rd t520 0) = (rd t524 2) then (if 2 < (t520.length : Int) then (if 0 < (t524.length : Int) then (if (rd t520 2) = (rd t524 0) then (if 1 < (t520.length : Int) then (if 1 < (t524.length : Int) then (if (rd t520 1) = (rd t524 1) then ((laws_sameMap.f kj8 t531 t534 t547 t550).bind fun t562 => (some t562)) else (some false)) else (none)) else (none)) else (some false)) else (none)) else (none)) else (some false)) else (none)) else (none)) else (some false))) else (some false)) else (some false)) else (some false)) else (some false)) else (some false)) = some r := by rw [if_pos rfl] at H; exact H
        clear H
        have H := H1
        clear H1
        by_cases c61 : t523 = true
        ·subst c61
         have H1 : (if t527 = true then (if t537 = true then (if t545 = true then (if t553 = true then ((laws_sameMap.f kj8 t512 t515 t487 t490).bind fun t555 => (if t555 = true then (if 0 < (t520.length : Int) then (if 2 < (t524.length : Int) then (if (rd t520 0) = (rd t524 2) then (if 2 < (t520.length : Int) then (if 0 < (t524.length : Int) then (if (rd t520 2) = (rd t524 0) then (if 1 < (t520.length : Int) then (if 1 < (t524.length : Int) then (if (rd t520 1) = (rd t524 1) then ((laws_sameMap.f kj8 t531 t534 t547 t550).bind fun t562 => (some t562)) else (some false)) else (none)) else (none)) else (some false)) else (none)) else (none)) else (some false)) else (none)) else (none)) else (some false))) else (some false)) else (some false)) else (some false)) else (some false)) = some r := by rw [if_pos rfl] at H; exact H
         clear H
         have H := H1
         clear H1
         by_cases c62 : t527 = true
         ·subst c62
          have H1 : (if t537 = true then (if t545 = true then (if t553 = true then ((laws_sameMap.f kj8 t512 t515 t487 t490).bind fun t555 => (if t555 = true then (if 0 < (t520.length : Int) then (if 2 < (t524.length : Int) then (if (rd t520 0) = (rd t524 2) then (if 2 < (t520.length : Int) then (if 0 < (t524.length : Int) then (if (rd t520 2) = (rd t524 0) then (if 1 < (t520.length : Int) then (if 1 < (t524.length : Int) then (if (rd t520 1) = (rd t524 1) then ((laws_sameMap.f kj8 t531 t534 t547 t550).bind fun t562 => (some t562)) else (some false)) else (none)) else (none)) else (some false)) else (none)) else (none)) else (some false)) else (none)) else (none)) else (some false))) else (some false)) else (some false)) else (some false)) = some r := by rw [if_pos rfl] at H; exact H
          clear H
          have H := H1
          clear H1
          by_cases c63 : t537 = true
          ·subst c63
           have H1 : (if t545 = true then (if t553 = true then ((laws_sameMap.f kj8 t512 t515 t487 t490).bind fun t555 => (if t555 = true then (if 0 < (t520.length : Int) then (if 2 < (t524.length : Int) then (if (rd t520 0) = (rd t524 2) then (if 2 < (t520.length : Int) then (if 0 < (t524.length : Int) then (if (rd t520 2) = (rd t524 0) then (if 1 < (t520.length : Int) then (if 1 < (t524.length : Int) then (if (rd t520 1) = (rd t524 1) then ((laws_sameMap.f kj8 t531 t534 t547 t550).bind fun t562 => (some t562)) else (some false)) else (none)) else (none)) else (some false)) else (none)) else (none)) else (some false)) else (none)) else (none)) else (some false))) else (some false)) else (some false)) = some r := by rw [if_pos rfl] at H; exact H
           clear H
           have H := H1
           clear H1
           by_cases c64 : t545 = true
           ·subst c64
            have H1 : (if t553 = true then ((laws_sameMap.f kj8 t512 t515 t487 t490).bind fun t555 => (if t555 = true then (if 0 < (t520.length : Int) then (if 2 < (t524.length : Int) then (if (rd t520 0) = (rd t524 2) then (if 2 < (t520.length : Int) then (if 0 < (t524.length : Int) then (if (rd t520 2) = (rd t524 0) then (if 1 < (t520.length : Int) then (if 1 < (t524.length : Int) then (if (rd t520 1) = (rd t524 1) then ((laws_sameMap.f kj8 t531 t534 t547 t550).bind fun t562 => (some t562)) else (some false)) else (none)) else (none)) else (some false)) else (none)) else (none)) else (some false)) else (none)) else (none)) else (some false))) else (some false)) = some r := by rw [if_pos rfl] at H; exact H
            clear H
            have H := H1
            clear H1
            by_cases c65 : t553 = true
            ·subst c65
             have H1 : ((laws_sameMap.f kj8 t512 t515 t487 t490).bind fun t555 => (if t555 = true then (if 0 < (t520.length : Int) then (if 2 < (t524.length : Int) then (if (rd t520 0) = (rd t524 2) then (if 2 < (t520.length : Int) then (if 0 < (t524.length : Int) then (if (rd t520 2) = (rd t524 0) then (if 1 < (t520.length : Int) then (if 1 < (t524.length : Int) then (if (rd t520 1) = (rd t524 1) then ((laws_sameMap.f kj8 t531 t534 t547 t550).bind fun t562 => (some t562)) else (some false)) else (none)) else (none)) else (some false)) else (none)) else (none)) else (some false)) else (none)) else (none)) else (some false))) = some r := by rw [if_pos rfl] at H; exact H
             clear H
             have H := H1
             clear H1
             replace H := Option.bind_eq_some_iff.mp H
             obtain ⟨t555, A660, H⟩ := H
             replace H : (if t555 = true then (if 0 < (t520.length : Int) then (if 2 < (t524.length : Int) then (if (rd t520 0) = (rd t524 2) then (if 2 < (t520.length : Int) then (if 0 < (t524.length : Int) then (if (rd t520 2) = (rd t524 0) then (if 1 < (t520.length : Int) then (if 1 < (t524.length : Int) then (if (rd t520 1) = (rd t524 1) then ((laws_sameMap.f kj8 t531 t534 t547 t550).bind fun t562 => (some t562)) else (some false)) else (none)) else (none)) else (some false)) else (none)) else (none)) else (some false)) else (none)) else (none)) else (some false)) = some r := H
             have A66 := Aside0.mk A660
             clear A660
             by_cases c67 : t555 = true
             ·subst c67
              have H1 : (if 0 < (t520.length : Int) then (if 2 < (t524.length : Int) then (if (rd t520 0) = (rd t524 2) then (if 2 < (t520.length : Int) then (if 0 < (t524.length : Int) then (if (rd t520 2) = (rd t524 0) then (if 1 < (t520.length : Int) then (if 1 < (t524.length : Int) then (if (rd t520 1) = (rd t524 1) then ((laws_sameMap.f kj8 t531 t534 t547 t550).bind fun t562 => (some t562)) else (some false)) else (none)) else (none)) else (some false)) else (none)) else (none)) else (some false)) else (none)) else (none)) = some r := by rw [if_pos rfl] at H; exact H
              clear H
              have H := H1
              clear H1
              by_cases c68 : 0 < (t520.length : Int)
              ·rw [if_pos c68] at H
               have c68b0 : decide (0 < (t520.length : Int)) = true := decide_eq_true c68
               have c68b1 : decide (0 < t520.length) = true := decide_eq_true (by omega)
               clear c68
               by_cases c69 : 2 < (t524.length : Int)
               ·rw [if_pos c69] at H
                have c69b0 : decide (2 < (t524.length : Int)) = true := decide_eq_true c69
                have c69b1 : decide (2 < t524.length) = true := decide_eq_true (by omega)
                clear c69
                by_cases c70 : (rd t520 0) = (rd t524 2)
                ·rw [if_pos c70] at H
                 have c70b0 : ((rd t520 0) == (rd t524 2)) = true := beq_iff_eq.mpr c70
                 have c70b1 : ((rd t520 0) != (rd t524 2)) = false := bne_eq_false_iff_eq.mpr c70
                 clear c70
                 by_cases c71 : 2 < (t520.length : Int)
                 ·rw [if_pos c71] at H
                  have c71b0 : decide (2 < (t520.length : Int)) = true := decide_eq_true c71
                  have c71b1 : decide (2 < t520.length) = true := decide_eq_true (by omega)
                  clear c71
                  by_cases c72 : 0 < (t524.length : Int)
                  ·rw [if_pos c72] at H
                   have c72b0 : decide (0 < (t524.length : Int)) = true := decide_eq_true c72
                   have c72b1 : decide (0 < t524.length) = true := decide_eq_true (by omega)
                   clear c72
                   by_cases c73 : (rd t520 2) = (rd t524 0)
                   ·rw [if_pos c73] at H
                    have c73b0 : ((rd t520 2) == (rd t524 0)) = true := beq_iff_eq.mpr c73
                    have c73b1 : ((rd t520 2) != (rd t524 0)) = false := bne_eq_false_iff_eq.mpr c73
                    clear c73
                    by_cases c74 : 1 < (t520.length : Int)
                    ·rw [if_pos c74] at H
                     have c74b0 : decide (1 < (t520.length : Int)) = true := decide_eq_true c74
                     have c74b1 : decide (1 < t520.length) = true := decide_eq_true (by omega)
                     clear c74
                     by_cases c75 : 1 < (t524.length : Int)
                     ·rw [if_pos c75] at H
                      have c75b0 : decide (1 < (t524.length : Int)) = true := decide_eq_true c75
                      have c75b1 : decide (1 < t524.length) = true := decide_eq_true (by omega)
                      clear c75
                      by_cases c76 : (rd t520 1) = (rd t524 1)
                      ·rw [if_pos c76] at H
                       have c76b0 : ((rd t520 1) == (rd t524 1)) = true := beq_iff_eq.mpr c76
                       have c76b1 : ((rd t520 1) != (rd t524 1)) = false := bne_eq_false_iff_eq.mpr c76
                       clear c76
                       replace H := Option.bind_eq_some_iff.mp H
                       obtain ⟨t562, A770, H⟩ := H
                       replace H : (some t562) = some r := H
                       have A77 := Aside0.mk A770
                       clear A770
                       obtain rfl := Option.some.inj H
                       have hnb78 := NB501_493.out
                       have hnc78 := NB493_501.out
                       have hnb79 := NB501_509.out
                       have hnc79 := NB509_501.out
                       have hcz80_0 := zc0 BK501
                       have hcz80_1 := zc1 BK501
                       have hfz80_0 := blk_frozen BK501.out 0
                       have hfz80_1 := blk_frozen BK501.out 1
                       try go_wp2_with (first | ((with_reducible refine gate_callee (f := 20) rfl ?_); refine gL (some 66) Try.func20 #[.agg #[.slice Ao17 t494.length co17, .slice Ao20 t497.length co20]] ?_; (with_reducible refine (impl_MapDual.calls kj8 _ _ t494 _ _ t497 t512 t515 true _ ?side1 ?side2 ?side3 ?side4 A53.out).mono ?_); (case side1 => exact cP (Kd.Q_reads' HO_502000.out).2.2); (case side2 => exact (Kd.Q_reads' HO_502000.out).2.1); (case side3 => exact cP (Kd.R_reads' HO_502001.out).2.2); (case side4 => exact (Kd.R_reads' HO_502001.out).2.1); rintro e w81 ⟨v513, v516, rfl, ho0, ho1, hb⟩; refine ⟨_, rfl, ?_⟩; have HO514 := Aside0.mk (Kd.R_lower (Kd.R_new' (Kd.R_new' (Kd.R_new' (Kd.R_new' (Kd.R_new' (Kd.R_new' ho0 (Kd.Q_lt (by (with_reducible repeat (first | apply Kd.Q_alloc | apply Kd.Q_drewN | apply Kd.Q_drew)); exact HO_494000.out))) (Kd.R_lt (rP HO_494001))) (Kd.Q_lt (by (with_reducible repeat (first | apply Kd.Q_alloc | apply Kd.Q_drewN | apply Kd.Q_drew)); exact HO_502000.out))) (Kd.R_lt (rP HO_502001))) (Kd.Q_lt (by (with_reducible repeat (first | apply Kd.Q_alloc | apply Kd.Q_drewN | apply Kd.Q_drew)); exact HO_510000.out))) (Kd.R_lt (rP HO_510001))) (below_size (bP HB))); have HO517 := Aside0.mk (Kd.R_lower (Kd.R_new' (Kd.R_new' (Kd.R_new' (Kd.R_new' (Kd.R_new' (Kd.R_new' ho1 (Kd.Q_lt (by (with_reducible repeat (first | apply Kd.Q_alloc | apply Kd.Q_drewN | apply Kd.Q_drew)); exact HO_494000.out))) (Kd.R_lt (rP HO_494001))) (Kd.Q_lt (by (with_reducible repeat (first | apply Kd.Q_alloc | apply Kd.Q_drewN | apply Kd.Q_drew)); exact HO_502000.out))) (Kd.R_lt (rP HO_502001))) (Kd.Q_lt (by (with_reducible repeat (first | apply Kd.Q_alloc | apply Kd.Q_drewN | apply Kd.Q_drew)); exact HO_510000.out))) (Kd.R_lt (rP HO_510001))) (below_size (bP HB))); replace HO_494000 := Aside0.mk (Kd.Q_mono (Kd.Q_told (Kd.Q_told (Kd.Q_old (by (with_reducible repeat (first | apply Kd.Q_alloc | apply Kd.Q_drewN | apply Kd.Q_drew)); exact HO_494000.out) hb) (Kd.R_base ho0)) (Kd.R_base ho1)) (fun _ h_ => h_.1)); replace HO_494001 := Aside0.mk (Kd.R_mono (Kd.R_told (Kd.R_told (Kd.R_old (rP HO_494001) hb) (Kd.R_base ho0)) (Kd.R_base ho1)) (fun _ h_ => h_.1)); replace HO_502000 := Aside0.mk (Kd.Q_mono (Kd.Q_told (Kd.Q_told (Kd.Q_old (by (with_reducible repeat (first | apply Kd.Q_alloc | apply Kd.Q_drewN | apply Kd.Q_drew)); exact HO_502000.out) hb) (Kd.R_base ho0)) (Kd.R_base ho1)) (fun _ h_ => h_.1)); replace HO_502001 := Aside0.mk (Kd.R_mono (Kd.R_told (Kd.R_told (Kd.R_old (rP HO_502001) hb) (Kd.R_base ho0)) (Kd.R_base ho1)) (fun _ h_ => h_.1)); replace HO_510000 := Aside0.mk (Kd.Q_mono (Kd.Q_told (Kd.Q_told (Kd.Q_old (by (with_reducible repeat (first | apply Kd.Q_alloc | apply Kd.Q_drewN | apply Kd.Q_drew)); exact HO_510000.out) hb) (Kd.R_base ho0)) (Kd.R_base ho1)) (fun _ h_ => h_.1)); replace HO_510001 := Aside0.mk (Kd.R_mono (Kd.R_told (Kd.R_told (Kd.R_old (rP HO_510001) hb) (Kd.R_base ho0)) (Kd.R_base ho1)) (fun _ h_ => h_.1)); replace BK493 := kB BK493 hb; replace BK501 := kB BK501 hb; replace BK509 := kB BK509 hb; replace HB := bS HB hb; (try clear hb); (try clear hb2); (try clear hk); (try clear hi); (try clear ho0); (try clear ho1)) | ((with_reducible refine gate_dst (N := 10) rfl ?_); (try (refine gate_guard (by rfl) ?_; dsimp only)); refine bE 10 #[.slice none 0 0, .slice none 0 0] 25 ?_; intro gb519 hg w82 hbox hb; replace HO_494000 := Aside0.mk (Kd.Q_below (by (with_reducible repeat (first | apply Kd.Q_alloc | apply Kd.Q_drewN | apply Kd.Q_drew)); exact HO_494000.out) hb); replace HO_494001 := rB HO_494001 hb; replace HO_502000 := Aside0.mk (Kd.Q_below (by (with_reducible repeat (first | apply Kd.Q_alloc | apply Kd.Q_drewN | apply Kd.Q_drew)); exact HO_502000.out) hb); replace HO_502001 := rB HO_502001 hb; replace HO_510000 := Aside0.mk (Kd.Q_below (by (with_reducible repeat (first | apply Kd.Q_alloc | apply Kd.Q_drewN | apply Kd.Q_drew)); exact HO_510000.out) hb); replace HO_510001 := rB HO_510001 hb; replace HO514 := rB HO514 hb; replace HO517 := rB HO517 hb; have BK519 := Aside0.mk (hbox); have GW519 := gS HB hg; have GE519 := gS HB hg; replace HB := bS HB hb; have NB493_519 := nL BK493 hg; have NB519_493 := nG BK493 hg; replace BK493 := kB BK493 hb; have NB501_519 := nL BK501 hg; have NB519_501 := nG BK501 hg; replace BK501 := kB BK501 hb; have NB509_519 := nL BK509 hg; have NB519_509 := nG BK509 hg; replace BK509 := kB BK509 hb; clear hb hbox hg; obtain ⟨Ao83, co83, eo83⟩ := Kd.R_slice HO514.out; subst eo83; have hnb84 := NB519_493.out; have hnc84 := NB493_519.out; have hnb85 := NB519_501.out; have hnc85 := NB501_519.out; have hnb86 := NB519_509.out; have hnc86 := NB509_519.out; have hcz87_0 := zc0 BK519; have hcz87_1 := zc1 BK519; have hfz87_0 := blk_frozen BK519.out 0; have hfz87_1 := blk_frozen BK519.out 1; obtain ⟨Ao88, co88, eo88⟩ := Kd.R_slice HO517.out; subst eo88; have hnb89 := NB493_509.out; have hnc89 := NB509_493.out; have hcz90_0 := zc0 BK493; have hcz90_1 := zc1 BK493; have hfz90_0 := blk_frozen BK493.out 0; have hfz90_1 := blk_frozen BK493.out 1) | ((with_reducible refine gate_callee (f := 13) rfl ?_); refine gL (some 71) Try.func13 #[.agg #[.slice Ao12 t487.length co12, .slice Ao14 t490.length co14]] ?_; (with_reducible refine (impl_MapCounts.calls kj8 _ _ t487 _ _ t490 t520 true _ ?side1 ?side2 ?side3 ?side4 A54.out).mono ?_); (case side1 => refine (Kd.Q_reads' (e := 3) (base := w.heap.size) (ok := fun k_ => (((oN k_ Ao14 t490 co14 ∧ (oN k_ Ao17 t494 co17 ∧ (oN k_ Ao20 t497 co20 ∧ (oN k_ Ao24 t502 co24 ∧ oN k_ Ao28 t505 co28)))) ∧ oN k_ Ao83 t512 co83) ∧ oN k_ Ao88 t515 co88)) (n := t487.length) (c := co12) ?_).2.2; exact (by (with_reducible repeat (first | apply Kd.Q_alloc | apply Kd.Q_drewN | apply Kd.Q_drew)); exact (Kd.Q_mono (Kd.Q_far (p := ⟨gb519, 1, none⟩) (Kd.Q_far (p := ⟨gb519, 0, none⟩) (Kd.Q_types HO_494000.out BK519.out (by decide)) (fun _ hk => hk.2) (.slice Ao83 t512.length co83)) (fun _ hk => hk.2) (.slice Ao88 t515.length co88)) (fun _ h_ => h_.1)))); (case side2 => exact (Kd.Q_reads' HO_494000.out).2.1); (case side3 => refine (Kd.R_reads' (e := 3) (base := w.heap.size) (ok := fun k_ => (((oN k_ Ao12 t487 co12 ∧ (oN k_ Ao17 t494 co17 ∧ (oN k_ Ao20 t497 co20 ∧ (oN k_ Ao24 t502 co24 ∧ oN k_ Ao28 t505 co28)))) ∧ oN k_ Ao83 t512 co83) ∧ oN k_ Ao88 t515 co88)) (n := t490.length) (c := co14) ?_).2.2; exact (rT (Kd.R_mono (Kd.R_far (p := ⟨gb519, 1, none⟩) (Kd.R_far (p := ⟨gb519, 0, none⟩) (Kd.R_types HO_494001.out BK519.out (by decide)) (fun _ hk => hk.2) (.slice Ao83 t512.length co83)) (fun _ hk => hk.2) (.slice Ao88 t515.length co88)) (fun _ h_ => h_.1)))); (case side4 => exact (Kd.R_reads' HO_494001.out).2.1); rintro e w91 ⟨v521, rfl, ho0, hb⟩; refine ⟨_, rfl, ?_⟩; have HO522 := Aside0.mk (Kd.R_lower (Kd.R_new' (Kd.R_new' (Kd.R_new' (Kd.R_new' (Kd.R_new' (Kd.R_new' (Kd.R_new' (Kd.R_new' ho0 (Kd.Q_lt (by (with_reducible repeat (first | apply Kd.Q_alloc | apply Kd.Q_drewN | apply Kd.Q_drew)); exact (Kd.Q_mono (Kd.Q_far (p := ⟨gb519, 1, none⟩) (Kd.Q_far (p := ⟨gb519, 0, none⟩) (Kd.Q_types HO_494000.out BK519.out (by decide)) (fun _ hk => hk.2) (.slice Ao83 t512.length co83)) (fun _ hk => hk.2) (.slice Ao88 t515.length co88)) (fun _ h_ => h_.1))))) (Kd.R_lt (rT (Kd.R_mono (Kd.R_far (p := ⟨gb519, 1, none⟩) (Kd.R_far (p := ⟨gb519, 0, none⟩) (Kd.R_types HO_494001.out BK519.out (by decide)) (fun _ hk => hk.2) (.slice Ao83 t512.length co83)) (fun _ hk => hk.2) (.slice Ao88 t515.length co88)) (fun _ h_ => h_.1))))) (Kd.Q_lt (by (with_reducible repeat (first | apply Kd.Q_alloc | apply Kd.Q_drewN | apply Kd.Q_drew)); exact (Kd.Q_mono (Kd.Q_far (p := ⟨gb519, 1, none⟩) (Kd.Q_far (p := ⟨gb519, 0, none⟩) (Kd.Q_types HO_502000.out BK519.out (by decide)) (fun _ hk => hk.2) (.slice Ao83 t512.length co83)) (fun _ hk => hk.2) (.slice Ao88 t515.length co88)) (fun _ h_ => h_.1))))) (Kd.R_lt (rT (Kd.R_mono (Kd.R_far (p := ⟨gb519, 1, none⟩) (Kd.R_far (p := ⟨gb519, 0, none⟩) (Kd.R_types HO_502001.out BK519.out (by decide)) (fun _ hk => hk.2) (.slice Ao83 t512.length co83)) (fun _ hk => hk.2) (.slice Ao88 t515.length co88)) (fun _ h_ => h_.1))))) (Kd.Q_lt (by (with_reducible repeat (first | apply Kd.Q_alloc | apply Kd.Q_drewN | apply Kd.Q_drew)); exact (Kd.Q_mono (Kd.Q_far (p := ⟨gb519, 1, none⟩) (Kd.Q_far (p := ⟨gb519, 0, none⟩) (Kd.Q_types HO_510000.out BK519.out (by decide)) (fun _ hk => hk.2) (.slice Ao83 t512.length co83)) (fun _ hk => hk.2) (.slice Ao88 t515.length co88)) (fun _ h_ => h_.1))))) (Kd.R_lt (rT (Kd.R_mono (Kd.R_far (p := ⟨gb519, 1, none⟩) (Kd.R_far (p := ⟨gb519, 0, none⟩) (Kd.R_types HO_510001.out BK519.out (by decide)) (fun _ hk => hk.2) (.slice Ao83 t512.length co83)) (fun _ hk => hk.2) (.slice Ao88 t515.length co88)) (fun _ h_ => h_.1))))) (Kd.R_lt (rT (Kd.R_mono (Kd.R_far (p := ⟨gb519, 1, none⟩) (Kd.R_far (p := ⟨gb519, 0, none⟩) (Kd.R_types HO514.out BK519.out (by decide)) (fun _ hk => hk.2) (.slice Ao83 t512.length co83)) (fun _ hk => hk.2) (.slice Ao88 t515.length co88)) (fun _ h_ => h_.1))))) (Kd.R_lt (rT (Kd.R_mono (Kd.R_far (p := ⟨gb519, 1, none⟩) (Kd.R_far (p := ⟨gb519, 0, none⟩) (Kd.R_types HO517.out BK519.out (by decide)) (fun _ hk => hk.2) (.slice Ao83 t512.length co83)) (fun _ hk => hk.2) (.slice Ao88 t515.length co88)) (fun _ h_ => h_.1))))) (below_size (bP HB))); replace HO_494000 := Aside0.mk (Kd.Q_elder' (by (with_reducible repeat (first | apply Kd.Q_alloc | apply Kd.Q_drewN | apply Kd.Q_drew)); exact (Kd.Q_mono (Kd.Q_far (p := ⟨gb519, 1, none⟩) (Kd.Q_far (p := ⟨gb519, 0, none⟩) (Kd.Q_types HO_494000.out BK519.out (by decide)) (fun _ hk => hk.2) (.slice Ao83 t512.length co83)) (fun _ hk => hk.2) (.slice Ao88 t515.length co88)) (fun _ h_ => h_.1))) (Kd.R_base ho0) hb); replace HO_494001 := Aside0.mk (Kd.R_elder' (rT (Kd.R_mono (Kd.R_far (p := ⟨gb519, 1, none⟩) (Kd.R_far (p := ⟨gb519, 0, none⟩) (Kd.R_types HO_494001.out BK519.out (by decide)) (fun _ hk => hk.2) (.slice Ao83 t512.length co83)) (fun _ hk => hk.2) (.slice Ao88 t515.length co88)) (fun _ h_ => h_.1))) (Kd.R_base ho0) hb); replace HO_502000 := Aside0.mk (Kd.Q_elder' (by (with_reducible repeat (first | apply Kd.Q_alloc | apply Kd.Q_drewN | apply Kd.Q_drew)); exact (Kd.Q_mono (Kd.Q_far (p := ⟨gb519, 1, none⟩) (Kd.Q_far (p := ⟨gb519, 0, none⟩) (Kd.Q_types HO_502000.out BK519.out (by decide)) (fun _ hk => hk.2) (.slice Ao83 t512.length co83)) (fun _ hk => hk.2) (.slice Ao88 t515.length co88)) (fun _ h_ => h_.1))) (Kd.R_base ho0) hb); replace HO_502001 := Aside0.mk (Kd.R_elder' (rT (Kd.R_mono (Kd.R_far (p := ⟨gb519, 1, none⟩) (Kd.R_far (p := ⟨gb519, 0, none⟩) (Kd.R_types HO_502001.out BK519.out (by decide)) (fun _ hk => hk.2) (.slice Ao83 t512.length co83)) (fun _ hk => hk.2) (.slice Ao88 t515.length co88)) (fun _ h_ => h_.1))) (Kd.R_base ho0) hb); replace HO_510000 := Aside0.mk (Kd.Q_elder' (by (with_reducible repeat (first | apply Kd.Q_alloc | apply Kd.Q_drewN | apply Kd.Q_drew)); exact (Kd.Q_mono (Kd.Q_far (p := ⟨gb519, 1, none⟩) (Kd.Q_far (p := ⟨gb519, 0, none⟩) (Kd.Q_types HO_510000.out BK519.out (by decide)) (fun _ hk => hk.2) (.slice Ao83 t512.length co83)) (fun _ hk => hk.2) (.slice Ao88 t515.length co88)) (fun _ h_ => h_.1))) (Kd.R_base ho0) hb); replace HO_510001 := Aside0.mk (Kd.R_elder' (rT (Kd.R_mono (Kd.R_far (p := ⟨gb519, 1, none⟩) (Kd.R_far (p := ⟨gb519, 0, none⟩) (Kd.R_types HO_510001.out BK519.out (by decide)) (fun _ hk => hk.2) (.slice Ao83 t512.length co83)) (fun _ hk => hk.2) (.slice Ao88 t515.length co88)) (fun _ h_ => h_.1))) (Kd.R_base ho0) hb); replace HO514 := Aside0.mk (Kd.R_elder' (rT (Kd.R_mono (Kd.R_far (p := ⟨gb519, 1, none⟩) (Kd.R_far (p := ⟨gb519, 0, none⟩) (Kd.R_types HO514.out BK519.out (by decide)) (fun _ hk => hk.2) (.slice Ao83 t512.length co83)) (fun _ hk => hk.2) (.slice Ao88 t515.length co88)) (fun _ h_ => h_.1))) (Kd.R_base ho0) hb); replace HO517 := Aside0.mk (Kd.R_elder' (rT (Kd.R_mono (Kd.R_far (p := ⟨gb519, 1, none⟩) (Kd.R_far (p := ⟨gb519, 0, none⟩) (Kd.R_types HO517.out BK519.out (by decide)) (fun _ hk => hk.2) (.slice Ao83 t512.length co83)) (fun _ hk => hk.2) (.slice Ao88 t515.length co88)) (fun _ h_ => h_.1))) (Kd.R_base ho0) hb); replace BK493 := kG BK493 hb; replace BK501 := kG BK501 hb; replace BK509 := kG BK509 hb; replace BK519 := Aside0.mk (blk_below (g := gb519) (o := .cells #[.slice Ao83 t512.length co83, .slice Ao88 t515.length co88] 25 (0, 0)) (by (with_reducible repeat (first | refine blk_drewN ?_ _ | refine blk_drew ?_ | refine blk_alloc ?_ _)); refine blk_put (cs := #[.slice Ao83 t512.length co83, .slice none 0 0]) ?_ 1 _ rfl; (with_reducible repeat (first | refine blk_drewN ?_ _ | refine blk_drew ?_ | refine blk_alloc ?_ _)); refine blk_put (cs := #[.slice none 0 0, .slice none 0 0]) ?_ 0 _ rfl; (with_reducible repeat (first | refine blk_drewN ?_ _ | refine blk_drew ?_ | refine blk_alloc ?_ _)); exact BK519.out) hb); replace HB := bS HB hb; (try clear hb); (try clear hb2); (try clear hk); (try clear hi); (try clear ho0); have hcz92_0 := zc0 BK501; have hcz92_1 := zc1 BK501; have hfz92_0 := blk_frozen BK501.out 0; have hfz92_1 := blk_frozen BK501.out 1) | ((with_reducible refine gate_callee (f := 13) rfl ?_); refine gL (some 76) Try.func13 #[.agg #[.slice Ao17 t494.length co17, .slice Ao20 t497.length co20]] ?_; (with_reducible refine (impl_MapCounts.calls kj8 _ _ t494 _ _ t497 t524 true _ ?side1 ?side2 ?side3 ?side4 A55.out).mono ?_); (case side1 => exact cP (Kd.Q_reads' HO_502000.out).2.2); (case side2 => exact (Kd.Q_reads' HO_502000.out).2.1); (case side3 => exact cP (Kd.R_reads' HO_502001.out).2.2); (case side4 => exact (Kd.R_reads' HO_502001.out).2.1); rintro e w93 ⟨v525, rfl, ho0, hb⟩; refine ⟨_, rfl, ?_⟩; have HO526 := Aside0.mk (Kd.R_lower (Kd.R_new' (Kd.R_new' (Kd.R_new' (Kd.R_new' (Kd.R_new' (Kd.R_new' (Kd.R_new' (Kd.R_new' (Kd.R_new' ho0 (Kd.Q_lt (by (with_reducible repeat (first | apply Kd.Q_alloc | apply Kd.Q_drewN | apply Kd.Q_drew)); exact HO_494000.out))) (Kd.R_lt (rP HO_494001))) (Kd.Q_lt (by (with_reducible repeat (first | apply Kd.Q_alloc | apply Kd.Q_drewN | apply Kd.Q_drew)); exact HO_502000.out))) (Kd.R_lt (rP HO_502001))) (Kd.Q_lt (by (with_reducible repeat (first | apply Kd.Q_alloc | apply Kd.Q_drewN | apply Kd.Q_drew)); exact HO_510000.out))) (Kd.R_lt (rP HO_510001))) (Kd.R_lt (rP HO514))) (Kd.R_lt (rP HO517))) (Kd.R_lt (rP HO522))) (below_size (bP HB))); replace HO_494000 := Aside0.mk (Kd.Q_elder' (by (with_reducible repeat (first | apply Kd.Q_alloc | apply Kd.Q_drewN | apply Kd.Q_drew)); exact HO_494000.out) (Kd.R_base ho0) hb); replace HO_494001 := Aside0.mk (Kd.R_elder' (rP HO_494001) (Kd.R_base ho0) hb); replace HO_502000 := Aside0.mk (Kd.Q_elder' (by (with_reducible repeat (first | apply Kd.Q_alloc | apply Kd.Q_drewN | apply Kd.Q_drew)); exact HO_502000.out) (Kd.R_base ho0) hb); replace HO_502001 := Aside0.mk (Kd.R_elder' (rP HO_502001) (Kd.R_base ho0) hb); replace HO_510000 := Aside0.mk (Kd.Q_elder' (by (with_reducible repeat (first | apply Kd.Q_alloc | apply Kd.Q_drewN | apply Kd.Q_drew)); exact HO_510000.out) (Kd.R_base ho0) hb); replace HO_510001 := Aside0.mk (Kd.R_elder' (rP HO_510001) (Kd.R_base ho0) hb); replace HO514 := Aside0.mk (Kd.R_elder' (rP HO514) (Kd.R_base ho0) hb); replace HO517 := Aside0.mk (Kd.R_elder' (rP HO517) (Kd.R_base ho0) hb); replace HO522 := Aside0.mk (Kd.R_elder' (rP HO522) (Kd.R_base ho0) hb); replace BK493 := kB BK493 hb; replace BK501 := kB BK501 hb; replace BK509 := kB BK509 hb; replace BK519 := kB BK519 hb; replace HB := bS HB hb; (try clear hb); (try clear hb2); (try clear hk); (try clear hi); (try clear ho0); have hcz94_0 := zc0 BK493; have hcz94_1 := zc1 BK493; have hfz94_0 := blk_frozen BK493.out 0; have hfz94_1 := blk_frozen BK493.out 1) | ((with_reducible refine gate_callee (f := 23) rfl ?_); refine gL (some 86) Try.func23 #[.int .i64 (t487.length : Int), .int .i64 (1 + ((l1.length : Int) % 5))] ?_; (with_reducible refine (laws_mixOf.calls kj8 (t487.length : Int) (1 + ((l1.length : Int) % 5)) t528 _ A56.out).mono ?_); rintro e w95 ⟨v529, rfl, ho0, hb⟩; refine ⟨_, rfl, ?_⟩; have HO530 := Aside0.mk (Kd.R_lower (Kd.R_new' (Kd.R_new' (Kd.R_new' (Kd.R_new' (Kd.R_new' (Kd.R_new' (Kd.R_new' (Kd.R_new' (Kd.R_new' (Kd.R_new' ho0 (Kd.Q_lt (by (with_reducible repeat (first | apply Kd.Q_alloc | apply Kd.Q_drewN | apply Kd.Q_drew)); exact HO_494000.out))) (Kd.R_lt (rP HO_494001))) (Kd.Q_lt (by (with_reducible repeat (first | apply Kd.Q_alloc | apply Kd.Q_drewN | apply Kd.Q_drew)); exact HO_502000.out))) (Kd.R_lt (rP HO_502001))) (Kd.Q_lt (by (with_reducible repeat (first | apply Kd.Q_alloc | apply Kd.Q_drewN | apply Kd.Q_drew)); exact HO_510000.out))) (Kd.R_lt (rP HO_510001))) (Kd.R_lt (rP HO514))) (Kd.R_lt (rP HO517))) (Kd.R_lt (rP HO522))) (Kd.R_lt (rP HO526))) (below_size (bP HB))); replace HO_494000 := Aside0.mk (Kd.Q_elder' (by (with_reducible repeat (first | apply Kd.Q_alloc | apply Kd.Q_drewN | apply Kd.Q_drew)); exact HO_494000.out) (Kd.R_base ho0) hb); replace HO_494001 := Aside0.mk (Kd.R_elder' (rP HO_494001) (Kd.R_base ho0) hb); replace HO_502000 := Aside0.mk (Kd.Q_elder' (by (with_reducible repeat (first | apply Kd.Q_alloc | apply Kd.Q_drewN | apply Kd.Q_drew)); exact HO_502000.out) (Kd.R_base ho0) hb); replace HO_502001 := Aside0.mk (Kd.R_elder' (rP HO_502001) (Kd.R_base ho0) hb); replace HO_510000 := Aside0.mk (Kd.Q_elder' (by (with_reducible repeat (first | apply Kd.Q_alloc | apply Kd.Q_drewN | apply Kd.Q_drew)); exact HO_510000.out) (Kd.R_base ho0) hb); replace HO_510001 := Aside0.mk (Kd.R_elder' (rP HO_510001) (Kd.R_base ho0) hb); replace HO514 := Aside0.mk (Kd.R_elder' (rP HO514) (Kd.R_base ho0) hb); replace HO517 := Aside0.mk (Kd.R_elder' (rP HO517) (Kd.R_base ho0) hb); replace HO522 := Aside0.mk (Kd.R_elder' (rP HO522) (Kd.R_base ho0) hb); replace HO526 := Aside0.mk (Kd.R_elder' (rP HO526) (Kd.R_base ho0) hb); replace BK493 := kB BK493 hb; replace BK501 := kB BK501 hb; replace BK509 := kB BK509 hb; replace BK519 := kB BK519 hb; replace HB := bS HB hb; (try clear hb); (try clear hb2); (try clear hk); (try clear hi); (try clear ho0); have hcz96_0 := zc0 BK501; have hcz96_1 := zc1 BK501; have hfz96_0 := blk_frozen BK501.out 0; have hfz96_1 := blk_frozen BK501.out 1; obtain ⟨Ao97, co97, eo97⟩ := Kd.R_slice HO530.out; subst eo97) | ((with_reducible refine gate_callee (f := 24) rfl ?_); refine gL (some 90) Try.func24 #[.agg #[.slice Ao17 t494.length co17, .slice Ao20 t497.length co20], .slice Ao97 t528.length co97] ?_; (with_reducible refine (impl_MapRename.calls kj8 _ _ t494 _ _ t497 _ _ t528 t531 t534 true _ ?side1 ?side2 ?side3 ?side4 ?side5 ?side6 A57.out).mono ?_); (case side1 => exact cP (Kd.Q_reads' HO_502000.out).2.2); (case side2 => exact (Kd.Q_reads' HO_502000.out).2.1); (case side3 => exact cP (Kd.R_reads' HO_502001.out).2.2); (case side4 => exact (Kd.R_reads' HO_502001.out).2.1); (case side5 => exact cP (Kd.R_reads' HO530.out).2.2); (case side6 => exact (Kd.R_reads' HO530.out).2.1); rintro e w98 ⟨v532, v535, rfl, ho0, ho1, hb⟩; refine ⟨_, rfl, ?_⟩; have HO533 := Aside0.mk (Kd.R_lower (Kd.R_new' (Kd.R_new' (Kd.R_new' (Kd.R_new' (Kd.R_new' (Kd.R_new' (Kd.R_new' (Kd.R_new' (Kd.R_new' (Kd.R_new' (Kd.R_new' ho0 (Kd.Q_lt (by (with_reducible repeat (first | apply Kd.Q_alloc | apply Kd.Q_drewN | apply Kd.Q_drew)); exact HO_494000.out))) (Kd.R_lt (rP HO_494001))) (Kd.Q_lt (by (with_reducible repeat (first | apply Kd.Q_alloc | apply Kd.Q_drewN | apply Kd.Q_drew)); exact HO_502000.out))) (Kd.R_lt (rP HO_502001))) (Kd.Q_lt (by (with_reducible repeat (first | apply Kd.Q_alloc | apply Kd.Q_drewN | apply Kd.Q_drew)); exact HO_510000.out))) (Kd.R_lt (rP HO_510001))) (Kd.R_lt (rP HO514))) (Kd.R_lt (rP HO517))) (Kd.R_lt (rP HO522))) (Kd.R_lt (rP HO526))) (Kd.R_lt (rP HO530))) (below_size (bP HB))); have HO536 := Aside0.mk (Kd.R_lower (Kd.R_new' (Kd.R_new' (Kd.R_new' (Kd.R_new' (Kd.R_new' (Kd.R_new' (Kd.R_new' (Kd.R_new' (Kd.R_new' (Kd.R_new' (Kd.R_new' ho1 (Kd.Q_lt (by (with_reducible repeat (first | apply Kd.Q_alloc | apply Kd.Q_drewN | apply Kd.Q_drew)); exact HO_494000.out))) (Kd.R_lt (rP HO_494001))) (Kd.Q_lt (by (with_reducible repeat (first | apply Kd.Q_alloc | apply Kd.Q_drewN | apply Kd.Q_drew)); exact HO_502000.out))) (Kd.R_lt (rP HO_502001))) (Kd.Q_lt (by (with_reducible repeat (first | apply Kd.Q_alloc | apply Kd.Q_drewN | apply Kd.Q_drew)); exact HO_510000.out))) (Kd.R_lt (rP HO_510001))) (Kd.R_lt (rP HO514))) (Kd.R_lt (rP HO517))) (Kd.R_lt (rP HO522))) (Kd.R_lt (rP HO526))) (Kd.R_lt (rP HO530))) (below_size (bP HB))); replace HO_494000 := Aside0.mk (Kd.Q_mono (Kd.Q_told (Kd.Q_told (Kd.Q_old (by (with_reducible repeat (first | apply Kd.Q_alloc | apply Kd.Q_drewN | apply Kd.Q_drew)); exact HO_494000.out) hb) (Kd.R_base ho0)) (Kd.R_base ho1)) (fun _ h_ => h_.1)); replace HO_494001 := Aside0.mk (Kd.R_mono (Kd.R_told (Kd.R_told (Kd.R_old (rP HO_494001) hb) (Kd.R_base ho0)) (Kd.R_base ho1)) (fun _ h_ => h_.1)); replace HO_502000 := Aside0.mk (Kd.Q_mono (Kd.Q_told (Kd.Q_told (Kd.Q_old (by (with_reducible repeat (first | apply Kd.Q_alloc | apply Kd.Q_drewN | apply Kd.Q_drew)); exact HO_502000.out) hb) (Kd.R_base ho0)) (Kd.R_base ho1)) (fun _ h_ => h_.1)); replace HO_502001 := Aside0.mk (Kd.R_mono (Kd.R_told (Kd.R_told (Kd.R_old (rP HO_502001) hb) (Kd.R_base ho0)) (Kd.R_base ho1)) (fun _ h_ => h_.1)); replace HO_510000 := Aside0.mk (Kd.Q_mono (Kd.Q_told (Kd.Q_told (Kd.Q_old (by (with_reducible repeat (first | apply Kd.Q_alloc | apply Kd.Q_drewN | apply Kd.Q_drew)); exact HO_510000.out) hb) (Kd.R_base ho0)) (Kd.R_base ho1)) (fun _ h_ => h_.1)); replace HO_510001 := Aside0.mk (Kd.R_mono (Kd.R_told (Kd.R_told (Kd.R_old (rP HO_510001) hb) (Kd.R_base ho0)) (Kd.R_base ho1)) (fun _ h_ => h_.1)); replace HO514 := Aside0.mk (Kd.R_mono (Kd.R_told (Kd.R_told (Kd.R_old (rP HO514) hb) (Kd.R_base ho0)) (Kd.R_base ho1)) (fun _ h_ => h_.1)); replace HO517 := Aside0.mk (Kd.R_mono (Kd.R_told (Kd.R_told (Kd.R_old (rP HO517) hb) (Kd.R_base ho0)) (Kd.R_base ho1)) (fun _ h_ => h_.1)); replace HO522 := Aside0.mk (Kd.R_mono (Kd.R_told (Kd.R_told (Kd.R_old (rP HO522) hb) (Kd.R_base ho0)) (Kd.R_base ho1)) (fun _ h_ => h_.1)); replace HO526 := Aside0.mk (Kd.R_mono (Kd.R_told (Kd.R_told (Kd.R_old (rP HO526) hb) (Kd.R_base ho0)) (Kd.R_base ho1)) (fun _ h_ => h_.1)); replace HO530 := Aside0.mk (Kd.R_mono (Kd.R_told (Kd.R_told (Kd.R_old (rP HO530) hb) (Kd.R_base ho0)) (Kd.R_base ho1)) (fun _ h_ => h_.1)); replace BK493 := kB BK493 hb; replace BK501 := kB BK501 hb; replace BK509 := kB BK509 hb; replace BK519 := kB BK519 hb; replace HB := bS HB hb; (try clear hb); (try clear hb2); (try clear hk); (try clear hi); (try clear ho0); (try clear ho1)) | ((with_reducible refine gate_dst (N := 17) rfl ?_); (try (refine gate_guard (by rfl) ?_; dsimp only)); refine bE 17 #[.slice none 0 0, .slice none 0 0] 25 ?_; intro gb538 hg w99 hbox hb; replace HO_494000 := Aside0.mk (Kd.Q_below (by (with_reducible repeat (first | apply Kd.Q_alloc | apply Kd.Q_drewN | apply Kd.Q_drew)); exact HO_494000.out) hb); replace HO_494001 := rB HO_494001 hb; replace HO_502000 := Aside0.mk (Kd.Q_below (by (with_reducible repeat (first | apply Kd.Q_alloc | apply Kd.Q_drewN | apply Kd.Q_drew)); exact HO_502000.out) hb); replace HO_502001 := rB HO_502001 hb; replace HO_510000 := Aside0.mk (Kd.Q_below (by (with_reducible repeat (first | apply Kd.Q_alloc | apply Kd.Q_drewN | apply Kd.Q_drew)); exact HO_510000.out) hb); replace HO_510001 := rB HO_510001 hb; replace HO514 := rB HO514 hb; replace HO517 := rB HO517 hb; replace HO522 := rB HO522 hb; replace HO526 := rB HO526 hb; replace HO530 := rB HO530 hb; replace HO533 := rB HO533 hb; replace HO536 := rB HO536 hb; have BK538 := Aside0.mk (hbox); have GW538 := gS HB hg; have GE538 := gS HB hg; replace HB := bS HB hb; have NB493_538 := nL BK493 hg; have NB538_493 := nG BK493 hg; replace BK493 := kB BK493 hb; have NB501_538 := nL BK501 hg; have NB538_501 := nG BK501 hg; replace BK501 := kB BK501 hb; have NB509_538 := nL BK509 hg; have NB538_509 := nG BK509 hg; replace BK509 := kB BK509 hb; have NB519_538 := nL BK519 hg; have NB538_519 := nG BK519 hg; replace BK519 := kB BK519 hb; clear hb hbox hg; obtain ⟨Ao100, co100, eo100⟩ := Kd.R_slice HO533.out; subst eo100; have hnb101 := NB538_493.out; have hnc101 := NB493_538.out; have hnb102 := NB538_501.out; have hnc102 := NB501_538.out; have hnb103 := NB538_509.out; have hnc103 := NB509_538.out; have hnb104 := NB538_519.out; have hnc104 := NB519_538.out; have hcz105_0 := zc0 BK538; have hcz105_1 := zc1 BK538; have hfz105_0 := blk_frozen BK538.out 0; have hfz105_1 := blk_frozen BK538.out 1; obtain ⟨Ao106, co106, eo106⟩ := Kd.R_slice HO536.out; subst eo106; have hcz107_0 := zc0 BK493; have hcz107_1 := zc1 BK493; have hfz107_0 := blk_frozen BK493.out 0; have hfz107_1 := blk_frozen BK493.out 1) | ((with_reducible refine gate_callee (f := 24) rfl ?_); refine gL (some 96) Try.func24 #[.agg #[.slice Ao12 t487.length co12, .slice Ao14 t490.length co14], .slice Ao97 t528.length co97] ?_; (with_reducible refine (impl_MapRename.calls kj8 _ _ t487 _ _ t490 _ _ t528 t539 t542 true _ ?side1 ?side2 ?side3 ?side4 ?side5 ?side6 A58.out).mono ?_); (case side1 => refine (Kd.Q_reads' (e := 3) (base := w.heap.size) (ok := fun k_ => ((((((((oN k_ Ao14 t490 co14 ∧ (oN k_ Ao17 t494 co17 ∧ (oN k_ Ao20 t497 co20 ∧ (oN k_ Ao24 t502 co24 ∧ oN k_ Ao28 t505 co28)))) ∧ oN k_ Ao83 t512 co83) ∧ oN k_ Ao88 t515 co88) ∧ some k_ ≠ (v521 : Value).ownBlock) ∧ some k_ ≠ (v525 : Value).ownBlock) ∧ oN k_ Ao97 t528 co97) ∧ oN k_ Ao100 t531 co100) ∧ oN k_ Ao106 t534 co106)) (n := t487.length) (c := co12) ?_).2.2; exact (by (with_reducible repeat (first | apply Kd.Q_alloc | apply Kd.Q_drewN | apply Kd.Q_drew)); exact (Kd.Q_mono (Kd.Q_far (p := ⟨gb538, 1, none⟩) (Kd.Q_far (p := ⟨gb538, 0, none⟩) (Kd.Q_types HO_494000.out BK538.out (by decide)) (fun _ hk => hk.2) (.slice Ao100 t531.length co100)) (fun _ hk => hk.2) (.slice Ao106 t534.length co106)) (fun _ h_ => h_.1)))); (case side2 => exact (Kd.Q_reads' HO_494000.out).2.1); (case side3 => refine (Kd.R_reads' (e := 3) (base := w.heap.size) (ok := fun k_ => ((((((((oN k_ Ao12 t487 co12 ∧ (oN k_ Ao17 t494 co17 ∧ (oN k_ Ao20 t497 co20 ∧ (oN k_ Ao24 t502 co24 ∧ oN k_ Ao28 t505 co28)))) ∧ oN k_ Ao83 t512 co83) ∧ oN k_ Ao88 t515 co88) ∧ some k_ ≠ (v521 : Value).ownBlock) ∧ some k_ ≠ (v525 : Value).ownBlock) ∧ oN k_ Ao97 t528 co97) ∧ oN k_ Ao100 t531 co100) ∧ oN k_ Ao106 t534 co106)) (n := t490.length) (c := co14) ?_).2.2; exact (rT (Kd.R_mono (Kd.R_far (p := ⟨gb538, 1, none⟩) (Kd.R_far (p := ⟨gb538, 0, none⟩) (Kd.R_types HO_494001.out BK538.out (by decide)) (fun _ hk => hk.2) (.slice Ao100 t531.length co100)) (fun _ hk => hk.2) (.slice Ao106 t534.length co106)) (fun _ h_ => h_.1)))); (case side4 => exact (Kd.R_reads' HO_494001.out).2.1); (case side5 => refine (Kd.R_reads' (e := 3) (base := w.heap.size) (ok := fun k_ => ((((((((((((True ∧ oN k_ Ao12 t487 co12) ∧ oN k_ Ao14 t490 co14) ∧ oN k_ Ao17 t494 co17) ∧ oN k_ Ao20 t497 co20) ∧ oN k_ Ao24 t502 co24) ∧ oN k_ Ao28 t505 co28) ∧ oN k_ Ao83 t512 co83) ∧ oN k_ Ao88 t515 co88) ∧ some k_ ≠ (v521 : Value).ownBlock) ∧ some k_ ≠ (v525 : Value).ownBlock) ∧ oN k_ Ao100 t531 co100) ∧ oN k_ Ao106 t534 co106)) (n := t528.length) (c := co97) ?_).2.2; exact (rT (Kd.R_mono (Kd.R_far (p := ⟨gb538, 1, none⟩) (Kd.R_far (p := ⟨gb538, 0, none⟩) (Kd.R_types HO530.out BK538.out (by decide)) (fun _ hk => hk.2) (.slice Ao100 t531.length co100)) (fun _ hk => hk.2) (.slice Ao106 t534.length co106)) (fun _ h_ => h_.1)))); (case side6 => exact (Kd.R_reads' HO530.out).2.1); rintro e w108 ⟨v540, v543, rfl, ho0, ho1, hb⟩; refine ⟨_, rfl, ?_⟩; have HO541 := Aside0.mk (Kd.R_lower (Kd.R_new' (Kd.R_new' (Kd.R_new' (Kd.R_new' (Kd.R_new' (Kd.R_new' (Kd.R_new' (Kd.R_new' (Kd.R_new' (Kd.R_new' (Kd.R_new' (Kd.R_new' (Kd.R_new' ho0 (Kd.Q_lt (by (with_reducible repeat (first | apply Kd.Q_alloc | apply Kd.Q_drewN | apply Kd.Q_drew)); exact (Kd.Q_mono (Kd.Q_far (p := ⟨gb538, 1, none⟩) (Kd.Q_far (p := ⟨gb538, 0, none⟩) (Kd.Q_types HO_494000.out BK538.out (by decide)) (fun _ hk => hk.2) (.slice Ao100 t531.length co100)) (fun _ hk => hk.2) (.slice Ao106 t534.length co106)) (fun _ h_ => h_.1))))) (Kd.R_lt (rT (Kd.R_mono (Kd.R_far (p := ⟨gb538, 1, none⟩) (Kd.R_far (p := ⟨gb538, 0, none⟩) (Kd.R_types HO_494001.out BK538.out (by decide)) (fun _ hk => hk.2) (.slice Ao100 t531.length co100)) (fun _ hk => hk.2) (.slice Ao106 t534.length co106)) (fun _ h_ => h_.1))))) (Kd.Q_lt (by (with_reducible repeat (first | apply Kd.Q_alloc | apply Kd.Q_drewN | apply Kd.Q_drew)); exact (Kd.Q_mono (Kd.Q_far (p := ⟨gb538, 1, none⟩) (Kd.Q_far (p := ⟨gb538, 0, none⟩) (Kd.Q_types HO_502000.out BK538.out (by decide)) (fun _ hk => hk.2) (.slice Ao100 t531.length co100)) (fun _ hk => hk.2) (.slice Ao106 t534.length co106)) (fun _ h_ => h_.1))))) (Kd.R_lt (rT (Kd.R_mono (Kd.R_far (p := ⟨gb538, 1, none⟩) (Kd.R_far (p := ⟨gb538, 0, none⟩) (Kd.R_types HO_502001.out BK538.out (by decide)) (fun _ hk => hk.2) (.slice Ao100 t531.length co100)) (fun _ hk => hk.2) (.slice Ao106 t534.length co106)) (fun _ h_ => h_.1))))) (Kd.Q_lt (by (with_reducible repeat (first | apply Kd.Q_alloc | apply Kd.Q_drewN | apply Kd.Q_drew)); exact (Kd.Q_mono (Kd.Q_far (p := ⟨gb538, 1, none⟩) (Kd.Q_far (p := ⟨gb538, 0, none⟩) (Kd.Q_types HO_510000.out BK538.out (by decide)) (fun _ hk => hk.2) (.slice Ao100 t531.length co100)) (fun _ hk => hk.2) (.slice Ao106 t534.length co106)) (fun _ h_ => h_.1))))) (Kd.R_lt (rT (Kd.R_mono (Kd.R_far (p := ⟨gb538, 1, none⟩) (Kd.R_far (p := ⟨gb538, 0, none⟩) (Kd.R_types HO_510001.out BK538.out (by decide)) (fun _ hk => hk.2) (.slice Ao100 t531.length co100)) (fun _ hk => hk.2) (.slice Ao106 t534.length co106)) (fun _ h_ => h_.1))))) (Kd.R_lt (rT (Kd.R_mono (Kd.R_far (p := ⟨gb538, 1, none⟩) (Kd.R_far (p := ⟨gb538, 0, none⟩) (Kd.R_types HO514.out BK538.out (by decide)) (fun _ hk => hk.2) (.slice Ao100 t531.length co100)) (fun _ hk => hk.2) (.slice Ao106 t534.length co106)) (fun _ h_ => h_.1))))) (Kd.R_lt (rT (Kd.R_mono (Kd.R_far (p := ⟨gb538, 1, none⟩) (Kd.R_far (p := ⟨gb538, 0, none⟩) (Kd.R_types HO517.out BK538.out (by decide)) (fun _ hk => hk.2) (.slice Ao100 t531.length co100)) (fun _ hk => hk.2) (.slice Ao106 t534.length co106)) (fun _ h_ => h_.1))))) (Kd.R_lt (rT (Kd.R_mono (Kd.R_far (p := ⟨gb538, 1, none⟩) (Kd.R_far (p := ⟨gb538, 0, none⟩) (Kd.R_types HO522.out BK538.out (by decide)) (fun _ hk => hk.2) (.slice Ao100 t531.length co100)) (fun _ hk => hk.2) (.slice Ao106 t534.length co106)) (fun _ h_ => h_.1))))) (Kd.R_lt (rT (Kd.R_mono (Kd.R_far (p := ⟨gb538, 1, none⟩) (Kd.R_far (p := ⟨gb538, 0, none⟩) (Kd.R_types HO526.out BK538.out (by decide)) (fun _ hk => hk.2) (.slice Ao100 t531.length co100)) (fun _ hk => hk.2) (.slice Ao106 t534.length co106)) (fun _ h_ => h_.1))))) (Kd.R_lt (rT (Kd.R_mono (Kd.R_far (p := ⟨gb538, 1, none⟩) (Kd.R_far (p := ⟨gb538, 0, none⟩) (Kd.R_types HO530.out BK538.out (by decide)) (fun _ hk => hk.2) (.slice Ao100 t531.length co100)) (fun _ hk => hk.2) (.slice Ao106 t534.length co106)) (fun _ h_ => h_.1))))) (Kd.R_lt (rT (Kd.R_mono (Kd.R_far (p := ⟨gb538, 1, none⟩) (Kd.R_far (p := ⟨gb538, 0, none⟩) (Kd.R_types HO533.out BK538.out (by decide)) (fun _ hk => hk.2) (.slice Ao100 t531.length co100)) (fun _ hk => hk.2) (.slice Ao106 t534.length co106)) (fun _ h_ => h_.1))))) (Kd.R_lt (rT (Kd.R_mono (Kd.R_far (p := ⟨gb538, 1, none⟩) (Kd.R_far (p := ⟨gb538, 0, none⟩) (Kd.R_types HO536.out BK538.out (by decide)) (fun _ hk => hk.2) (.slice Ao100 t531.length co100)) (fun _ hk => hk.2) (.slice Ao106 t534.length co106)) (fun _ h_ => h_.1))))) (below_size (bP HB))); have HO544 := Aside0.mk (Kd.R_lower (Kd.R_new' (Kd.R_new' (Kd.R_new' (Kd.R_new' (Kd.R_new' (Kd.R_new' (Kd.R_new' (Kd.R_new' (Kd.R_new' (Kd.R_new' (Kd.R_new' (Kd.R_new' (Kd.R_new' ho1 (Kd.Q_lt (by (with_reducible repeat (first | apply Kd.Q_alloc | apply Kd.Q_drewN | apply Kd.Q_drew)); exact (Kd.Q_mono (Kd.Q_far (p := ⟨gb538, 1, none⟩) (Kd.Q_far (p := ⟨gb538, 0, none⟩) (Kd.Q_types HO_494000.out BK538.out (by decide)) (fun _ hk => hk.2) (.slice Ao100 t531.length co100)) (fun _ hk => hk.2) (.slice Ao106 t534.length co106)) (fun _ h_ => h_.1))))) (Kd.R_lt (rT (Kd.R_mono (Kd.R_far (p := ⟨gb538, 1, none⟩) (Kd.R_far (p := ⟨gb538, 0, none⟩) (Kd.R_types HO_494001.out BK538.out (by decide)) (fun _ hk => hk.2) (.slice Ao100 t531.length co100)) (fun _ hk => hk.2) (.slice Ao106 t534.length co106)) (fun _ h_ => h_.1))))) (Kd.Q_lt (by (with_reducible repeat (first | apply Kd.Q_alloc | apply Kd.Q_drewN | apply Kd.Q_drew)); exact (Kd.Q_mono (Kd.Q_far (p := ⟨gb538, 1, none⟩) (Kd.Q_far (p := ⟨gb538, 0, none⟩) (Kd.Q_types HO_502000.out BK538.out (by decide)) (fun _ hk => hk.2) (.slice Ao100 t531.length co100)) (fun _ hk => hk.2) (.slice Ao106 t534.length co106)) (fun _ h_ => h_.1))))) (Kd.R_lt (rT (Kd.R_mono (Kd.R_far (p := ⟨gb538, 1, none⟩) (Kd.R_far (p := ⟨gb538, 0, none⟩) (Kd.R_types HO_502001.out BK538.out (by decide)) (fun _ hk => hk.2) (.slice Ao100 t531.length co100)) (fun _ hk => hk.2) (.slice Ao106 t534.length co106)) (fun _ h_ => h_.1))))) (Kd.Q_lt (by (with_reducible repeat (first | apply Kd.Q_alloc | apply Kd.Q_drewN | apply Kd.Q_drew)); exact (Kd.Q_mono (Kd.Q_far (p := ⟨gb538, 1, none⟩) (Kd.Q_far (p := ⟨gb538, 0, none⟩) (Kd.Q_types HO_510000.out BK538.out (by decide)) (fun _ hk => hk.2) (.slice Ao100 t531.length co100)) (fun _ hk => hk.2) (.slice Ao106 t534.length co106)) (fun _ h_ => h_.1))))) (Kd.R_lt (rT (Kd.R_mono (Kd.R_far (p := ⟨gb538, 1, none⟩) (Kd.R_far (p := ⟨gb538, 0, none⟩) (Kd.R_types HO_510001.out BK538.out (by decide)) (fun _ hk => hk.2) (.slice Ao100 t531.length co100)) (fun _ hk => hk.2) (.slice Ao106 t534.length co106)) (fun _ h_ => h_.1))))) (Kd.R_lt (rT (Kd.R_mono (Kd.R_far (p := ⟨gb538, 1, none⟩) (Kd.R_far (p := ⟨gb538, 0, none⟩) (Kd.R_types HO514.out BK538.out (by decide)) (fun _ hk => hk.2) (.slice Ao100 t531.length co100)) (fun _ hk => hk.2) (.slice Ao106 t534.length co106)) (fun _ h_ => h_.1))))) (Kd.R_lt (rT (Kd.R_mono (Kd.R_far (p := ⟨gb538, 1, none⟩) (Kd.R_far (p := ⟨gb538, 0, none⟩) (Kd.R_types HO517.out BK538.out (by decide)) (fun _ hk => hk.2) (.slice Ao100 t531.length co100)) (fun _ hk => hk.2) (.slice Ao106 t534.length co106)) (fun _ h_ => h_.1))))) (Kd.R_lt (rT (Kd.R_mono (Kd.R_far (p := ⟨gb538, 1, none⟩) (Kd.R_far (p := ⟨gb538, 0, none⟩) (Kd.R_types HO522.out BK538.out (by decide)) (fun _ hk => hk.2) (.slice Ao100 t531.length co100)) (fun _ hk => hk.2) (.slice Ao106 t534.length co106)) (fun _ h_ => h_.1))))) (Kd.R_lt (rT (Kd.R_mono (Kd.R_far (p := ⟨gb538, 1, none⟩) (Kd.R_far (p := ⟨gb538, 0, none⟩) (Kd.R_types HO526.out BK538.out (by decide)) (fun _ hk => hk.2) (.slice Ao100 t531.length co100)) (fun _ hk => hk.2) (.slice Ao106 t534.length co106)) (fun _ h_ => h_.1))))) (Kd.R_lt (rT (Kd.R_mono (Kd.R_far (p := ⟨gb538, 1, none⟩) (Kd.R_far (p := ⟨gb538, 0, none⟩) (Kd.R_types HO530.out BK538.out (by decide)) (fun _ hk => hk.2) (.slice Ao100 t531.length co100)) (fun _ hk => hk.2) (.slice Ao106 t534.length co106)) (fun _ h_ => h_.1))))) (Kd.R_lt (rT (Kd.R_mono (Kd.R_far (p := ⟨gb538, 1, none⟩) (Kd.R_far (p := ⟨gb538, 0, none⟩) (Kd.R_types HO533.out BK538.out (by decide)) (fun _ hk => hk.2) (.slice Ao100 t531.length co100)) (fun _ hk => hk.2) (.slice Ao106 t534.length co106)) (fun _ h_ => h_.1))))) (Kd.R_lt (rT (Kd.R_mono (Kd.R_far (p := ⟨gb538, 1, none⟩) (Kd.R_far (p := ⟨gb538, 0, none⟩) (Kd.R_types HO536.out BK538.out (by decide)) (fun _ hk => hk.2) (.slice Ao100 t531.length co100)) (fun _ hk => hk.2) (.slice Ao106 t534.length co106)) (fun _ h_ => h_.1))))) (below_size (bP HB))); replace HO_494000 := Aside0.mk (Kd.Q_mono (Kd.Q_told (Kd.Q_told (Kd.Q_old (by (with_reducible repeat (first | apply Kd.Q_alloc | apply Kd.Q_drewN | apply Kd.Q_drew)); exact (Kd.Q_mono (Kd.Q_far (p := ⟨gb538, 1, none⟩) (Kd.Q_far (p := ⟨gb538, 0, none⟩) (Kd.Q_types HO_494000.out BK538.out (by decide)) (fun _ hk => hk.2) (.slice Ao100 t531.length co100)) (fun _ hk => hk.2) (.slice Ao106 t534.length co106)) (fun _ h_ => h_.1))) hb) (Kd.R_base ho0)) (Kd.R_base ho1)) (fun _ h_ => h_.1)); replace HO_494001 := Aside0.mk (Kd.R_mono (Kd.R_told (Kd.R_told (Kd.R_old (rT (Kd.R_mono (Kd.R_far (p := ⟨gb538, 1, none⟩) (Kd.R_far (p := ⟨gb538, 0, none⟩) (Kd.R_types HO_494001.out BK538.out (by decide)) (fun _ hk => hk.2) (.slice Ao100 t531.length co100)) (fun _ hk => hk.2) (.slice Ao106 t534.length co106)) (fun _ h_ => h_.1))) hb) (Kd.R_base ho0)) (Kd.R_base ho1)) (fun _ h_ => h_.1)); replace HO_502000 := Aside0.mk (Kd.Q_mono (Kd.Q_told (Kd.Q_told (Kd.Q_old (by (with_reducible repeat (first | apply Kd.Q_alloc | apply Kd.Q_drewN | apply Kd.Q_drew)); exact (Kd.Q_mono (Kd.Q_far (p := ⟨gb538, 1, none⟩) (Kd.Q_far (p := ⟨gb538, 0, none⟩) (Kd.Q_types HO_502000.out BK538.out (by decide)) (fun _ hk => hk.2) (.slice Ao100 t531.length co100)) (fun _ hk => hk.2) (.slice Ao106 t534.length co106)) (fun _ h_ => h_.1))) hb) (Kd.R_base ho0)) (Kd.R_base ho1)) (fun _ h_ => h_.1)); replace HO_502001 := Aside0.mk (Kd.R_mono (Kd.R_told (Kd.R_told (Kd.R_old (rT (Kd.R_mono (Kd.R_far (p := ⟨gb538, 1, none⟩) (Kd.R_far (p := ⟨gb538, 0, none⟩) (Kd.R_types HO_502001.out BK538.out (by decide)) (fun _ hk => hk.2) (.slice Ao100 t531.length co100)) (fun _ hk => hk.2) (.slice Ao106 t534.length co106)) (fun _ h_ => h_.1))) hb) (Kd.R_base ho0)) (Kd.R_base ho1)) (fun _ h_ => h_.1)); replace HO_510000 := Aside0.mk (Kd.Q_mono (Kd.Q_told (Kd.Q_told (Kd.Q_old (by (with_reducible repeat (first | apply Kd.Q_alloc | apply Kd.Q_drewN | apply Kd.Q_drew)); exact (Kd.Q_mono (Kd.Q_far (p := ⟨gb538, 1, none⟩) (Kd.Q_far (p := ⟨gb538, 0, none⟩) (Kd.Q_types HO_510000.out BK538.out (by decide)) (fun _ hk => hk.2) (.slice Ao100 t531.length co100)) (fun _ hk => hk.2) (.slice Ao106 t534.length co106)) (fun _ h_ => h_.1))) hb) (Kd.R_base ho0)) (Kd.R_base ho1)) (fun _ h_ => h_.1)); replace HO_510001 := Aside0.mk (Kd.R_mono (Kd.R_told (Kd.R_told (Kd.R_old (rT (Kd.R_mono (Kd.R_far (p := ⟨gb538, 1, none⟩) (Kd.R_far (p := ⟨gb538, 0, none⟩) (Kd.R_types HO_510001.out BK538.out (by decide)) (fun _ hk => hk.2) (.slice Ao100 t531.length co100)) (fun _ hk => hk.2) (.slice Ao106 t534.length co106)) (fun _ h_ => h_.1))) hb) (Kd.R_base ho0)) (Kd.R_base ho1)) (fun _ h_ => h_.1)); replace HO514 := Aside0.mk (Kd.R_mono (Kd.R_told (Kd.R_told (Kd.R_old (rT (Kd.R_mono (Kd.R_far (p := ⟨gb538, 1, none⟩) (Kd.R_far (p := ⟨gb538, 0, none⟩) (Kd.R_types HO514.out BK538.out (by decide)) (fun _ hk => hk.2) (.slice Ao100 t531.length co100)) (fun _ hk => hk.2) (.slice Ao106 t534.length co106)) (fun _ h_ => h_.1))) hb) (Kd.R_base ho0)) (Kd.R_base ho1)) (fun _ h_ => h_.1)); replace HO517 := Aside0.mk (Kd.R_mono (Kd.R_told (Kd.R_told (Kd.R_old (rT (Kd.R_mono (Kd.R_far (p := ⟨gb538, 1, none⟩) (Kd.R_far (p := ⟨gb538, 0, none⟩) (Kd.R_types HO517.out BK538.out (by decide)) (fun _ hk => hk.2) (.slice Ao100 t531.length co100)) (fun _ hk => hk.2) (.slice Ao106 t534.length co106)) (fun _ h_ => h_.1))) hb) (Kd.R_base ho0)) (Kd.R_base ho1)) (fun _ h_ => h_.1)); replace HO522 := Aside0.mk (Kd.R_mono (Kd.R_told (Kd.R_told (Kd.R_old (rT (Kd.R_mono (Kd.R_far (p := ⟨gb538, 1, none⟩) (Kd.R_far (p := ⟨gb538, 0, none⟩) (Kd.R_types HO522.out BK538.out (by decide)) (fun _ hk => hk.2) (.slice Ao100 t531.length co100)) (fun _ hk => hk.2) (.slice Ao106 t534.length co106)) (fun _ h_ => h_.1))) hb) (Kd.R_base ho0)) (Kd.R_base ho1)) (fun _ h_ => h_.1)); replace HO526 := Aside0.mk (Kd.R_mono (Kd.R_told (Kd.R_told (Kd.R_old (rT (Kd.R_mono (Kd.R_far (p := ⟨gb538, 1, none⟩) (Kd.R_far (p := ⟨gb538, 0, none⟩) (Kd.R_types HO526.out BK538.out (by decide)) (fun _ hk => hk.2) (.slice Ao100 t531.length co100)) (fun _ hk => hk.2) (.slice Ao106 t534.length co106)) (fun _ h_ => h_.1))) hb) (Kd.R_base ho0)) (Kd.R_base ho1)) (fun _ h_ => h_.1)); replace HO530 := Aside0.mk (Kd.R_mono (Kd.R_told (Kd.R_told (Kd.R_old (rT (Kd.R_mono (Kd.R_far (p := ⟨gb538, 1, none⟩) (Kd.R_far (p := ⟨gb538, 0, none⟩) (Kd.R_types HO530.out BK538.out (by decide)) (fun _ hk => hk.2) (.slice Ao100 t531.length co100)) (fun _ hk => hk.2) (.slice Ao106 t534.length co106)) (fun _ h_ => h_.1))) hb) (Kd.R_base ho0)) (Kd.R_base ho1)) (fun _ h_ => h_.1)); replace HO533 := Aside0.mk (Kd.R_mono (Kd.R_told (Kd.R_told (Kd.R_old (rT (Kd.R_mono (Kd.R_far (p := ⟨gb538, 1, none⟩) (Kd.R_far (p := ⟨gb538, 0, none⟩) (Kd.R_types HO533.out BK538.out (by decide)) (fun _ hk => hk.2) (.slice Ao100 t531.length co100)) (fun _ hk => hk.2) (.slice Ao106 t534.length co106)) (fun _ h_ => h_.1))) hb) (Kd.R_base ho0)) (Kd.R_base ho1)) (fun _ h_ => h_.1)); replace HO536 := Aside0.mk (Kd.R_mono (Kd.R_told (Kd.R_told (Kd.R_old (rT (Kd.R_mono (Kd.R_far (p := ⟨gb538, 1, none⟩) (Kd.R_far (p := ⟨gb538, 0, none⟩) (Kd.R_types HO536.out BK538.out (by decide)) (fun _ hk => hk.2) (.slice Ao100 t531.length co100)) (fun _ hk => hk.2) (.slice Ao106 t534.length co106)) (fun _ h_ => h_.1))) hb) (Kd.R_base ho0)) (Kd.R_base ho1)) (fun _ h_ => h_.1)); replace BK493 := kG BK493 hb; replace BK501 := kG BK501 hb; replace BK509 := kG BK509 hb; replace BK519 := kG BK519 hb; replace BK538 := Aside0.mk (blk_below (g := gb538) (o := .cells #[.slice Ao100 t531.length co100, .slice Ao106 t534.length co106] 25 (0, 0)) (by (with_reducible repeat (first | refine blk_drewN ?_ _ | refine blk_drew ?_ | refine blk_alloc ?_ _)); refine blk_put (cs := #[.slice Ao100 t531.length co100, .slice none 0 0]) ?_ 1 _ rfl; (with_reducible repeat (first | refine blk_drewN ?_ _ | refine blk_drew ?_ | refine blk_alloc ?_ _)); refine blk_put (cs := #[.slice none 0 0, .slice none 0 0]) ?_ 0 _ rfl; (with_reducible repeat (first | refine blk_drewN ?_ _ | refine blk_drew ?_ | refine blk_alloc ?_ _)); exact BK538.out) hb); replace HB := bS HB hb; (try clear hb); (try clear hb2); (try clear hk); (try clear hi); (try clear ho0); (try clear ho1)) | ((with_reducible refine gate_dst (N := 19) rfl ?_); (try (refine gate_guard (by rfl) ?_; dsimp only)); refine bE 19 #[.slice none 0 0, .slice none 0 0] 25 ?_; intro gb546 hg w109 hbox hb; replace HO_494000 := Aside0.mk (Kd.Q_below (by (with_reducible repeat (first | apply Kd.Q_alloc | apply Kd.Q_drewN | apply Kd.Q_drew)); exact HO_494000.out) hb); replace HO_494001 := rB HO_494001 hb; replace HO_502000 := Aside0.mk (Kd.Q_below (by (with_reducible repeat (first | apply Kd.Q_alloc | apply Kd.Q_drewN | apply Kd.Q_drew)); exact HO_502000.out) hb); replace HO_502001 := rB HO_502001 hb; replace HO_510000 := Aside0.mk (Kd.Q_below (by (with_reducible repeat (first | apply Kd.Q_alloc | apply Kd.Q_drewN | apply Kd.Q_drew)); exact HO_510000.out) hb); replace HO_510001 := rB HO_510001 hb; replace HO514 := rB HO514 hb; replace HO517 := rB HO517 hb; replace HO522 := rB HO522 hb; replace HO526 := rB HO526 hb; replace HO530 := rB HO530 hb; replace HO533 := rB HO533 hb; replace HO536 := rB HO536 hb; replace HO541 := rB HO541 hb; replace HO544 := rB HO544 hb; have BK546 := Aside0.mk (hbox); have GW546 := gS HB hg; have GE546 := gS HB hg; replace HB := bS HB hb; have NB493_546 := nL BK493 hg; have NB546_493 := nG BK493 hg; replace BK493 := kB BK493 hb; have NB501_546 := nL BK501 hg; have NB546_501 := nG BK501 hg; replace BK501 := kB BK501 hb; have NB509_546 := nL BK509 hg; have NB546_509 := nG BK509 hg; replace BK509 := kB BK509 hb; have NB519_546 := nL BK519 hg; have NB546_519 := nG BK519 hg; replace BK519 := kB BK519 hb; have NB538_546 := nL BK538 hg; have NB546_538 := nG BK538 hg; replace BK538 := kB BK538 hb; clear hb hbox hg; obtain ⟨Ao110, co110, eo110⟩ := Kd.R_slice HO541.out; subst eo110; have hnb111 := NB546_493.out; have hnc111 := NB493_546.out; have hnb112 := NB546_501.out; have hnc112 := NB501_546.out; have hnb113 := NB546_509.out; have hnc113 := NB509_546.out; have hnb114 := NB546_519.out; have hnc114 := NB519_546.out; have hnb115 := NB546_538.out; have hnc115 := NB538_546.out; have hcz116_0 := zc0 BK546; have hcz116_1 := zc1 BK546; have hfz116_0 := blk_frozen BK546.out 0; have hfz116_1 := blk_frozen BK546.out 1; obtain ⟨Ao117, co117, eo117⟩ := Kd.R_slice HO544.out; subst eo117) | ((with_reducible refine gate_callee (f := 20) rfl ?_); refine gL (some 101) Try.func20 #[.agg #[.slice Ao110 t539.length co110, .slice Ao117 t542.length co117]] ?_; (with_reducible refine (impl_MapDual.calls kj8 _ _ t539 _ _ t542 t547 t550 true _ ?side1 ?side2 ?side3 ?side4 A59.out).mono ?_); (case side1 => refine (Kd.R_reads' (e := 3) (base := w.heap.size) (ok := fun k_ => (((((((((((((oN k_ Ao117 t542 co117 ∧ oN k_ Ao12 t487 co12) ∧ oN k_ Ao14 t490 co14) ∧ oN k_ Ao17 t494 co17) ∧ oN k_ Ao20 t497 co20) ∧ oN k_ Ao24 t502 co24) ∧ oN k_ Ao28 t505 co28) ∧ oN k_ Ao83 t512 co83) ∧ oN k_ Ao88 t515 co88) ∧ some k_ ≠ (v521 : Value).ownBlock) ∧ some k_ ≠ (v525 : Value).ownBlock) ∧ oN k_ Ao97 t528 co97) ∧ oN k_ Ao100 t531 co100) ∧ oN k_ Ao106 t534 co106)) (n := t539.length) (c := co110) ?_).2.2; exact (rT (Kd.R_mono (Kd.R_far (p := ⟨gb546, 1, none⟩) (Kd.R_far (p := ⟨gb546, 0, none⟩) (Kd.R_types HO541.out BK546.out (by decide)) (fun _ hk => hk.2) (.slice Ao110 t539.length co110)) (fun _ hk => hk.2) (.slice Ao117 t542.length co117)) (fun _ h_ => h_.1)))); (case side2 => exact (Kd.R_reads' HO541.out).2.1); (case side3 => refine (Kd.R_reads' (e := 3) (base := w.heap.size) (ok := fun k_ => (((((((((((((oN k_ Ao110 t539 co110 ∧ oN k_ Ao12 t487 co12) ∧ oN k_ Ao14 t490 co14) ∧ oN k_ Ao17 t494 co17) ∧ oN k_ Ao20 t497 co20) ∧ oN k_ Ao24 t502 co24) ∧ oN k_ Ao28 t505 co28) ∧ oN k_ Ao83 t512 co83) ∧ oN k_ Ao88 t515 co88) ∧ some k_ ≠ (v521 : Value).ownBlock) ∧ some k_ ≠ (v525 : Value).ownBlock) ∧ oN k_ Ao97 t528 co97) ∧ oN k_ Ao100 t531 co100) ∧ oN k_ Ao106 t534 co106)) (n := t542.length) (c := co117) ?_).2.2; exact (rT (Kd.R_mono (Kd.R_far (p := ⟨gb546, 1, none⟩) (Kd.R_far (p := ⟨gb546, 0, none⟩) (Kd.R_types HO544.out BK546.out (by decide)) (fun _ hk => hk.2) (.slice Ao110 t539.length co110)) (fun _ hk => hk.2) (.slice Ao117 t542.length co117)) (fun _ h_ => h_.1)))); (case side4 => exact (Kd.R_reads' HO544.out).2.1); rintro e w118 ⟨v548, v551, rfl, ho0, ho1, hb⟩; refine ⟨_, rfl, ?_⟩; have HO549 := Aside0.mk (Kd.R_lower (Kd.R_new' (Kd.R_new' (Kd.R_new' (Kd.R_new' (Kd.R_new' (Kd.R_new' (Kd.R_new' (Kd.R_new' (Kd.R_new' (Kd.R_new' (Kd.R_new' (Kd.R_new' (Kd.R_new' (Kd.R_new' (Kd.R_new' ho0 (Kd.Q_lt (by (with_reducible repeat (first | apply Kd.Q_alloc | apply Kd.Q_drewN | apply Kd.Q_drew)); exact (Kd.Q_mono (Kd.Q_far (p := ⟨gb546, 1, none⟩) (Kd.Q_far (p := ⟨gb546, 0, none⟩) (Kd.Q_types HO_494000.out BK546.out (by decide)) (fun _ hk => hk.2) (.slice Ao110 t539.length co110)) (fun _ hk => hk.2) (.slice Ao117 t542.length co117)) (fun _ h_ => h_.1))))) (Kd.R_lt (rT (Kd.R_mono (Kd.R_far (p := ⟨gb546, 1, none⟩) (Kd.R_far (p := ⟨gb546, 0, none⟩) (Kd.R_types HO_494001.out BK546.out (by decide)) (fun _ hk => hk.2) (.slice Ao110 t539.length co110)) (fun _ hk => hk.2) (.slice Ao117 t542.length co117)) (fun _ h_ => h_.1))))) (Kd.Q_lt (by (with_reducible repeat (first | apply Kd.Q_alloc | apply Kd.Q_drewN | apply Kd.Q_drew)); exact (Kd.Q_mono (Kd.Q_far (p := ⟨gb546, 1, none⟩) (Kd.Q_far (p := ⟨gb546, 0, none⟩) (Kd.Q_types HO_502000.out BK546.out (by decide)) (fun _ hk => hk.2) (.slice Ao110 t539.length co110)) (fun _ hk => hk.2) (.slice Ao117 t542.length co117)) (fun _ h_ => h_.1))))) (Kd.R_lt (rT (Kd.R_mono (Kd.R_far (p := ⟨gb546, 1, none⟩) (Kd.R_far (p := ⟨gb546, 0, none⟩) (Kd.R_types HO_502001.out BK546.out (by decide)) (fun _ hk => hk.2) (.slice Ao110 t539.length co110)) (fun _ hk => hk.2) (.slice Ao117 t542.length co117)) (fun _ h_ => h_.1))))) (Kd.Q_lt (by (with_reducible repeat (first | apply Kd.Q_alloc | apply Kd.Q_drewN | apply Kd.Q_drew)); exact (Kd.Q_mono (Kd.Q_far (p := ⟨gb546, 1, none⟩) (Kd.Q_far (p := ⟨gb546, 0, none⟩) (Kd.Q_types HO_510000.out BK546.out (by decide)) (fun _ hk => hk.2) (.slice Ao110 t539.length co110)) (fun _ hk => hk.2) (.slice Ao117 t542.length co117)) (fun _ h_ => h_.1))))) (Kd.R_lt (rT (Kd.R_mono (Kd.R_far (p := ⟨gb546, 1, none⟩) (Kd.R_far (p := ⟨gb546, 0, none⟩) (Kd.R_types HO_510001.out BK546.out (by decide)) (fun _ hk => hk.2) (.slice Ao110 t539.length co110)) (fun _ hk => hk.2) (.slice Ao117 t542.length co117)) (fun _ h_ => h_.1))))) (Kd.R_lt (rT (Kd.R_mono (Kd.R_far (p := ⟨gb546, 1, none⟩) (Kd.R_far (p := ⟨gb546, 0, none⟩) (Kd.R_types HO514.out BK546.out (by decide)) (fun _ hk => hk.2) (.slice Ao110 t539.length co110)) (fun _ hk => hk.2) (.slice Ao117 t542.length co117)) (fun _ h_ => h_.1))))) (Kd.R_lt (rT (Kd.R_mono (Kd.R_far (p := ⟨gb546, 1, none⟩) (Kd.R_far (p := ⟨gb546, 0, none⟩) (Kd.R_types HO517.out BK546.out (by decide)) (fun _ hk => hk.2) (.slice Ao110 t539.length co110)) (fun _ hk => hk.2) (.slice Ao117 t542.length co117)) (fun _ h_ => h_.1))))) (Kd.R_lt (rT (Kd.R_mono (Kd.R_far (p := ⟨gb546, 1, none⟩) (Kd.R_far (p := ⟨gb546, 0, none⟩) (Kd.R_types HO522.out BK546.out (by decide)) (fun _ hk => hk.2) (.slice Ao110 t539.length co110)) (fun _ hk => hk.2) (.slice Ao117 t542.length co117)) (fun _ h_ => h_.1))))) (Kd.R_lt (rT (Kd.R_mono (Kd.R_far (p := ⟨gb546, 1, none⟩) (Kd.R_far (p := ⟨gb546, 0, none⟩) (Kd.R_types HO526.out BK546.out (by decide)) (fun _ hk => hk.2) (.slice Ao110 t539.length co110)) (fun _ hk => hk.2) (.slice Ao117 t542.length co117)) (fun _ h_ => h_.1))))) (Kd.R_lt (rT (Kd.R_mono (Kd.R_far (p := ⟨gb546, 1, none⟩) (Kd.R_far (p := ⟨gb546, 0, none⟩) (Kd.R_types HO530.out BK546.out (by decide)) (fun _ hk => hk.2) (.slice Ao110 t539.length co110)) (fun _ hk => hk.2) (.slice Ao117 t542.length co117)) (fun _ h_ => h_.1))))) (Kd.R_lt (rT (Kd.R_mono (Kd.R_far (p := ⟨gb546, 1, none⟩) (Kd.R_far (p := ⟨gb546, 0, none⟩) (Kd.R_types HO533.out BK546.out (by decide)) (fun _ hk => hk.2) (.slice Ao110 t539.length co110)) (fun _ hk => hk.2) (.slice Ao117 t542.length co117)) (fun _ h_ => h_.1))))) (Kd.R_lt (rT (Kd.R_mono (Kd.R_far (p := ⟨gb546, 1, none⟩) (Kd.R_far (p := ⟨gb546, 0, none⟩) (Kd.R_types HO536.out BK546.out (by decide)) (fun _ hk => hk.2) (.slice Ao110 t539.length co110)) (fun _ hk => hk.2) (.slice Ao117 t542.length co117)) (fun _ h_ => h_.1))))) (Kd.R_lt (rT (Kd.R_mono (Kd.R_far (p := ⟨gb546, 1, none⟩) (Kd.R_far (p := ⟨gb546, 0, none⟩) (Kd.R_types HO541.out BK546.out (by decide)) (fun _ hk => hk.2) (.slice Ao110 t539.length co110)) (fun _ hk => hk.2) (.slice Ao117 t542.length co117)) (fun _ h_ => h_.1))))) (Kd.R_lt (rT (Kd.R_mono (Kd.R_far (p := ⟨gb546, 1, none⟩) (Kd.R_far (p := ⟨gb546, 0, none⟩) (Kd.R_types HO544.out BK546.out (by decide)) (fun _ hk => hk.2) (.slice Ao110 t539.length co110)) (fun _ hk => hk.2) (.slice Ao117 t542.length co117)) (fun _ h_ => h_.1))))) (below_size (bP HB))); have HO552 := Aside0.mk (Kd.R_lower (Kd.R_new' (Kd.R_new' (Kd.R_new' (Kd.R_new' (Kd.R_new' (Kd.R_new' (Kd.R_new' (Kd.R_new' (Kd.R_new' (Kd.R_new' (Kd.R_new' (Kd.R_new' (Kd.R_new' (Kd.R_new' (Kd.R_new' ho1 (Kd.Q_lt (by (with_reducible repeat (first | apply Kd.Q_alloc | apply Kd.Q_drewN | apply Kd.Q_drew)); exact (Kd.Q_mono (Kd.Q_far (p := ⟨gb546, 1, none⟩) (Kd.Q_far (p := ⟨gb546, 0, none⟩) (Kd.Q_types HO_494000.out BK546.out (by decide)) (fun _ hk => hk.2) (.slice Ao110 t539.length co110)) (fun _ hk => hk.2) (.slice Ao117 t542.length co117)) (fun _ h_ => h_.1))))) (Kd.R_lt (rT (Kd.R_mono (Kd.R_far (p := ⟨gb546, 1, none⟩) (Kd.R_far (p := ⟨gb546, 0, none⟩) (Kd.R_types HO_494001.out BK546.out (by decide)) (fun _ hk => hk.2) (.slice Ao110 t539.length co110)) (fun _ hk => hk.2) (.slice Ao117 t542.length co117)) (fun _ h_ => h_.1))))) (Kd.Q_lt (by (with_reducible repeat (first | apply Kd.Q_alloc | apply Kd.Q_drewN | apply Kd.Q_drew)); exact (Kd.Q_mono (Kd.Q_far (p := ⟨gb546, 1, none⟩) (Kd.Q_far (p := ⟨gb546, 0, none⟩) (Kd.Q_types HO_502000.out BK546.out (by decide)) (fun _ hk => hk.2) (.slice Ao110 t539.length co110)) (fun _ hk => hk.2) (.slice Ao117 t542.length co117)) (fun _ h_ => h_.1))))) (Kd.R_lt (rT (Kd.R_mono (Kd.R_far (p := ⟨gb546, 1, none⟩) (Kd.R_far (p := ⟨gb546, 0, none⟩) (Kd.R_types HO_502001.out BK546.out (by decide)) (fun _ hk => hk.2) (.slice Ao110 t539.length co110)) (fun _ hk => hk.2) (.slice Ao117 t542.length co117)) (fun _ h_ => h_.1))))) (Kd.Q_lt (by (with_reducible repeat (first | apply Kd.Q_alloc | apply Kd.Q_drewN | apply Kd.Q_drew)); exact (Kd.Q_mono (Kd.Q_far (p := ⟨gb546, 1, none⟩) (Kd.Q_far (p := ⟨gb546, 0, none⟩) (Kd.Q_types HO_510000.out BK546.out (by decide)) (fun _ hk => hk.2) (.slice Ao110 t539.length co110)) (fun _ hk => hk.2) (.slice Ao117 t542.length co117)) (fun _ h_ => h_.1))))) (Kd.R_lt (rT (Kd.R_mono (Kd.R_far (p := ⟨gb546, 1, none⟩) (Kd.R_far (p := ⟨gb546, 0, none⟩) (Kd.R_types HO_510001.out BK546.out (by decide)) (fun _ hk => hk.2) (.slice Ao110 t539.length co110)) (fun _ hk => hk.2) (.slice Ao117 t542.length co117)) (fun _ h_ => h_.1))))) (Kd.R_lt (rT (Kd.R_mono (Kd.R_far (p := ⟨gb546, 1, none⟩) (Kd.R_far (p := ⟨gb546, 0, none⟩) (Kd.R_types HO514.out BK546.out (by decide)) (fun _ hk => hk.2) (.slice Ao110 t539.length co110)) (fun _ hk => hk.2) (.slice Ao117 t542.length co117)) (fun _ h_ => h_.1))))) (Kd.R_lt (rT (Kd.R_mono (Kd.R_far (p := ⟨gb546, 1, none⟩) (Kd.R_far (p := ⟨gb546, 0, none⟩) (Kd.R_types HO517.out BK546.out (by decide)) (fun _ hk => hk.2) (.slice Ao110 t539.length co110)) (fun _ hk => hk.2) (.slice Ao117 t542.length co117)) (fun _ h_ => h_.1))))) (Kd.R_lt (rT (Kd.R_mono (Kd.R_far (p := ⟨gb546, 1, none⟩) (Kd.R_far (p := ⟨gb546, 0, none⟩) (Kd.R_types HO522.out BK546.out (by decide)) (fun _ hk => hk.2) (.slice Ao110 t539.length co110)) (fun _ hk => hk.2) (.slice Ao117 t542.length co117)) (fun _ h_ => h_.1))))) (Kd.R_lt (rT (Kd.R_mono (Kd.R_far (p := ⟨gb546, 1, none⟩) (Kd.R_far (p := ⟨gb546, 0, none⟩) (Kd.R_types HO526.out BK546.out (by decide)) (fun _ hk => hk.2) (.slice Ao110 t539.length co110)) (fun _ hk => hk.2) (.slice Ao117 t542.length co117)) (fun _ h_ => h_.1))))) (Kd.R_lt (rT (Kd.R_mono (Kd.R_far (p := ⟨gb546, 1, none⟩) (Kd.R_far (p := ⟨gb546, 0, none⟩) (Kd.R_types HO530.out BK546.out (by decide)) (fun _ hk => hk.2) (.slice Ao110 t539.length co110)) (fun _ hk => hk.2) (.slice Ao117 t542.length co117)) (fun _ h_ => h_.1))))) (Kd.R_lt (rT (Kd.R_mono (Kd.R_far (p := ⟨gb546, 1, none⟩) (Kd.R_far (p := ⟨gb546, 0, none⟩) (Kd.R_types HO533.out BK546.out (by decide)) (fun _ hk => hk.2) (.slice Ao110 t539.length co110)) (fun _ hk => hk.2) (.slice Ao117 t542.length co117)) (fun _ h_ => h_.1))))) (Kd.R_lt (rT (Kd.R_mono (Kd.R_far (p := ⟨gb546, 1, none⟩) (Kd.R_far (p := ⟨gb546, 0, none⟩) (Kd.R_types HO536.out BK546.out (by decide)) (fun _ hk => hk.2) (.slice Ao110 t539.length co110)) (fun _ hk => hk.2) (.slice Ao117 t542.length co117)) (fun _ h_ => h_.1))))) (Kd.R_lt (rT (Kd.R_mono (Kd.R_far (p := ⟨gb546, 1, none⟩) (Kd.R_far (p := ⟨gb546, 0, none⟩) (Kd.R_types HO541.out BK546.out (by decide)) (fun _ hk => hk.2) (.slice Ao110 t539.length co110)) (fun _ hk => hk.2) (.slice Ao117 t542.length co117)) (fun _ h_ => h_.1))))) (Kd.R_lt (rT (Kd.R_mono (Kd.R_far (p := ⟨gb546, 1, none⟩) (Kd.R_far (p := ⟨gb546, 0, none⟩) (Kd.R_types HO544.out BK546.out (by decide)) (fun _ hk => hk.2) (.slice Ao110 t539.length co110)) (fun _ hk => hk.2) (.slice Ao117 t542.length co117)) (fun _ h_ => h_.1))))) (below_size (bP HB))); replace HO_494000 := Aside0.mk (Kd.Q_mono (Kd.Q_told (Kd.Q_told (Kd.Q_old (by (with_reducible repeat (first | apply Kd.Q_alloc | apply Kd.Q_drewN | apply Kd.Q_drew)); exact (Kd.Q_mono (Kd.Q_far (p := ⟨gb546, 1, none⟩) (Kd.Q_far (p := ⟨gb546, 0, none⟩) (Kd.Q_types HO_494000.out BK546.out (by decide)) (fun _ hk => hk.2) (.slice Ao110 t539.length co110)) (fun _ hk => hk.2) (.slice Ao117 t542.length co117)) (fun _ h_ => h_.1))) hb) (Kd.R_base ho0)) (Kd.R_base ho1)) (fun _ h_ => h_.1)); replace HO_494001 := Aside0.mk (Kd.R_mono (Kd.R_told (Kd.R_told (Kd.R_old (rT (Kd.R_mono (Kd.R_far (p := ⟨gb546, 1, none⟩) (Kd.R_far (p := ⟨gb546, 0, none⟩) (Kd.R_types HO_494001.out BK546.out (by decide)) (fun _ hk => hk.2) (.slice Ao110 t539.length co110)) (fun _ hk => hk.2) (.slice Ao117 t542.length co117)) (fun _ h_ => h_.1))) hb) (Kd.R_base ho0)) (Kd.R_base ho1)) (fun _ h_ => h_.1)); replace HO_502000 := Aside0.mk (Kd.Q_mono (Kd.Q_told (Kd.Q_told (Kd.Q_old (by (with_reducible repeat (first | apply Kd.Q_alloc | apply Kd.Q_drewN | apply Kd.Q_drew)); exact (Kd.Q_mono (Kd.Q_far (p := ⟨gb546, 1, none⟩) (Kd.Q_far (p := ⟨gb546, 0, none⟩) (Kd.Q_types HO_502000.out BK546.out (by decide)) (fun _ hk => hk.2) (.slice Ao110 t539.length co110)) (fun _ hk => hk.2) (.slice Ao117 t542.length co117)) (fun _ h_ => h_.1))) hb) (Kd.R_base ho0)) (Kd.R_base ho1)) (fun _ h_ => h_.1)); replace HO_502001 := Aside0.mk (Kd.R_mono (Kd.R_told (Kd.R_told (Kd.R_old (rT (Kd.R_mono (Kd.R_far (p := ⟨gb546, 1, none⟩) (Kd.R_far (p := ⟨gb546, 0, none⟩) (Kd.R_types HO_502001.out BK546.out (by decide)) (fun _ hk => hk.2) (.slice Ao110 t539.length co110)) (fun _ hk => hk.2) (.slice Ao117 t542.length co117)) (fun _ h_ => h_.1))) hb) (Kd.R_base ho0)) (Kd.R_base ho1)) (fun _ h_ => h_.1)); replace HO_510000 := Aside0.mk (Kd.Q_mono (Kd.Q_told (Kd.Q_told (Kd.Q_old (by (with_reducible repeat (first | apply Kd.Q_alloc | apply Kd.Q_drewN | apply Kd.Q_drew)); exact (Kd.Q_mono (Kd.Q_far (p := ⟨gb546, 1, none⟩) (Kd.Q_far (p := ⟨gb546, 0, none⟩) (Kd.Q_types HO_510000.out BK546.out (by decide)) (fun _ hk => hk.2) (.slice Ao110 t539.length co110)) (fun _ hk => hk.2) (.slice Ao117 t542.length co117)) (fun _ h_ => h_.1))) hb) (Kd.R_base ho0)) (Kd.R_base ho1)) (fun _ h_ => h_.1)); replace HO_510001 := Aside0.mk (Kd.R_mono (Kd.R_told (Kd.R_told (Kd.R_old (rT (Kd.R_mono (Kd.R_far (p := ⟨gb546, 1, none⟩) (Kd.R_far (p := ⟨gb546, 0, none⟩) (Kd.R_types HO_510001.out BK546.out (by decide)) (fun _ hk => hk.2) (.slice Ao110 t539.length co110)) (fun _ hk => hk.2) (.slice Ao117 t542.length co117)) (fun _ h_ => h_.1))) hb) (Kd.R_base ho0)) (Kd.R_base ho1)) (fun _ h_ => h_.1)); replace HO514 := Aside0.mk (Kd.R_mono (Kd.R_told (Kd.R_told (Kd.R_old (rT (Kd.R_mono (Kd.R_far (p := ⟨gb546, 1, none⟩) (Kd.R_far (p := ⟨gb546, 0, none⟩) (Kd.R_types HO514.out BK546.out (by decide)) (fun _ hk => hk.2) (.slice Ao110 t539.length co110)) (fun _ hk => hk.2) (.slice Ao117 t542.length co117)) (fun _ h_ => h_.1))) hb) (Kd.R_base ho0)) (Kd.R_base ho1)) (fun _ h_ => h_.1)); replace HO517 := Aside0.mk (Kd.R_mono (Kd.R_told (Kd.R_told (Kd.R_old (rT (Kd.R_mono (Kd.R_far (p := ⟨gb546, 1, none⟩) (Kd.R_far (p := ⟨gb546, 0, none⟩) (Kd.R_types HO517.out BK546.out (by decide)) (fun _ hk => hk.2) (.slice Ao110 t539.length co110)) (fun _ hk => hk.2) (.slice Ao117 t542.length co117)) (fun _ h_ => h_.1))) hb) (Kd.R_base ho0)) (Kd.R_base ho1)) (fun _ h_ => h_.1)); replace HO522 := Aside0.mk (Kd.R_mono (Kd.R_told (Kd.R_told (Kd.R_old (rT (Kd.R_mono (Kd.R_far (p := ⟨gb546, 1, none⟩) (Kd.R_far (p := ⟨gb546, 0, none⟩) (Kd.R_types HO522.out BK546.out (by decide)) (fun _ hk => hk.2) (.slice Ao110 t539.length co110)) (fun _ hk => hk.2) (.slice Ao117 t542.length co117)) (fun _ h_ => h_.1))) hb) (Kd.R_base ho0)) (Kd.R_base ho1)) (fun _ h_ => h_.1)); replace HO526 := Aside0.mk (Kd.R_mono (Kd.R_told (Kd.R_told (Kd.R_old (rT (Kd.R_mono (Kd.R_far (p := ⟨gb546, 1, none⟩) (Kd.R_far (p := ⟨gb546, 0, none⟩) (Kd.R_types HO526.out BK546.out (by decide)) (fun _ hk => hk.2) (.slice Ao110 t539.length co110)) (fun _ hk => hk.2) (.slice Ao117 t542.length co117)) (fun _ h_ => h_.1))) hb) (Kd.R_base ho0)) (Kd.R_base ho1)) (fun _ h_ => h_.1)); replace HO530 := Aside0.mk (Kd.R_mono (Kd.R_told (Kd.R_told (Kd.R_old (rT (Kd.R_mono (Kd.R_far (p := ⟨gb546, 1, none⟩) (Kd.R_far (p := ⟨gb546, 0, none⟩) (Kd.R_types HO530.out BK546.out (by decide)) (fun _ hk => hk.2) (.slice Ao110 t539.length co110)) (fun _ hk => hk.2) (.slice Ao117 t542.length co117)) (fun _ h_ => h_.1))) hb) (Kd.R_base ho0)) (Kd.R_base ho1)) (fun _ h_ => h_.1)); replace HO533 := Aside0.mk (Kd.R_mono (Kd.R_told (Kd.R_told (Kd.R_old (rT (Kd.R_mono (Kd.R_far (p := ⟨gb546, 1, none⟩) (Kd.R_far (p := ⟨gb546, 0, none⟩) (Kd.R_types HO533.out BK546.out (by decide)) (fun _ hk => hk.2) (.slice Ao110 t539.length co110)) (fun _ hk => hk.2) (.slice Ao117 t542.length co117)) (fun _ h_ => h_.1))) hb) (Kd.R_base ho0)) (Kd.R_base ho1)) (fun _ h_ => h_.1)); replace HO536 := Aside0.mk (Kd.R_mono (Kd.R_told (Kd.R_told (Kd.R_old (rT (Kd.R_mono (Kd.R_far (p := ⟨gb546, 1, none⟩) (Kd.R_far (p := ⟨gb546, 0, none⟩) (Kd.R_types HO536.out BK546.out (by decide)) (fun _ hk => hk.2) (.slice Ao110 t539.length co110)) (fun _ hk => hk.2) (.slice Ao117 t542.length co117)) (fun _ h_ => h_.1))) hb) (Kd.R_base ho0)) (Kd.R_base ho1)) (fun _ h_ => h_.1)); replace HO541 := Aside0.mk (Kd.R_mono (Kd.R_told (Kd.R_told (Kd.R_old (rT (Kd.R_mono (Kd.R_far (p := ⟨gb546, 1, none⟩) (Kd.R_far (p := ⟨gb546, 0, none⟩) (Kd.R_types HO541.out BK546.out (by decide)) (fun _ hk => hk.2) (.slice Ao110 t539.length co110)) (fun _ hk => hk.2) (.slice Ao117 t542.length co117)) (fun _ h_ => h_.1))) hb) (Kd.R_base ho0)) (Kd.R_base ho1)) (fun _ h_ => h_.1)); replace HO544 := Aside0.mk (Kd.R_mono (Kd.R_told (Kd.R_told (Kd.R_old (rT (Kd.R_mono (Kd.R_far (p := ⟨gb546, 1, none⟩) (Kd.R_far (p := ⟨gb546, 0, none⟩) (Kd.R_types HO544.out BK546.out (by decide)) (fun _ hk => hk.2) (.slice Ao110 t539.length co110)) (fun _ hk => hk.2) (.slice Ao117 t542.length co117)) (fun _ h_ => h_.1))) hb) (Kd.R_base ho0)) (Kd.R_base ho1)) (fun _ h_ => h_.1)); replace BK493 := kG BK493 hb; replace BK501 := kG BK501 hb; replace BK509 := kG BK509 hb; replace BK519 := kG BK519 hb; replace BK538 := kG BK538 hb; replace BK546 := Aside0.mk (blk_below (g := gb546) (o := .cells #[.slice Ao110 t539.length co110, .slice Ao117 t542.length co117] 25 (0, 0)) (by (with_reducible repeat (first | refine blk_drewN ?_ _ | refine blk_drew ?_ | refine blk_alloc ?_ _)); refine blk_put (cs := #[.slice Ao110 t539.length co110, .slice none 0 0]) ?_ 1 _ rfl; (with_reducible repeat (first | refine blk_drewN ?_ _ | refine blk_drew ?_ | refine blk_alloc ?_ _)); refine blk_put (cs := #[.slice none 0 0, .slice none 0 0]) ?_ 0 _ rfl; (with_reducible repeat (first | refine blk_drewN ?_ _ | refine blk_drew ?_ | refine blk_alloc ?_ _)); exact BK546.out) hb); replace HB := bS HB hb; (try clear hb); (try clear hb2); (try clear hk); (try clear hi); (try clear ho0); (try clear ho1)) | ((with_reducible refine gate_dst (N := 21) rfl ?_); (try (refine gate_guard (by rfl) ?_; dsimp only)); refine bE 21 #[.slice none 0 0, .slice none 0 0] 25 ?_; intro gb554 hg w119 hbox hb; replace HO_494000 := Aside0.mk (Kd.Q_below (by (with_reducible repeat (first | apply Kd.Q_alloc | apply Kd.Q_drewN | apply Kd.Q_drew)); exact HO_494000.out) hb); replace HO_494001 := rB HO_494001 hb; replace HO_502000 := Aside0.mk (Kd.Q_below (by (with_reducible repeat (first | apply Kd.Q_alloc | apply Kd.Q_drewN | apply Kd.Q_drew)); exact HO_502000.out) hb); replace HO_502001 := rB HO_502001 hb; replace HO_510000 := Aside0.mk (Kd.Q_below (by (with_reducible repeat (first | apply Kd.Q_alloc | apply Kd.Q_drewN | apply Kd.Q_drew)); exact HO_510000.out) hb); replace HO_510001 := rB HO_510001 hb; replace HO514 := rB HO514 hb; replace HO517 := rB HO517 hb; replace HO522 := rB HO522 hb; replace HO526 := rB HO526 hb; replace HO530 := rB HO530 hb; replace HO533 := rB HO533 hb; replace HO536 := rB HO536 hb; replace HO541 := rB HO541 hb; replace HO544 := rB HO544 hb; replace HO549 := rB HO549 hb; replace HO552 := rB HO552 hb; have BK554 := Aside0.mk (hbox); have GW554 := gS HB hg; have GE554 := gS HB hg; replace HB := bS HB hb; have NB493_554 := nL BK493 hg; have NB554_493 := nG BK493 hg; replace BK493 := kB BK493 hb; have NB501_554 := nL BK501 hg; have NB554_501 := nG BK501 hg; replace BK501 := kB BK501 hb; have NB509_554 := nL BK509 hg; have NB554_509 := nG BK509 hg; replace BK509 := kB BK509 hb; have NB519_554 := nL BK519 hg; have NB554_519 := nG BK519 hg; replace BK519 := kB BK519 hb; have NB538_554 := nL BK538 hg; have NB554_538 := nG BK538 hg; replace BK538 := kB BK538 hb; have NB546_554 := nL BK546 hg; have NB554_546 := nG BK546 hg; replace BK546 := kB BK546 hb; clear hb hbox hg; obtain ⟨Ao120, co120, eo120⟩ := Kd.R_slice HO549.out; subst eo120; have hnb121 := NB554_493.out; have hnc121 := NB493_554.out; have hnb122 := NB554_501.out; have hnc122 := NB501_554.out; have hnb123 := NB554_509.out; have hnc123 := NB509_554.out; have hnb124 := NB554_519.out; have hnc124 := NB519_554.out; have hnb125 := NB554_538.out; have hnc125 := NB538_554.out; have hnb126 := NB554_546.out; have hnc126 := NB546_554.out; have hcz127_0 := zc0 BK554; have hcz127_1 := zc1 BK554; have hfz127_0 := blk_frozen BK554.out 0; have hfz127_1 := blk_frozen BK554.out 1; obtain ⟨Ao128, co128, eo128⟩ := Kd.R_slice HO552.out; subst eo128))
                       have n0_ : Aside0 (Kd.Q (Kd.int .i64) 3 ((w119.setCell ⟨gb554, 0, none⟩ (.slice Ao120 t547.length co120)).setCell ⟨gb554, 1, none⟩ (.slice Ao128 t550.length co128)) w.heap.size (fun k_ => oN k_ Ao14 t490 co14 ∧ oN k_ Ao17 t494 co17 ∧ oN k_ Ao20 t497 co20 ∧ oN k_ Ao24 t502 co24 ∧ oN k_ Ao28 t505 co28 ∧ oN k_ Ao83 t512 co83 ∧ oN k_ Ao88 t515 co88 ∧ some k_ ≠ (v521 : Value).ownBlock ∧ some k_ ≠ (v525 : Value).ownBlock ∧ oN k_ Ao97 t528 co97 ∧ oN k_ Ao100 t531 co100 ∧ oN k_ Ao106 t534 co106 ∧ oN k_ Ao110 t539 co110 ∧ oN k_ Ao117 t542 co117 ∧ oN k_ Ao120 t547 co120 ∧ oN k_ Ao128 t550 co128) (.slice Ao12 t487.length co12) t487) := ⟨by (with_reducible repeat (first | apply Kd.Q_alloc | apply Kd.Q_drewN | apply Kd.Q_drew)); exact Kd.Q_mono (Kd.Q_far (p := ⟨gb554, 1, none⟩) (Kd.Q_far (p := ⟨gb554, 0, none⟩) (Kd.Q_types HO_494000.out BK554.out (by decide)) (fun _ hk => hk.2) (.slice Ao120 t547.length co120)) (fun _ hk => hk.2) (.slice Ao128 t550.length co128)) (fun _ hk => ⟨hk.1.1.1.1.1.1.1.1.1.1.1.1.1, ⟨hk.1.1.1.1.1.1.1.1.1.1.1.1.2.1, ⟨hk.1.1.1.1.1.1.1.1.1.1.1.1.2.2.1, ⟨hk.1.1.1.1.1.1.1.1.1.1.1.1.2.2.2.1, ⟨hk.1.1.1.1.1.1.1.1.1.1.1.1.2.2.2.2, ⟨hk.1.1.1.1.1.1.1.1.1.1.1.2, ⟨hk.1.1.1.1.1.1.1.1.1.1.2, ⟨hk.1.1.1.1.1.1.1.1.1.2, ⟨hk.1.1.1.1.1.1.1.1.2, ⟨hk.1.1.1.1.1.1.1.2, ⟨hk.1.1.1.1.1.1.2, ⟨hk.1.1.1.1.1.2, ⟨hk.1.1.1.1.2, ⟨hk.1.1.1.2, ⟨hk.1.1.2, hk.1.2⟩⟩⟩⟩⟩⟩⟩⟩⟩⟩⟩⟩⟩⟩⟩)⟩
                       have n1_ : Aside0 (Kd.R (Kd.int .i64) 3 ((w119.setCell ⟨gb554, 0, none⟩ (.slice Ao120 t547.length co120)).setCell ⟨gb554, 1, none⟩ (.slice Ao128 t550.length co128)) w.heap.size (fun k_ => oN k_ Ao12 t487 co12 ∧ oN k_ Ao17 t494 co17 ∧ oN k_ Ao20 t497 co20 ∧ oN k_ Ao24 t502 co24 ∧ oN k_ Ao28 t505 co28 ∧ oN k_ Ao83 t512 co83 ∧ oN k_ Ao88 t515 co88 ∧ some k_ ≠ (v521 : Value).ownBlock ∧ some k_ ≠ (v525 : Value).ownBlock ∧ oN k_ Ao97 t528 co97 ∧ oN k_ Ao100 t531 co100 ∧ oN k_ Ao106 t534 co106 ∧ oN k_ Ao110 t539 co110 ∧ oN k_ Ao117 t542 co117 ∧ oN k_ Ao120 t547 co120 ∧ oN k_ Ao128 t550 co128) (.slice Ao14 t490.length co14) t490) := ⟨by (with_reducible repeat (first | apply Kd.R_alloc | apply Kd.R_drewN | apply Kd.R_drew)); exact Kd.R_mono (Kd.R_far (p := ⟨gb554, 1, none⟩) (Kd.R_far (p := ⟨gb554, 0, none⟩) (Kd.R_types HO_494001.out BK554.out (by decide)) (fun _ hk => hk.2) (.slice Ao120 t547.length co120)) (fun _ hk => hk.2) (.slice Ao128 t550.length co128)) (fun _ hk => ⟨hk.1.1.1.1.1.1.1.1.1.1.1.1.1, ⟨hk.1.1.1.1.1.1.1.1.1.1.1.1.2.1, ⟨hk.1.1.1.1.1.1.1.1.1.1.1.1.2.2.1, ⟨hk.1.1.1.1.1.1.1.1.1.1.1.1.2.2.2.1, ⟨hk.1.1.1.1.1.1.1.1.1.1.1.1.2.2.2.2, ⟨hk.1.1.1.1.1.1.1.1.1.1.1.2, ⟨hk.1.1.1.1.1.1.1.1.1.1.2, ⟨hk.1.1.1.1.1.1.1.1.1.2, ⟨hk.1.1.1.1.1.1.1.1.2, ⟨hk.1.1.1.1.1.1.1.2, ⟨hk.1.1.1.1.1.1.2, ⟨hk.1.1.1.1.1.2, ⟨hk.1.1.1.1.2, ⟨hk.1.1.1.2, ⟨hk.1.1.2, hk.1.2⟩⟩⟩⟩⟩⟩⟩⟩⟩⟩⟩⟩⟩⟩⟩)⟩
                       have n2_ : Aside0 (Kd.Q (Kd.int .i64) 3 ((w119.setCell ⟨gb554, 0, none⟩ (.slice Ao120 t547.length co120)).setCell ⟨gb554, 1, none⟩ (.slice Ao128 t550.length co128)) w.heap.size (fun k_ => oN k_ Ao12 t487 co12 ∧ oN k_ Ao14 t490 co14 ∧ oN k_ Ao20 t497 co20 ∧ oN k_ Ao24 t502 co24 ∧ oN k_ Ao28 t505 co28 ∧ oN k_ Ao83 t512 co83 ∧ oN k_ Ao88 t515 co88 ∧ some k_ ≠ (v521 : Value).ownBlock ∧ some k_ ≠ (v525 : Value).ownBlock ∧ oN k_ Ao97 t528 co97 ∧ oN k_ Ao100 t531 co100 ∧ oN k_ Ao106 t534 co106 ∧ oN k_ Ao110 t539 co110 ∧ oN k_ Ao117 t542 co117 ∧ oN k_ Ao120 t547 co120 ∧ oN k_ Ao128 t550 co128) (.slice Ao17 t494.length co17) t494) := ⟨by (with_reducible repeat (first | apply Kd.Q_alloc | apply Kd.Q_drewN | apply Kd.Q_drew)); exact Kd.Q_mono (Kd.Q_far (p := ⟨gb554, 1, none⟩) (Kd.Q_far (p := ⟨gb554, 0, none⟩) (Kd.Q_types HO_502000.out BK554.out (by decide)) (fun _ hk => hk.2) (.slice Ao120 t547.length co120)) (fun _ hk => hk.2) (.slice Ao128 t550.length co128)) (fun _ hk => ⟨hk.1.1.1.1.1.1.1.1.1.1.1.1.1, ⟨hk.1.1.1.1.1.1.1.1.1.1.1.1.2.1, ⟨hk.1.1.1.1.1.1.1.1.1.1.1.1.2.2.1, ⟨hk.1.1.1.1.1.1.1.1.1.1.1.1.2.2.2.1, ⟨hk.1.1.1.1.1.1.1.1.1.1.1.1.2.2.2.2, ⟨hk.1.1.1.1.1.1.1.1.1.1.1.2, ⟨hk.1.1.1.1.1.1.1.1.1.1.2, ⟨hk.1.1.1.1.1.1.1.1.1.2, ⟨hk.1.1.1.1.1.1.1.1.2, ⟨hk.1.1.1.1.1.1.1.2, ⟨hk.1.1.1.1.1.1.2, ⟨hk.1.1.1.1.1.2, ⟨hk.1.1.1.1.2, ⟨hk.1.1.1.2, ⟨hk.1.1.2, hk.1.2⟩⟩⟩⟩⟩⟩⟩⟩⟩⟩⟩⟩⟩⟩⟩)⟩
                       have n3_ : Aside0 (Kd.R (Kd.int .i64) 3 ((w119.setCell ⟨gb554, 0, none⟩ (.slice Ao120 t547.length co120)).setCell ⟨gb554, 1, none⟩ (.slice Ao128 t550.length co128)) w.heap.size (fun k_ => oN k_ Ao12 t487 co12 ∧ oN k_ Ao14 t490 co14 ∧ oN k_ Ao17 t494 co17 ∧ oN k_ Ao24 t502 co24 ∧ oN k_ Ao28 t505 co28 ∧ oN k_ Ao83 t512 co83 ∧ oN k_ Ao88 t515 co88 ∧ some k_ ≠ (v521 : Value).ownBlock ∧ some k_ ≠ (v525 : Value).ownBlock ∧ oN k_ Ao97 t528 co97 ∧ oN k_ Ao100 t531 co100 ∧ oN k_ Ao106 t534 co106 ∧ oN k_ Ao110 t539 co110 ∧ oN k_ Ao117 t542 co117 ∧ oN k_ Ao120 t547 co120 ∧ oN k_ Ao128 t550 co128) (.slice Ao20 t497.length co20) t497) := ⟨by (with_reducible repeat (first | apply Kd.R_alloc | apply Kd.R_drewN | apply Kd.R_drew)); exact Kd.R_mono (Kd.R_far (p := ⟨gb554, 1, none⟩) (Kd.R_far (p := ⟨gb554, 0, none⟩) (Kd.R_types HO_502001.out BK554.out (by decide)) (fun _ hk => hk.2) (.slice Ao120 t547.length co120)) (fun _ hk => hk.2) (.slice Ao128 t550.length co128)) (fun _ hk => ⟨hk.1.1.1.1.1.1.1.1.1.1.1.1.1, ⟨hk.1.1.1.1.1.1.1.1.1.1.1.1.2.1, ⟨hk.1.1.1.1.1.1.1.1.1.1.1.1.2.2.1, ⟨hk.1.1.1.1.1.1.1.1.1.1.1.1.2.2.2.1, ⟨hk.1.1.1.1.1.1.1.1.1.1.1.1.2.2.2.2, ⟨hk.1.1.1.1.1.1.1.1.1.1.1.2, ⟨hk.1.1.1.1.1.1.1.1.1.1.2, ⟨hk.1.1.1.1.1.1.1.1.1.2, ⟨hk.1.1.1.1.1.1.1.1.2, ⟨hk.1.1.1.1.1.1.1.2, ⟨hk.1.1.1.1.1.1.2, ⟨hk.1.1.1.1.1.2, ⟨hk.1.1.1.1.2, ⟨hk.1.1.1.2, ⟨hk.1.1.2, hk.1.2⟩⟩⟩⟩⟩⟩⟩⟩⟩⟩⟩⟩⟩⟩⟩)⟩
                       have n4_ : Aside0 (Kd.Q (Kd.int .i64) 3 ((w119.setCell ⟨gb554, 0, none⟩ (.slice Ao120 t547.length co120)).setCell ⟨gb554, 1, none⟩ (.slice Ao128 t550.length co128)) w.heap.size (fun k_ => oN k_ Ao12 t487 co12 ∧ oN k_ Ao14 t490 co14 ∧ oN k_ Ao17 t494 co17 ∧ oN k_ Ao20 t497 co20 ∧ oN k_ Ao28 t505 co28 ∧ oN k_ Ao83 t512 co83 ∧ oN k_ Ao88 t515 co88 ∧ some k_ ≠ (v521 : Value).ownBlock ∧ some k_ ≠ (v525 : Value).ownBlock ∧ oN k_ Ao97 t528 co97 ∧ oN k_ Ao100 t531 co100 ∧ oN k_ Ao106 t534 co106 ∧ oN k_ Ao110 t539 co110 ∧ oN k_ Ao117 t542 co117 ∧ oN k_ Ao120 t547 co120 ∧ oN k_ Ao128 t550 co128) (.slice Ao24 t502.length co24) t502) := ⟨by (with_reducible repeat (first | apply Kd.Q_alloc | apply Kd.Q_drewN | apply Kd.Q_drew)); exact Kd.Q_mono (Kd.Q_far (p := ⟨gb554, 1, none⟩) (Kd.Q_far (p := ⟨gb554, 0, none⟩) (Kd.Q_types HO_510000.out BK554.out (by decide)) (fun _ hk => hk.2) (.slice Ao120 t547.length co120)) (fun _ hk => hk.2) (.slice Ao128 t550.length co128)) (fun _ hk => ⟨hk.1.1.1.1.1.1.1.1.1.1.1.1.1, ⟨hk.1.1.1.1.1.1.1.1.1.1.1.1.2.1, ⟨hk.1.1.1.1.1.1.1.1.1.1.1.1.2.2.1, ⟨hk.1.1.1.1.1.1.1.1.1.1.1.1.2.2.2.1, ⟨hk.1.1.1.1.1.1.1.1.1.1.1.1.2.2.2.2, ⟨hk.1.1.1.1.1.1.1.1.1.1.1.2, ⟨hk.1.1.1.1.1.1.1.1.1.1.2, ⟨hk.1.1.1.1.1.1.1.1.1.2, ⟨hk.1.1.1.1.1.1.1.1.2, ⟨hk.1.1.1.1.1.1.1.2, ⟨hk.1.1.1.1.1.1.2, ⟨hk.1.1.1.1.1.2, ⟨hk.1.1.1.1.2, ⟨hk.1.1.1.2, ⟨hk.1.1.2, hk.1.2⟩⟩⟩⟩⟩⟩⟩⟩⟩⟩⟩⟩⟩⟩⟩)⟩
                       have n5_ : Aside0 (Kd.R (Kd.int .i64) 3 ((w119.setCell ⟨gb554, 0, none⟩ (.slice Ao120 t547.length co120)).setCell ⟨gb554, 1, none⟩ (.slice Ao128 t550.length co128)) w.heap.size (fun k_ => oN k_ Ao12 t487 co12 ∧ oN k_ Ao14 t490 co14 ∧ oN k_ Ao17 t494 co17 ∧ oN k_ Ao20 t497 co20 ∧ oN k_ Ao24 t502 co24 ∧ oN k_ Ao83 t512 co83 ∧ oN k_ Ao88 t515 co88 ∧ some k_ ≠ (v521 : Value).ownBlock ∧ some k_ ≠ (v525 : Value).ownBlock ∧ oN k_ Ao97 t528 co97 ∧ oN k_ Ao100 t531 co100 ∧ oN k_ Ao106 t534 co106 ∧ oN k_ Ao110 t539 co110 ∧ oN k_ Ao117 t542 co117 ∧ oN k_ Ao120 t547 co120 ∧ oN k_ Ao128 t550 co128) (.slice Ao28 t505.length co28) t505) := ⟨by (with_reducible repeat (first | apply Kd.R_alloc | apply Kd.R_drewN | apply Kd.R_drew)); exact Kd.R_mono (Kd.R_far (p := ⟨gb554, 1, none⟩) (Kd.R_far (p := ⟨gb554, 0, none⟩) (Kd.R_types HO_510001.out BK554.out (by decide)) (fun _ hk => hk.2) (.slice Ao120 t547.length co120)) (fun _ hk => hk.2) (.slice Ao128 t550.length co128)) (fun _ hk => ⟨hk.1.1.1.1.1.1.1.1.1.1.1.1.1, ⟨hk.1.1.1.1.1.1.1.1.1.1.1.1.2.1, ⟨hk.1.1.1.1.1.1.1.1.1.1.1.1.2.2.1, ⟨hk.1.1.1.1.1.1.1.1.1.1.1.1.2.2.2.1, ⟨hk.1.1.1.1.1.1.1.1.1.1.1.1.2.2.2.2, ⟨hk.1.1.1.1.1.1.1.1.1.1.1.2, ⟨hk.1.1.1.1.1.1.1.1.1.1.2, ⟨hk.1.1.1.1.1.1.1.1.1.2, ⟨hk.1.1.1.1.1.1.1.1.2, ⟨hk.1.1.1.1.1.1.1.2, ⟨hk.1.1.1.1.1.1.2, ⟨hk.1.1.1.1.1.2, ⟨hk.1.1.1.1.2, ⟨hk.1.1.1.2, ⟨hk.1.1.2, hk.1.2⟩⟩⟩⟩⟩⟩⟩⟩⟩⟩⟩⟩⟩⟩⟩)⟩
                       have n6_ : Aside0 (Kd.R (Kd.int .i64) 3 ((w119.setCell ⟨gb554, 0, none⟩ (.slice Ao120 t547.length co120)).setCell ⟨gb554, 1, none⟩ (.slice Ao128 t550.length co128)) w.heap.size (fun k_ => oN k_ Ao12 t487 co12 ∧ oN k_ Ao14 t490 co14 ∧ oN k_ Ao17 t494 co17 ∧ oN k_ Ao20 t497 co20 ∧ oN k_ Ao24 t502 co24 ∧ oN k_ Ao28 t505 co28 ∧ oN k_ Ao88 t515 co88 ∧ some k_ ≠ (v521 : Value).ownBlock ∧ some k_ ≠ (v525 : Value).ownBlock ∧ oN k_ Ao97 t528 co97 ∧ oN k_ Ao100 t531 co100 ∧ oN k_ Ao106 t534 co106 ∧ oN k_ Ao110 t539 co110 ∧ oN k_ Ao117 t542 co117 ∧ oN k_ Ao120 t547 co120 ∧ oN k_ Ao128 t550 co128) (.slice Ao83 t512.length co83) t512) := ⟨by (with_reducible repeat (first | apply Kd.R_alloc | apply Kd.R_drewN | apply Kd.R_drew)); exact Kd.R_mono (Kd.R_far (p := ⟨gb554, 1, none⟩) (Kd.R_far (p := ⟨gb554, 0, none⟩) (Kd.R_types HO514.out BK554.out (by decide)) (fun _ hk => hk.2) (.slice Ao120 t547.length co120)) (fun _ hk => hk.2) (.slice Ao128 t550.length co128)) (fun _ hk => ⟨hk.1.1.1.1.1.1.1.1.1.1.1.1.1.1.1.2, ⟨hk.1.1.1.1.1.1.1.1.1.1.1.1.1.1.2, ⟨hk.1.1.1.1.1.1.1.1.1.1.1.1.1.2, ⟨hk.1.1.1.1.1.1.1.1.1.1.1.1.2, ⟨hk.1.1.1.1.1.1.1.1.1.1.1.2, ⟨hk.1.1.1.1.1.1.1.1.1.1.2, ⟨hk.1.1.1.1.1.1.1.1.1.1.1.1.1.1.1.1, ⟨hk.1.1.1.1.1.1.1.1.1.2, ⟨hk.1.1.1.1.1.1.1.1.2, ⟨hk.1.1.1.1.1.1.1.2, ⟨hk.1.1.1.1.1.1.2, ⟨hk.1.1.1.1.1.2, ⟨hk.1.1.1.1.2, ⟨hk.1.1.1.2, ⟨hk.1.1.2, hk.1.2⟩⟩⟩⟩⟩⟩⟩⟩⟩⟩⟩⟩⟩⟩⟩)⟩
                       have n7_ : Aside0 (Kd.R (Kd.int .i64) 3 ((w119.setCell ⟨gb554, 0, none⟩ (.slice Ao120 t547.length co120)).setCell ⟨gb554, 1, none⟩ (.slice Ao128 t550.length co128)) w.heap.size (fun k_ => oN k_ Ao12 t487 co12 ∧ oN k_ Ao14 t490 co14 ∧ oN k_ Ao17 t494 co17 ∧ oN k_ Ao20 t497 co20 ∧ oN k_ Ao24 t502 co24 ∧ oN k_ Ao28 t505 co28 ∧ oN k_ Ao83 t512 co83 ∧ some k_ ≠ (v521 : Value).ownBlock ∧ some k_ ≠ (v525 : Value).ownBlock ∧ oN k_ Ao97 t528 co97 ∧ oN k_ Ao100 t531 co100 ∧ oN k_ Ao106 t534 co106 ∧ oN k_ Ao110 t539 co110 ∧ oN k_ Ao117 t542 co117 ∧ oN k_ Ao120 t547 co120 ∧ oN k_ Ao128 t550 co128) (.slice Ao88 t515.length co88) t515) := ⟨by (with_reducible repeat (first | apply Kd.R_alloc | apply Kd.R_drewN | apply Kd.R_drew)); exact Kd.R_mono (Kd.R_far (p := ⟨gb554, 1, none⟩) (Kd.R_far (p := ⟨gb554, 0, none⟩) (Kd.R_types HO517.out BK554.out (by decide)) (fun _ hk => hk.2) (.slice Ao120 t547.length co120)) (fun _ hk => hk.2) (.slice Ao128 t550.length co128)) (fun _ hk => ⟨hk.1.1.1.1.1.1.1.1.1.1.1.1.1.1.1.2, ⟨hk.1.1.1.1.1.1.1.1.1.1.1.1.1.1.2, ⟨hk.1.1.1.1.1.1.1.1.1.1.1.1.1.2, ⟨hk.1.1.1.1.1.1.1.1.1.1.1.1.2, ⟨hk.1.1.1.1.1.1.1.1.1.1.1.2, ⟨hk.1.1.1.1.1.1.1.1.1.1.2, ⟨hk.1.1.1.1.1.1.1.1.1.1.1.1.1.1.1.1, ⟨hk.1.1.1.1.1.1.1.1.1.2, ⟨hk.1.1.1.1.1.1.1.1.2, ⟨hk.1.1.1.1.1.1.1.2, ⟨hk.1.1.1.1.1.1.2, ⟨hk.1.1.1.1.1.2, ⟨hk.1.1.1.1.2, ⟨hk.1.1.1.2, ⟨hk.1.1.2, hk.1.2⟩⟩⟩⟩⟩⟩⟩⟩⟩⟩⟩⟩⟩⟩⟩)⟩
                       have n8_ : Aside0 (Kd.R (Kd.int .i64) 3 ((w119.setCell ⟨gb554, 0, none⟩ (.slice Ao120 t547.length co120)).setCell ⟨gb554, 1, none⟩ (.slice Ao128 t550.length co128)) w.heap.size (fun k_ => oN k_ Ao12 t487 co12 ∧ oN k_ Ao14 t490 co14 ∧ oN k_ Ao17 t494 co17 ∧ oN k_ Ao20 t497 co20 ∧ oN k_ Ao24 t502 co24 ∧ oN k_ Ao28 t505 co28 ∧ oN k_ Ao83 t512 co83 ∧ oN k_ Ao88 t515 co88 ∧ some k_ ≠ (v525 : Value).ownBlock ∧ oN k_ Ao97 t528 co97 ∧ oN k_ Ao100 t531 co100 ∧ oN k_ Ao106 t534 co106 ∧ oN k_ Ao110 t539 co110 ∧ oN k_ Ao117 t542 co117 ∧ oN k_ Ao120 t547 co120 ∧ oN k_ Ao128 t550 co128) v521 t520) := ⟨by (with_reducible repeat (first | apply Kd.R_alloc | apply Kd.R_drewN | apply Kd.R_drew)); exact Kd.R_mono (Kd.R_far (p := ⟨gb554, 1, none⟩) (Kd.R_far (p := ⟨gb554, 0, none⟩) (Kd.R_types HO522.out BK554.out (by decide)) (fun _ hk => hk.2) (.slice Ao120 t547.length co120)) (fun _ hk => hk.2) (.slice Ao128 t550.length co128)) (fun _ hk => ⟨hk.1.1.1.1.1.1.1.1.1.1.1.1.1.1.1.1.2, ⟨hk.1.1.1.1.1.1.1.1.1.1.1.1.1.1.1.2, ⟨hk.1.1.1.1.1.1.1.1.1.1.1.1.1.1.2, ⟨hk.1.1.1.1.1.1.1.1.1.1.1.1.1.2, ⟨hk.1.1.1.1.1.1.1.1.1.1.1.1.2, ⟨hk.1.1.1.1.1.1.1.1.1.1.1.2, ⟨hk.1.1.1.1.1.1.1.1.1.1.2, ⟨hk.1.1.1.1.1.1.1.1.1.2, ⟨hk.1.1.1.1.1.1.1.1.2, ⟨hk.1.1.1.1.1.1.1.2, ⟨hk.1.1.1.1.1.1.2, ⟨hk.1.1.1.1.1.2, ⟨hk.1.1.1.1.2, ⟨hk.1.1.1.2, ⟨hk.1.1.2, hk.1.2⟩⟩⟩⟩⟩⟩⟩⟩⟩⟩⟩⟩⟩⟩⟩)⟩
                       have n9_ : Aside0 (Kd.R (Kd.int .i64) 3 ((w119.setCell ⟨gb554, 0, none⟩ (.slice Ao120 t547.length co120)).setCell ⟨gb554, 1, none⟩ (.slice Ao128 t550.length co128)) w.heap.size (fun k_ => oN k_ Ao12 t487 co12 ∧ oN k_ Ao14 t490 co14 ∧ oN k_ Ao17 t494 co17 ∧ oN k_ Ao20 t497 co20 ∧ oN k_ Ao24 t502 co24 ∧ oN k_ Ao28 t505 co28 ∧ oN k_ Ao83 t512 co83 ∧ oN k_ Ao88 t515 co88 ∧ some k_ ≠ (v521 : Value).ownBlock ∧ oN k_ Ao97 t528 co97 ∧ oN k_ Ao100 t531 co100 ∧ oN k_ Ao106 t534 co106 ∧ oN k_ Ao110 t539 co110 ∧ oN k_ Ao117 t542 co117 ∧ oN k_ Ao120 t547 co120 ∧ oN k_ Ao128 t550 co128) v525 t524) := ⟨by (with_reducible repeat (first | apply Kd.R_alloc | apply Kd.R_drewN | apply Kd.R_drew)); exact Kd.R_mono (Kd.R_far (p := ⟨gb554, 1, none⟩) (Kd.R_far (p := ⟨gb554, 0, none⟩) (Kd.R_types HO526.out BK554.out (by decide)) (fun _ hk => hk.2) (.slice Ao120 t547.length co120)) (fun _ hk => hk.2) (.slice Ao128 t550.length co128)) (fun _ hk => ⟨hk.1.1.1.1.1.1.1.1.1.1.1.1.1.1.1.1.2, ⟨hk.1.1.1.1.1.1.1.1.1.1.1.1.1.1.1.2, ⟨hk.1.1.1.1.1.1.1.1.1.1.1.1.1.1.2, ⟨hk.1.1.1.1.1.1.1.1.1.1.1.1.1.2, ⟨hk.1.1.1.1.1.1.1.1.1.1.1.1.2, ⟨hk.1.1.1.1.1.1.1.1.1.1.1.2, ⟨hk.1.1.1.1.1.1.1.1.1.1.2, ⟨hk.1.1.1.1.1.1.1.1.1.2, ⟨hk.1.1.1.1.1.1.1.1.2, ⟨hk.1.1.1.1.1.1.1.2, ⟨hk.1.1.1.1.1.1.2, ⟨hk.1.1.1.1.1.2, ⟨hk.1.1.1.1.2, ⟨hk.1.1.1.2, ⟨hk.1.1.2, hk.1.2⟩⟩⟩⟩⟩⟩⟩⟩⟩⟩⟩⟩⟩⟩⟩)⟩
                       have n10_ : Aside0 (Kd.R (Kd.int .i64) 3 ((w119.setCell ⟨gb554, 0, none⟩ (.slice Ao120 t547.length co120)).setCell ⟨gb554, 1, none⟩ (.slice Ao128 t550.length co128)) w.heap.size (fun k_ => oN k_ Ao12 t487 co12 ∧ oN k_ Ao14 t490 co14 ∧ oN k_ Ao17 t494 co17 ∧ oN k_ Ao20 t497 co20 ∧ oN k_ Ao24 t502 co24 ∧ oN k_ Ao28 t505 co28 ∧ oN k_ Ao83 t512 co83 ∧ oN k_ Ao88 t515 co88 ∧ some k_ ≠ (v521 : Value).ownBlock ∧ some k_ ≠ (v525 : Value).ownBlock ∧ oN k_ Ao100 t531 co100 ∧ oN k_ Ao106 t534 co106 ∧ oN k_ Ao110 t539 co110 ∧ oN k_ Ao117 t542 co117 ∧ oN k_ Ao120 t547 co120 ∧ oN k_ Ao128 t550 co128) (.slice Ao97 t528.length co97) t528) := ⟨by (with_reducible repeat (first | apply Kd.R_alloc | apply Kd.R_drewN | apply Kd.R_drew)); exact Kd.R_mono (Kd.R_far (p := ⟨gb554, 1, none⟩) (Kd.R_far (p := ⟨gb554, 0, none⟩) (Kd.R_types HO530.out BK554.out (by decide)) (fun _ hk => hk.2) (.slice Ao120 t547.length co120)) (fun _ hk => hk.2) (.slice Ao128 t550.length co128)) (fun _ hk => ⟨hk.1.1.1.1.1.1.1.1.1.1.1.1.1.1.1.1.2, ⟨hk.1.1.1.1.1.1.1.1.1.1.1.1.1.1.1.2, ⟨hk.1.1.1.1.1.1.1.1.1.1.1.1.1.1.2, ⟨hk.1.1.1.1.1.1.1.1.1.1.1.1.1.2, ⟨hk.1.1.1.1.1.1.1.1.1.1.1.1.2, ⟨hk.1.1.1.1.1.1.1.1.1.1.1.2, ⟨hk.1.1.1.1.1.1.1.1.1.1.2, ⟨hk.1.1.1.1.1.1.1.1.1.2, ⟨hk.1.1.1.1.1.1.1.1.2, ⟨hk.1.1.1.1.1.1.1.2, ⟨hk.1.1.1.1.1.1.2, ⟨hk.1.1.1.1.1.2, ⟨hk.1.1.1.1.2, ⟨hk.1.1.1.2, ⟨hk.1.1.2, hk.1.2⟩⟩⟩⟩⟩⟩⟩⟩⟩⟩⟩⟩⟩⟩⟩)⟩
                       have n11_ : Aside0 (Kd.R (Kd.int .i64) 3 ((w119.setCell ⟨gb554, 0, none⟩ (.slice Ao120 t547.length co120)).setCell ⟨gb554, 1, none⟩ (.slice Ao128 t550.length co128)) w.heap.size (fun k_ => oN k_ Ao12 t487 co12 ∧ oN k_ Ao14 t490 co14 ∧ oN k_ Ao17 t494 co17 ∧ oN k_ Ao20 t497 co20 ∧ oN k_ Ao24 t502 co24 ∧ oN k_ Ao28 t505 co28 ∧ oN k_ Ao83 t512 co83 ∧ oN k_ Ao88 t515 co88 ∧ some k_ ≠ (v521 : Value).ownBlock ∧ some k_ ≠ (v525 : Value).ownBlock ∧ oN k_ Ao97 t528 co97 ∧ oN k_ Ao106 t534 co106 ∧ oN k_ Ao110 t539 co110 ∧ oN k_ Ao117 t542 co117 ∧ oN k_ Ao120 t547 co120 ∧ oN k_ Ao128 t550 co128) (.slice Ao100 t531.length co100) t531) := ⟨by (with_reducible repeat (first | apply Kd.R_alloc | apply Kd.R_drewN | apply Kd.R_drew)); exact Kd.R_mono (Kd.R_far (p := ⟨gb554, 1, none⟩) (Kd.R_far (p := ⟨gb554, 0, none⟩) (Kd.R_types HO533.out BK554.out (by decide)) (fun _ hk => hk.2) (.slice Ao120 t547.length co120)) (fun _ hk => hk.2) (.slice Ao128 t550.length co128)) (fun _ hk => ⟨hk.1.1.1.1.1.1.1.1.1.1.1.1.1.1.1.2, ⟨hk.1.1.1.1.1.1.1.1.1.1.1.1.1.1.2, ⟨hk.1.1.1.1.1.1.1.1.1.1.1.1.1.2, ⟨hk.1.1.1.1.1.1.1.1.1.1.1.1.2, ⟨hk.1.1.1.1.1.1.1.1.1.1.1.2, ⟨hk.1.1.1.1.1.1.1.1.1.1.2, ⟨hk.1.1.1.1.1.1.1.1.1.2, ⟨hk.1.1.1.1.1.1.1.1.2, ⟨hk.1.1.1.1.1.1.1.2, ⟨hk.1.1.1.1.1.1.2, ⟨hk.1.1.1.1.1.2, ⟨hk.1.1.1.1.1.1.1.1.1.1.1.1.1.1.1.1, ⟨hk.1.1.1.1.2, ⟨hk.1.1.1.2, ⟨hk.1.1.2, hk.1.2⟩⟩⟩⟩⟩⟩⟩⟩⟩⟩⟩⟩⟩⟩⟩)⟩
                       have n12_ : Aside0 (Kd.R (Kd.int .i64) 3 ((w119.setCell ⟨gb554, 0, none⟩ (.slice Ao120 t547.length co120)).setCell ⟨gb554, 1, none⟩ (.slice Ao128 t550.length co128)) w.heap.size (fun k_ => oN k_ Ao12 t487 co12 ∧ oN k_ Ao14 t490 co14 ∧ oN k_ Ao17 t494 co17 ∧ oN k_ Ao20 t497 co20 ∧ oN k_ Ao24 t502 co24 ∧ oN k_ Ao28 t505 co28 ∧ oN k_ Ao83 t512 co83 ∧ oN k_ Ao88 t515 co88 ∧ some k_ ≠ (v521 : Value).ownBlock ∧ some k_ ≠ (v525 : Value).ownBlock ∧ oN k_ Ao97 t528 co97 ∧ oN k_ Ao100 t531 co100 ∧ oN k_ Ao110 t539 co110 ∧ oN k_ Ao117 t542 co117 ∧ oN k_ Ao120 t547 co120 ∧ oN k_ Ao128 t550 co128) (.slice Ao106 t534.length co106) t534) := ⟨by (with_reducible repeat (first | apply Kd.R_alloc | apply Kd.R_drewN | apply Kd.R_drew)); exact Kd.R_mono (Kd.R_far (p := ⟨gb554, 1, none⟩) (Kd.R_far (p := ⟨gb554, 0, none⟩) (Kd.R_types HO536.out BK554.out (by decide)) (fun _ hk => hk.2) (.slice Ao120 t547.length co120)) (fun _ hk => hk.2) (.slice Ao128 t550.length co128)) (fun _ hk => ⟨hk.1.1.1.1.1.1.1.1.1.1.1.1.1.1.1.2, ⟨hk.1.1.1.1.1.1.1.1.1.1.1.1.1.1.2, ⟨hk.1.1.1.1.1.1.1.1.1.1.1.1.1.2, ⟨hk.1.1.1.1.1.1.1.1.1.1.1.1.2, ⟨hk.1.1.1.1.1.1.1.1.1.1.1.2, ⟨hk.1.1.1.1.1.1.1.1.1.1.2, ⟨hk.1.1.1.1.1.1.1.1.1.2, ⟨hk.1.1.1.1.1.1.1.1.2, ⟨hk.1.1.1.1.1.1.1.2, ⟨hk.1.1.1.1.1.1.2, ⟨hk.1.1.1.1.1.2, ⟨hk.1.1.1.1.1.1.1.1.1.1.1.1.1.1.1.1, ⟨hk.1.1.1.1.2, ⟨hk.1.1.1.2, ⟨hk.1.1.2, hk.1.2⟩⟩⟩⟩⟩⟩⟩⟩⟩⟩⟩⟩⟩⟩⟩)⟩
                       have n13_ : Aside0 (Kd.R (Kd.int .i64) 3 ((w119.setCell ⟨gb554, 0, none⟩ (.slice Ao120 t547.length co120)).setCell ⟨gb554, 1, none⟩ (.slice Ao128 t550.length co128)) w.heap.size (fun k_ => oN k_ Ao12 t487 co12 ∧ oN k_ Ao14 t490 co14 ∧ oN k_ Ao17 t494 co17 ∧ oN k_ Ao20 t497 co20 ∧ oN k_ Ao24 t502 co24 ∧ oN k_ Ao28 t505 co28 ∧ oN k_ Ao83 t512 co83 ∧ oN k_ Ao88 t515 co88 ∧ some k_ ≠ (v521 : Value).ownBlock ∧ some k_ ≠ (v525 : Value).ownBlock ∧ oN k_ Ao97 t528 co97 ∧ oN k_ Ao100 t531 co100 ∧ oN k_ Ao106 t534 co106 ∧ oN k_ Ao117 t542 co117 ∧ oN k_ Ao120 t547 co120 ∧ oN k_ Ao128 t550 co128) (.slice Ao110 t539.length co110) t539) := ⟨by (with_reducible repeat (first | apply Kd.R_alloc | apply Kd.R_drewN | apply Kd.R_drew)); exact Kd.R_mono (Kd.R_far (p := ⟨gb554, 1, none⟩) (Kd.R_far (p := ⟨gb554, 0, none⟩) (Kd.R_types HO541.out BK554.out (by decide)) (fun _ hk => hk.2) (.slice Ao120 t547.length co120)) (fun _ hk => hk.2) (.slice Ao128 t550.length co128)) (fun _ hk => ⟨hk.1.1.1.1.1.1.1.1.1.1.1.1.1.1.1.2, ⟨hk.1.1.1.1.1.1.1.1.1.1.1.1.1.1.2, ⟨hk.1.1.1.1.1.1.1.1.1.1.1.1.1.2, ⟨hk.1.1.1.1.1.1.1.1.1.1.1.1.2, ⟨hk.1.1.1.1.1.1.1.1.1.1.1.2, ⟨hk.1.1.1.1.1.1.1.1.1.1.2, ⟨hk.1.1.1.1.1.1.1.1.1.2, ⟨hk.1.1.1.1.1.1.1.1.2, ⟨hk.1.1.1.1.1.1.1.2, ⟨hk.1.1.1.1.1.1.2, ⟨hk.1.1.1.1.1.2, ⟨hk.1.1.1.1.2, ⟨hk.1.1.1.2, ⟨hk.1.1.1.1.1.1.1.1.1.1.1.1.1.1.1.1, ⟨hk.1.1.2, hk.1.2⟩⟩⟩⟩⟩⟩⟩⟩⟩⟩⟩⟩⟩⟩⟩)⟩
                       have n14_ : Aside0 (Kd.R (Kd.int .i64) 3 ((w119.setCell ⟨gb554, 0, none⟩ (.slice Ao120 t547.length co120)).setCell ⟨gb554, 1, none⟩ (.slice Ao128 t550.length co128)) w.heap.size (fun k_ => oN k_ Ao12 t487 co12 ∧ oN k_ Ao14 t490 co14 ∧ oN k_ Ao17 t494 co17 ∧ oN k_ Ao20 t497 co20 ∧ oN k_ Ao24 t502 co24 ∧ oN k_ Ao28 t505 co28 ∧ oN k_ Ao83 t512 co83 ∧ oN k_ Ao88 t515 co88 ∧ some k_ ≠ (v521 : Value).ownBlock ∧ some k_ ≠ (v525 : Value).ownBlock ∧ oN k_ Ao97 t528 co97 ∧ oN k_ Ao100 t531 co100 ∧ oN k_ Ao106 t534 co106 ∧ oN k_ Ao110 t539 co110 ∧ oN k_ Ao120 t547 co120 ∧ oN k_ Ao128 t550 co128) (.slice Ao117 t542.length co117) t542) := ⟨by (with_reducible repeat (first | apply Kd.R_alloc | apply Kd.R_drewN | apply Kd.R_drew)); exact Kd.R_mono (Kd.R_far (p := ⟨gb554, 1, none⟩) (Kd.R_far (p := ⟨gb554, 0, none⟩) (Kd.R_types HO544.out BK554.out (by decide)) (fun _ hk => hk.2) (.slice Ao120 t547.length co120)) (fun _ hk => hk.2) (.slice Ao128 t550.length co128)) (fun _ hk => ⟨hk.1.1.1.1.1.1.1.1.1.1.1.1.1.1.1.2, ⟨hk.1.1.1.1.1.1.1.1.1.1.1.1.1.1.2, ⟨hk.1.1.1.1.1.1.1.1.1.1.1.1.1.2, ⟨hk.1.1.1.1.1.1.1.1.1.1.1.1.2, ⟨hk.1.1.1.1.1.1.1.1.1.1.1.2, ⟨hk.1.1.1.1.1.1.1.1.1.1.2, ⟨hk.1.1.1.1.1.1.1.1.1.2, ⟨hk.1.1.1.1.1.1.1.1.2, ⟨hk.1.1.1.1.1.1.1.2, ⟨hk.1.1.1.1.1.1.2, ⟨hk.1.1.1.1.1.2, ⟨hk.1.1.1.1.2, ⟨hk.1.1.1.2, ⟨hk.1.1.1.1.1.1.1.1.1.1.1.1.1.1.1.1, ⟨hk.1.1.2, hk.1.2⟩⟩⟩⟩⟩⟩⟩⟩⟩⟩⟩⟩⟩⟩⟩)⟩
                       have n15_ : Aside0 (Kd.R (Kd.int .i64) 3 ((w119.setCell ⟨gb554, 0, none⟩ (.slice Ao120 t547.length co120)).setCell ⟨gb554, 1, none⟩ (.slice Ao128 t550.length co128)) w.heap.size (fun k_ => oN k_ Ao12 t487 co12 ∧ oN k_ Ao14 t490 co14 ∧ oN k_ Ao17 t494 co17 ∧ oN k_ Ao20 t497 co20 ∧ oN k_ Ao24 t502 co24 ∧ oN k_ Ao28 t505 co28 ∧ oN k_ Ao83 t512 co83 ∧ oN k_ Ao88 t515 co88 ∧ some k_ ≠ (v521 : Value).ownBlock ∧ some k_ ≠ (v525 : Value).ownBlock ∧ oN k_ Ao97 t528 co97 ∧ oN k_ Ao100 t531 co100 ∧ oN k_ Ao106 t534 co106 ∧ oN k_ Ao110 t539 co110 ∧ oN k_ Ao117 t542 co117 ∧ oN k_ Ao128 t550 co128) (.slice Ao120 t547.length co120) t547) := ⟨by (with_reducible repeat (first | apply Kd.R_alloc | apply Kd.R_drewN | apply Kd.R_drew)); exact Kd.R_mono (Kd.R_far (p := ⟨gb554, 1, none⟩) (Kd.R_far (p := ⟨gb554, 0, none⟩) (Kd.R_types HO549.out BK554.out (by decide)) (fun _ hk => hk.2) (.slice Ao120 t547.length co120)) (fun _ hk => hk.2) (.slice Ao128 t550.length co128)) (fun _ hk => ⟨hk.1.1.1.1.1.1.1.1.1.1.1.1.1.1.1.2, ⟨hk.1.1.1.1.1.1.1.1.1.1.1.1.1.1.2, ⟨hk.1.1.1.1.1.1.1.1.1.1.1.1.1.2, ⟨hk.1.1.1.1.1.1.1.1.1.1.1.1.2, ⟨hk.1.1.1.1.1.1.1.1.1.1.1.2, ⟨hk.1.1.1.1.1.1.1.1.1.1.2, ⟨hk.1.1.1.1.1.1.1.1.1.2, ⟨hk.1.1.1.1.1.1.1.1.2, ⟨hk.1.1.1.1.1.1.1.2, ⟨hk.1.1.1.1.1.1.2, ⟨hk.1.1.1.1.1.2, ⟨hk.1.1.1.1.2, ⟨hk.1.1.1.2, ⟨hk.1.1.2, ⟨hk.1.2, hk.1.1.1.1.1.1.1.1.1.1.1.1.1.1.1.1⟩⟩⟩⟩⟩⟩⟩⟩⟩⟩⟩⟩⟩⟩⟩)⟩
                       have n16_ : Aside0 (Kd.R (Kd.int .i64) 3 ((w119.setCell ⟨gb554, 0, none⟩ (.slice Ao120 t547.length co120)).setCell ⟨gb554, 1, none⟩ (.slice Ao128 t550.length co128)) w.heap.size (fun k_ => oN k_ Ao12 t487 co12 ∧ oN k_ Ao14 t490 co14 ∧ oN k_ Ao17 t494 co17 ∧ oN k_ Ao20 t497 co20 ∧ oN k_ Ao24 t502 co24 ∧ oN k_ Ao28 t505 co28 ∧ oN k_ Ao83 t512 co83 ∧ oN k_ Ao88 t515 co88 ∧ some k_ ≠ (v521 : Value).ownBlock ∧ some k_ ≠ (v525 : Value).ownBlock ∧ oN k_ Ao97 t528 co97 ∧ oN k_ Ao100 t531 co100 ∧ oN k_ Ao106 t534 co106 ∧ oN k_ Ao110 t539 co110 ∧ oN k_ Ao117 t542 co117 ∧ oN k_ Ao120 t547 co120) (.slice Ao128 t550.length co128) t550) := ⟨by (with_reducible repeat (first | apply Kd.R_alloc | apply Kd.R_drewN | apply Kd.R_drew)); exact Kd.R_mono (Kd.R_far (p := ⟨gb554, 1, none⟩) (Kd.R_far (p := ⟨gb554, 0, none⟩) (Kd.R_types HO552.out BK554.out (by decide)) (fun _ hk => hk.2) (.slice Ao120 t547.length co120)) (fun _ hk => hk.2) (.slice Ao128 t550.length co128)) (fun _ hk => ⟨hk.1.1.1.1.1.1.1.1.1.1.1.1.1.1.1.2, ⟨hk.1.1.1.1.1.1.1.1.1.1.1.1.1.1.2, ⟨hk.1.1.1.1.1.1.1.1.1.1.1.1.1.2, ⟨hk.1.1.1.1.1.1.1.1.1.1.1.1.2, ⟨hk.1.1.1.1.1.1.1.1.1.1.1.2, ⟨hk.1.1.1.1.1.1.1.1.1.1.2, ⟨hk.1.1.1.1.1.1.1.1.1.2, ⟨hk.1.1.1.1.1.1.1.1.2, ⟨hk.1.1.1.1.1.1.1.2, ⟨hk.1.1.1.1.1.1.2, ⟨hk.1.1.1.1.1.2, ⟨hk.1.1.1.1.2, ⟨hk.1.1.1.2, ⟨hk.1.1.2, ⟨hk.1.2, hk.1.1.1.1.1.1.1.1.1.1.1.1.1.1.1.1⟩⟩⟩⟩⟩⟩⟩⟩⟩⟩⟩⟩⟩⟩⟩)⟩
                       have n17_ : Aside0 (((w119.setCell ⟨gb554, 0, none⟩ (.slice Ao120 t547.length co120)).setCell ⟨gb554, 1, none⟩ (.slice Ao128 t550.length co128)).heap[gb493]? = some (.cells #[.slice Ao12 t487.length co12, .slice Ao14 t490.length co14] 25 (0, 0))) := ⟨kF BK493⟩
                       have n18_ : Aside0 (((w119.setCell ⟨gb554, 0, none⟩ (.slice Ao120 t547.length co120)).setCell ⟨gb554, 1, none⟩ (.slice Ao128 t550.length co128)).heap[gb501]? = some (.cells #[.slice Ao17 t494.length co17, .slice Ao20 t497.length co20] 25 (0, 0))) := ⟨kF BK501⟩
                       have n19_ : Aside0 (((w119.setCell ⟨gb554, 0, none⟩ (.slice Ao120 t547.length co120)).setCell ⟨gb554, 1, none⟩ (.slice Ao128 t550.length co128)).heap[gb509]? = some (.cells #[.slice Ao24 t502.length co24, .slice Ao28 t505.length co28] 25 (0, 0))) := ⟨kF BK509⟩
                       have n20_ : Aside0 (((w119.setCell ⟨gb554, 0, none⟩ (.slice Ao120 t547.length co120)).setCell ⟨gb554, 1, none⟩ (.slice Ao128 t550.length co128)).heap[gb519]? = some (.cells #[.slice Ao83 t512.length co83, .slice Ao88 t515.length co88] 25 (0, 0))) := ⟨kF BK519⟩
                       have n21_ : Aside0 (((w119.setCell ⟨gb554, 0, none⟩ (.slice Ao120 t547.length co120)).setCell ⟨gb554, 1, none⟩ (.slice Ao128 t550.length co128)).heap[gb538]? = some (.cells #[.slice Ao100 t531.length co100, .slice Ao106 t534.length co106] 25 (0, 0))) := ⟨kF BK538⟩
                       have n22_ : Aside0 (((w119.setCell ⟨gb554, 0, none⟩ (.slice Ao120 t547.length co120)).setCell ⟨gb554, 1, none⟩ (.slice Ao128 t550.length co128)).heap[gb546]? = some (.cells #[.slice Ao110 t539.length co110, .slice Ao117 t542.length co117] 25 (0, 0))) := ⟨kF BK546⟩
                       have n23_ : Aside0 (((w119.setCell ⟨gb554, 0, none⟩ (.slice Ao120 t547.length co120)).setCell ⟨gb554, 1, none⟩ (.slice Ao128 t550.length co128)).heap[gb554]? = some (.cells #[.slice Ao120 t547.length co120, .slice Ao128 t550.length co128] 25 (0, 0))) := ⟨by (with_reducible repeat (first | refine blk_drewN ?_ _ | refine blk_drew ?_ | refine blk_alloc ?_ _)); refine blk_put (cs := #[.slice Ao120 t547.length co120, .slice none 0 0]) ?_ 1 _ rfl; (with_reducible repeat (first | refine blk_drewN ?_ _ | refine blk_drew ?_ | refine blk_alloc ?_ _)); refine blk_put (cs := #[.slice none 0 0, .slice none 0 0]) ?_ 0 _ rfl; (with_reducible repeat (first | refine blk_drewN ?_ _ | refine blk_drew ?_ | refine blk_alloc ?_ _)); exact BK554.out⟩
                       have n24_ : Aside0 (Below w.heap.size w ((w119.setCell ⟨gb554, 0, none⟩ (.slice Ao120 t547.length co120)).setCell ⟨gb554, 1, none⟩ (.slice Ao128 t550.length co128))) := ⟨bP HB⟩
                       (try clear HO_494000)
                       (try clear HO_494001)
                       (try clear HO_502000)
                       (try clear HO_502001)
                       (try clear HO_510000)
                       (try clear HO_510001)
                       (try clear HO514)
                       (try clear HO517)
                       (try clear HO522)
                       (try clear HO526)
                       (try clear HO530)
                       (try clear HO533)
                       (try clear HO536)
                       (try clear HO541)
                       (try clear HO544)
                       (try clear HO549)
                       (try clear HO552)
                       (try clear BK493)
                       (try clear BK501)
                       (try clear BK509)
                       (try clear BK519)
                       (try clear BK538)
                       (try clear BK546)
                       (try clear BK554)
                       (try clear HB)
                       generalize ((w119.setCell ⟨gb554, 0, none⟩ (.slice Ao120 t547.length co120)).setCell ⟨gb554, 1, none⟩ (.slice Ao128 t550.length co128)) = w129 at n0_ n1_ n2_ n3_ n4_ n5_ n6_ n7_ n8_ n9_ n10_ n11_ n12_ n13_ n14_ n15_ n16_ n17_ n18_ n19_ n20_ n21_ n22_ n23_ n24_ ⊢
                       have HO_494000 := n0_
                       have HO_494001 := n1_
                       have HO_502000 := n2_
                       have HO_502001 := n3_
                       have HO_510000 := n4_
                       have HO_510001 := n5_
                       have HO514 := n6_
                       have HO517 := n7_
                       have HO522 := n8_
                       have HO526 := n9_
                       have HO530 := n10_
                       have HO533 := n11_
                       have HO536 := n12_
                       have HO541 := n13_
                       have HO544 := n14_
                       have HO549 := n15_
                       have HO552 := n16_
                       have BK493 := n17_
                       have BK501 := n18_
                       have BK509 := n19_
                       have BK519 := n20_
                       have BK538 := n21_
                       have BK546 := n22_
                       have BK554 := n23_
                       have HB := n24_
                       clear n0_ n1_ n2_ n3_ n4_ n5_ n6_ n7_ n8_ n9_ n10_ n11_ n12_ n13_ n14_ n15_ n16_ n17_ n18_ n19_ n20_ n21_ n22_ n23_ n24_
                       have n0_ := Aside0.mk (Kd.Q_drew HO_494000.out)
                       have n1_ := Aside0.mk (Kd.R_drew HO_494001.out)
                       have n2_ := Aside0.mk (Kd.Q_drew HO_502000.out)
                       have n3_ := Aside0.mk (Kd.R_drew HO_502001.out)
                       have n4_ := Aside0.mk (Kd.Q_drew HO_510000.out)
                       have n5_ := Aside0.mk (Kd.R_drew HO_510001.out)
                       have n6_ := Aside0.mk (Kd.R_drew HO514.out)
                       have n7_ := Aside0.mk (Kd.R_drew HO517.out)
                       have n8_ := Aside0.mk (Kd.R_drew HO522.out)
                       have n9_ := Aside0.mk (Kd.R_drew HO526.out)
                       have n10_ := Aside0.mk (Kd.R_drew HO530.out)
                       have n11_ := Aside0.mk (Kd.R_drew HO533.out)
                       have n12_ := Aside0.mk (Kd.R_drew HO536.out)
                       have n13_ := Aside0.mk (Kd.R_drew HO541.out)
                       have n14_ := Aside0.mk (Kd.R_drew HO544.out)
                       have n15_ := Aside0.mk (Kd.R_drew HO549.out)
                       have n16_ := Aside0.mk (Kd.R_drew HO552.out)
                       have n17_ := Aside0.mk (blk_drew BK493.out)
                       have n18_ := Aside0.mk (blk_drew BK501.out)
                       have n19_ := Aside0.mk (blk_drew BK509.out)
                       have n20_ := Aside0.mk (blk_drew BK519.out)
                       have n21_ := Aside0.mk (blk_drew BK538.out)
                       have n22_ := Aside0.mk (blk_drew BK546.out)
                       have n23_ := Aside0.mk (blk_drew BK554.out)
                       have n24_ := Aside0.mk (below_drew1 HB.out)
                       clear HO_494000
                       clear HO_494001
                       clear HO_502000
                       clear HO_502001
                       clear HO_510000
                       clear HO_510001
                       clear HO514
                       clear HO517
                       clear HO522
                       clear HO526
                       clear HO530
                       clear HO533
                       clear HO536
                       clear HO541
                       clear HO544
                       clear HO549
                       clear HO552
                       clear BK493
                       clear BK501
                       clear BK509
                       clear BK519
                       clear BK538
                       clear BK546
                       clear BK554
                       clear HB
                       have HO_494000 := n0_
                       have HO_494001 := n1_
                       have HO_502000 := n2_
                       have HO_502001 := n3_
                       have HO_510000 := n4_
                       have HO_510001 := n5_
                       have HO514 := n6_
                       have HO517 := n7_
                       have HO522 := n8_
                       have HO526 := n9_
                       have HO530 := n10_
                       have HO533 := n11_
                       have HO536 := n12_
                       have HO541 := n13_
                       have HO544 := n14_
                       have HO549 := n15_
                       have HO552 := n16_
                       have BK493 := n17_
                       have BK501 := n18_
                       have BK509 := n19_
                       have BK519 := n20_
                       have BK538 := n21_
                       have BK546 := n22_
                       have BK554 := n23_
                       have HB := n24_
                       clear n0_ n1_ n2_ n3_ n4_ n5_ n6_ n7_ n8_ n9_ n10_ n11_ n12_ n13_ n14_ n15_ n16_ n17_ n18_ n19_ n20_ n21_ n22_ n23_ n24_
                       obtain ⟨AqHO522, cqHO522, eqHO522⟩ := Kd.R_slice HO522.out
                       subst eqHO522
                       have p556 : 0 ≤ (0 : Int) := (by omega)
                       have q556 : 0 < (t520.length : Int) := dT
                       obtain ⟨ad556, e556, hx556_0⟩ := Kd.at_int (Kd.R_reads' HO522.out).2.2 0 p556 q556
                       cases e556
                       have qi556 : (0 < t520.length) = True := eq_true (by omega)
                       (try rw [show ((0 : Int)).toNat = 0 from rfl] at hx556_0)
                       (try rw [Addr.add_zero'] at hx556_0)
                       replace p556 := eq_true p556
                       replace q556 := eq_true q556
                       obtain ⟨AqHO526, cqHO526, eqHO526⟩ := Kd.R_slice HO526.out
                       subst eqHO526
                       have p557 : 0 ≤ (2 : Int) := (by omega)
                       have q557 : 2 < (t524.length : Int) := dT
                       obtain ⟨ad557, e557, hx557_0⟩ := Kd.at_int (Kd.R_reads' HO526.out).2.2 2 p557 q557
                       cases e557
                       (try simp only [show (2 : Int).toNat = 2 from rfl, Nat.reduceMul, Nat.reduceEqDiff, Go.Addr.add, ↓reduceIte] at hx557_0)
                       have qi557 : (2 < t524.length) = True := eq_true (by omega)
                       (try rw [show ((2 : Int)).toNat = 2 from rfl] at hx557_0)
                       replace p557 := eq_true p557
                       replace q557 := eq_true q557
                       have p558 : 0 ≤ (2 : Int) := (by omega)
                       have q558 : 2 < (t520.length : Int) := dT
                       obtain ⟨ad558, e558, hx558_0⟩ := Kd.at_int (Kd.R_reads' HO522.out).2.2 2 p558 q558
                       obtain rfl : ad556 = ad558 := (by injection e558)
                       (try simp only [show (2 : Int).toNat = 2 from rfl, Nat.reduceMul, Nat.reduceEqDiff, Go.Addr.add, ↓reduceIte] at hx558_0)
                       have qi558 : (2 < t520.length) = True := eq_true (by omega)
                       (try rw [show ((2 : Int)).toNat = 2 from rfl] at hx558_0)
                       replace p558 := eq_true p558
                       replace q558 := eq_true q558
                       have p559 : 0 ≤ (0 : Int) := (by omega)
                       have q559 : 0 < (t524.length : Int) := dT
                       obtain ⟨ad559, e559, hx559_0⟩ := Kd.at_int (Kd.R_reads' HO526.out).2.2 0 p559 q559
                       obtain rfl : ad557 = ad559 := (by injection e559)
                       have qi559 : (0 < t524.length) = True := eq_true (by omega)
                       (try rw [show ((0 : Int)).toNat = 0 from rfl] at hx559_0)
                       (try rw [Addr.add_zero'] at hx559_0)
                       replace p559 := eq_true p559
                       replace q559 := eq_true q559
                       have p560 : 0 ≤ (1 : Int) := (by omega)
                       have q560 : 1 < (t520.length : Int) := dT
                       obtain ⟨ad560, e560, hx560_0⟩ := Kd.at_int (Kd.R_reads' HO522.out).2.2 1 p560 q560
                       obtain rfl : ad556 = ad560 := (by injection e560)
                       (try simp only [show (1 : Int).toNat = 1 from rfl, Nat.reduceMul, Nat.reduceEqDiff, Go.Addr.add, ↓reduceIte] at hx560_0)
                       have qi560 : (1 < t520.length) = True := eq_true (by omega)
                       (try rw [show ((1 : Int)).toNat = 1 from rfl] at hx560_0)
                       replace p560 := eq_true p560
                       replace q560 := eq_true q560
                       have p561 : 0 ≤ (1 : Int) := (by omega)
                       have q561 : 1 < (t524.length : Int) := dT
                       obtain ⟨ad561, e561, hx561_0⟩ := Kd.at_int (Kd.R_reads' HO526.out).2.2 1 p561 q561
                       obtain rfl : ad557 = ad561 := (by injection e561)
                       (try simp only [show (1 : Int).toNat = 1 from rfl, Nat.reduceMul, Nat.reduceEqDiff, Go.Addr.add, ↓reduceIte] at hx561_0)
                       have qi561 : (1 < t524.length) = True := eq_true (by omega)
                       (try rw [show ((1 : Int)).toNat = 1 from rfl] at hx561_0)
                       replace p561 := eq_true p561
                       replace q561 := eq_true q561
                       refine start_ (n := 54) (S := fun w' => w'.cell? ⟨gb519, 0, none⟩ = some (.slice Ao83 t512.length co83) ∧ w'.cell? ⟨gb519, 1, none⟩ = some (.slice Ao88 t515.length co88) ∧ w'.cell? ⟨gb493, 0, none⟩ = some (.slice Ao12 t487.length co12) ∧ w'.cell? ⟨gb493, 1, none⟩ = some (.slice Ao14 t490.length co14) ∧ w'.cell? ⟨gb538, 0, none⟩ = some (.slice Ao100 t531.length co100) ∧ w'.cell? ⟨gb538, 1, none⟩ = some (.slice Ao106 t534.length co106) ∧ w'.cell? ⟨gb554, 0, none⟩ = some (.slice Ao120 t547.length co120) ∧ w'.cell? ⟨gb554, 1, none⟩ = some (.slice Ao128 t550.length co128) ∧ w'.cell? ad556 = some (.int .i64 (rd t520 0)) ∧ w'.cell? ⟨ad557.block, ad557.off + 2, none⟩ = some (.int .i64 (rd t524 2)) ∧ w'.cell? ⟨ad556.block, ad556.off + 2, none⟩ = some (.int .i64 (rd t520 2)) ∧ w'.cell? ad557 = some (.int .i64 (rd t524 0)) ∧ w'.cell? ⟨ad556.block, ad556.off + 1, none⟩ = some (.int .i64 (rd t520 1)) ∧ w'.cell? ⟨ad557.block, ad557.off + 1, none⟩ = some (.int .i64 (rd t524 1))) (ds := []) #[false, false, false, false, false, false, false, false, false, false, false, false, false, false, false, false, false, false, false, false, false, false, false, false, false, false, false, false, false, false, false, false, false, false, false, false, false, false, false, false, false, false, false, false, false, false, false, false, false, false, false, false, false, false] (by kernel_rfl) rfl rfl ⟨(blk_cell BK519.out 0).trans rfl, (blk_cell BK519.out 1).trans rfl, (blk_cell BK493.out 0).trans rfl, (blk_cell BK493.out 1).trans rfl, (blk_cell BK538.out 0).trans rfl, (blk_cell BK538.out 1).trans rfl, (blk_cell BK554.out 0).trans rfl, (blk_cell BK554.out 1).trans rfl, hx556_0, hx557_0, hx558_0, hx559_0, hx560_0, hx561_0⟩ (fun hHeld => ?_); refine with_tabW laws_FnDual.tab15 laws_FnDual.bits15 (fun HT_ HW_ => ?_)
                       generalize w129.drew = w130 at HO_494000 HO_494001 HO_502000 HO_502001 HO_510000 HO_510001 HO514 HO517 HO522 HO526 HO530 HO533 HO536 HO541 HO544 HO549 HO552 BK493 BK501 BK509 BK519 BK538 BK546 BK554 HB hx556_0 hx557_0 hx558_0 hx559_0 hx560_0 hx561_0 hHeld ⊢
                       refine pure_ (i := 0) (N := some 104) (v := ?_) (a' := ?_) #[true, false, false, false, false, false, false, false, false, false, false, false, false, false, false, false, false, false, false, false, false, false, false, false, false, false, false, false, false, false, false, false, false, false, false, false, false, false, false, false, false, false, false, false, false, false, false, false, false, false, false, false, false, false] rfl rfl (any_of HT_.out (by kernel_rfl)) (fun _ _ _ h => h) (Or.inl ⟨by rfl, ?_⟩) ?_ ?_
                       rotate_left
                       ·intro w'
                        go_simp
                        with_reducible rfl
                       rotate_left
                       ·simp only [Act.put, List.setIfInBounds_toArray, List.set_cons_zero, List.set_cons_succ, i64_w, i32_w]
                        rfl
                       refine pure_ (i := 1) (N := some 105) (v := ?_) (a' := ?_) #[true, true, false, false, false, false, false, false, false, false, false, false, false, false, false, false, false, false, false, false, false, false, false, false, false, false, false, false, false, false, false, false, false, false, false, false, false, false, false, false, false, false, false, false, false, false, false, false, false, false, false, false, false, false] rfl rfl (any_of HT_.out (by kernel_rfl)) (fun _ _ _ h => h) (Or.inl ⟨by rfl, ?_⟩) ?_ ?_
                       rotate_left
                       ·intro w'
                        go_simp
                        with_reducible rfl
                       rotate_left
                       ·simp only [Act.put, List.setIfInBounds_toArray, List.set_cons_zero, List.set_cons_succ, i64_w, i32_w]
                        rfl
                       refine pure_ (i := 2) (N := some 106) (v := ?_) (a' := ?_) #[true, true, true, false, false, false, false, false, false, false, false, false, false, false, false, false, false, false, false, false, false, false, false, false, false, false, false, false, false, false, false, false, false, false, false, false, false, false, false, false, false, false, false, false, false, false, false, false, false, false, false, false, false, false] rfl rfl (any_of HT_.out (by kernel_rfl)) (fun _ _ _ h => h) (Or.inl ⟨by rfl, ?_⟩) ?_ ?_
                       rotate_left
                       ·intro w'
                        go_simp
                        with_reducible rfl
                       rotate_left
                       ·simp only [Act.put, List.setIfInBounds_toArray, List.set_cons_zero, List.set_cons_succ, i64_w, i32_w]
                        rfl
                       refine pure_ (i := 3) (N := some 107) (v := ?_) (a' := ?_) #[true, true, true, true, false, false, false, false, false, false, false, false, false, false, false, false, false, false, false, false, false, false, false, false, false, false, false, false, false, false, false, false, false, false, false, false, false, false, false, false, false, false, false, false, false, false, false, false, false, false, false, false, false, false] rfl rfl (any_of HT_.out (by kernel_rfl)) (fun _ _ _ h => h) (Or.inl ⟨by rfl, ?_⟩) ?_ ?_
                       rotate_left
                       ·intro w'
                        go_simp
                        with_reducible rfl
                       rotate_left
                       ·simp only [Act.put, List.setIfInBounds_toArray, List.set_cons_zero, List.set_cons_succ, i64_w, i32_w]
                        rfl
                       refine pure_ (i := 4) (N := some 108) (v := ?_) (a' := ?_) #[true, true, true, true, true, false, false, false, false, false, false, false, false, false, false, false, false, false, false, false, false, false, false, false, false, false, false, false, false, false, false, false, false, false, false, false, false, false, false, false, false, false, false, false, false, false, false, false, false, false, false, false, false, false] rfl rfl (any_of HT_.out (by kernel_rfl)) (fun _ _ _ h => h) (Or.inl ⟨by rfl, ?_⟩) ?_ ?_
                       rotate_left
                       ·intro w'
                        go_simp
                        with_reducible rfl
                       rotate_left
                       ·simp only [Act.put, List.setIfInBounds_toArray, List.set_cons_zero, List.set_cons_succ, i64_w, i32_w]
                        rfl
                       refine pure_ (i := 5) (N := some 109) (v := ?_) (a' := ?_) #[true, true, true, true, true, true, false, false, false, false, false, false, false, false, false, false, false, false, false, false, false, false, false, false, false, false, false, false, false, false, false, false, false, false, false, false, false, false, false, false, false, false, false, false, false, false, false, false, false, false, false, false, false, false] rfl rfl (any_of HT_.out (by kernel_rfl)) (fun _ _ _ h => h) (Or.inl ⟨by rfl, ?_⟩) ?_ ?_
                       rotate_left
                       ·intro w'
                        go_simp
                        with_reducible rfl
                       rotate_left
                       ·simp only [Act.put, List.setIfInBounds_toArray, List.set_cons_zero, List.set_cons_succ, i64_w, i32_w]
                        rfl
                       refine pure_ (i := 6) (N := some 110) (v := ?_) (a' := ?_) #[true, true, true, true, true, true, true, false, false, false, false, false, false, false, false, false, false, false, false, false, false, false, false, false, false, false, false, false, false, false, false, false, false, false, false, false, false, false, false, false, false, false, false, false, false, false, false, false, false, false, false, false, false, false] rfl rfl (any_of HT_.out (by kernel_rfl)) (fun _ _ _ h => h) (Or.inl ⟨by rfl, ?_⟩) ?_ ?_
                       rotate_left
                       ·intro w'
                        go_simp
                        with_reducible rfl
                       rotate_left
                       ·simp only [Act.put, List.setIfInBounds_toArray, List.set_cons_zero, List.set_cons_succ, i64_w, i32_w]
                        rfl
                       refine pure_ (i := 7) (N := some 111) (v := ?_) (a' := ?_) #[true, true, true, true, true, true, true, true, false, false, false, false, false, false, false, false, false, false, false, false, false, false, false, false, false, false, false, false, false, false, false, false, false, false, false, false, false, false, false, false, false, false, false, false, false, false, false, false, false, false, false, false, false, false] rfl rfl (any_of HT_.out (by kernel_rfl)) (fun _ _ _ h => h) (Or.inl ⟨by rfl, ?_⟩) ?_ ?_
                       rotate_left
                       ·intro w'
                        go_simp
                        with_reducible rfl
                       rotate_left
                       ·simp only [Act.put, List.setIfInBounds_toArray, List.set_cons_zero, List.set_cons_succ, i64_w, i32_w]
                        rfl
                       refine pure_ (i := 8) (N := some 112) (v := ?_) (a' := ?_) #[true, true, true, true, true, true, true, true, true, false, false, false, false, false, false, false, false, false, false, false, false, false, false, false, false, false, false, false, false, false, false, false, false, false, false, false, false, false, false, false, false, false, false, false, false, false, false, false, false, false, false, false, false, false] rfl rfl (any_of HT_.out (by kernel_rfl)) (fun _ _ _ h => h) (Or.inl ⟨by rfl, ?_⟩) ?_ ?_
                       rotate_left
                       ·intro w'
                        go_simp
                        with_reducible rfl
                       rotate_left
                       ·simp only [Act.put, List.setIfInBounds_toArray, List.set_cons_zero, List.set_cons_succ, i64_w, i32_w]
                        rfl
                       refine pure_ (i := 9) (N := some 113) (v := ?_) (a' := ?_) #[true, true, true, true, true, true, true, true, true, true, false, false, false, false, false, false, false, false, false, false, false, false, false, false, false, false, false, false, false, false, false, false, false, false, false, false, false, false, false, false, false, false, false, false, false, false, false, false, false, false, false, false, false, false] rfl rfl (any_of HT_.out (by kernel_rfl)) (fun _ _ _ h => h) (Or.inl ⟨by rfl, ?_⟩) ?_ ?_
                       rotate_left
                       ·intro w'
                        go_simp
                        with_reducible rfl
                       rotate_left
                       ·simp only [Act.put, List.setIfInBounds_toArray, List.set_cons_zero, List.set_cons_succ, i64_w, i32_w]
                        rfl
                       refine pure_ (i := 10) (N := some 114) (v := ?_) (a' := ?_) #[true, true, true, true, true, true, true, true, true, true, true, false, false, false, false, false, false, false, false, false, false, false, false, false, false, false, false, false, false, false, false, false, false, false, false, false, false, false, false, false, false, false, false, false, false, false, false, false, false, false, false, false, false, false] rfl rfl (any_of HT_.out (by kernel_rfl)) (fun _ _ _ h => h) (Or.inl ⟨by rfl, ?_⟩) ?_ ?_
                       rotate_left
                       ·intro w'
                        go_simp
                        with_reducible rfl
                       rotate_left
                       ·simp only [Act.put, List.setIfInBounds_toArray, List.set_cons_zero, List.set_cons_succ, i64_w, i32_w]
                        rfl
                       refine pure_ (i := 11) (N := some 115) (v := ?_) (a' := ?_) #[true, true, true, true, true, true, true, true, true, true, true, true, false, false, false, false, false, false, false, false, false, false, false, false, false, false, false, false, false, false, false, false, false, false, false, false, false, false, false, false, false, false, false, false, false, false, false, false, false, false, false, false, false, false] rfl rfl (any_of HT_.out (by kernel_rfl)) (fun _ _ _ h => h) (Or.inl ⟨by rfl, ?_⟩) ?_ ?_
                       rotate_left
                       ·intro w'
                        go_simp
                        with_reducible rfl
                       rotate_left
                       ·simp only [Act.put, List.setIfInBounds_toArray, List.set_cons_zero, List.set_cons_succ, i64_w, i32_w]
                        rfl
                       refine pure_ (i := 12) (N := some 116) (v := ?_) (a' := ?_) #[true, true, true, true, true, true, true, true, true, true, true, true, true, false, false, false, false, false, false, false, false, false, false, false, false, false, false, false, false, false, false, false, false, false, false, false, false, false, false, false, false, false, false, false, false, false, false, false, false, false, false, false, false, false] rfl rfl (any_of HT_.out (by kernel_rfl)) (fun _ _ _ h => h) (Or.inl ⟨by rfl, ?_⟩) ?_ ?_
                       rotate_left
                       ·intro w'
                        go_simp
                        with_reducible rfl
                       rotate_left
                       ·simp only [Act.put, List.setIfInBounds_toArray, List.set_cons_zero, List.set_cons_succ, i64_w, i32_w]
                        rfl
                       refine pure_ (i := 13) (N := some 117) (v := ?_) (a' := ?_) #[true, true, true, true, true, true, true, true, true, true, true, true, true, true, false, false, false, false, false, false, false, false, false, false, false, false, false, false, false, false, false, false, false, false, false, false, false, false, false, false, false, false, false, false, false, false, false, false, false, false, false, false, false, false] rfl rfl (any_of HT_.out (by kernel_rfl)) (fun _ _ _ h => h) (Or.inl ⟨by rfl, ?_⟩) ?_ ?_
                       rotate_left
                       ·intro w'
                        go_simp
                        with_reducible rfl
                       rotate_left
                       ·simp only [Act.put, List.setIfInBounds_toArray, List.set_cons_zero, List.set_cons_succ, i64_w, i32_w]
                        rfl
                       refine pure_ (i := 14) (N := some 118) (v := ?_) (a' := ?_) #[true, true, true, true, true, true, true, true, true, true, true, true, true, true, true, false, false, false, false, false, false, false, false, false, false, false, false, false, false, false, false, false, false, false, false, false, false, false, false, false, false, false, false, false, false, false, false, false, false, false, false, false, false, false] rfl rfl (any_of HT_.out (by kernel_rfl)) (fun _ _ _ h => h) (Or.inl ⟨by rfl, ?_⟩) ?_ ?_
                       rotate_left
                       ·intro w'
                        go_simp
                        with_reducible rfl
                       rotate_left
                       ·simp only [Act.put, List.setIfInBounds_toArray, List.set_cons_zero, List.set_cons_succ, i64_w, i32_w]
                        rfl
                       refine pure_ (i := 15) (N := some 119) (v := ?_) (a' := ?_) #[true, true, true, true, true, true, true, true, true, true, true, true, true, true, true, true, false, false, false, false, false, false, false, false, false, false, false, false, false, false, false, false, false, false, false, false, false, false, false, false, false, false, false, false, false, false, false, false, false, false, false, false, false, false] rfl rfl (any_of HT_.out (by kernel_rfl)) (fun _ _ _ h => h) (Or.inl ⟨by rfl, ?_⟩) ?_ ?_
                       rotate_left
                       ·intro w'
                        go_simp
                        with_reducible rfl
                       rotate_left
                       ·simp only [Act.put, List.setIfInBounds_toArray, List.set_cons_zero, List.set_cons_succ, i64_w, i32_w]
                        rfl
                       refine pure_ (i := 16) (N := some 120) (v := ?_) (a' := ?_) #[true, true, true, true, true, true, true, true, true, true, true, true, true, true, true, true, true, false, false, false, false, false, false, false, false, false, false, false, false, false, false, false, false, false, false, false, false, false, false, false, false, false, false, false, false, false, false, false, false, false, false, false, false, false] rfl rfl (any_of HT_.out (by kernel_rfl)) (fun _ _ _ h => h) (Or.inl ⟨by rfl, ?_⟩) ?_ ?_
                       rotate_left
                       ·intro w'
                        go_simp
                        with_reducible rfl
                       rotate_left
                       ·simp only [Act.put, List.setIfInBounds_toArray, List.set_cons_zero, List.set_cons_succ, i64_w, i32_w]
                        rfl
                       refine take_ (i := 17) (N := some 121) (v := ?_) (a' := ?_) #[true, true, true, true, true, true, true, true, true, true, true, true, true, true, true, true, true, true, false, false, false, false, false, false, false, false, false, false, false, false, false, false, false, false, false, false, false, false, false, false, false, false, false, false, false, false, false, false, false, false, false, false, false, false] rfl rfl (take_ofW HT_.out HW_.out (by kernel_rfl)) (fun _ _ _ h => h) (Or.inl ⟨by rfl, ?_⟩) hHeld ?_ ?_
                       rotate_left
                       ·rintro w' ⟨s0, s1, s2, s3, s4, s5, s6, s7, s8, s9, s10, s11, s12, s13⟩
                        go_simp
                        with_reducible rfl
                       rotate_left
                       ·simp only [Act.put, List.setIfInBounds_toArray, List.set_cons_zero, List.set_cons_succ, i64_w, i32_w]
                        rfl
                       refine take_ (i := 18) (N := some 122) (v := ?_) (a' := ?_) #[true, true, true, true, true, true, true, true, true, true, true, true, true, true, true, true, true, true, true, false, false, false, false, false, false, false, false, false, false, false, false, false, false, false, false, false, false, false, false, false, false, false, false, false, false, false, false, false, false, false, false, false, false, false] rfl rfl (take_ofW HT_.out HW_.out (by kernel_rfl)) (fun _ _ _ h => h) (Or.inl ⟨by rfl, ?_⟩) hHeld ?_ ?_
                       rotate_left
                       ·rintro w' ⟨s0, s1, s2, s3, s4, s5, s6, s7, s8, s9, s10, s11, s12, s13⟩
                        go_simp
                        with_reducible rfl
                       rotate_left
                       ·simp only [Act.put, List.setIfInBounds_toArray, List.set_cons_zero, List.set_cons_succ, i64_w, i32_w]
                        rfl
                       refine one_ (i := 19) (N := some 123) #[true, true, true, true, true, true, true, true, true, true, true, true, true, true, true, true, true, true, true, true, false, false, false, false, false, false, false, false, false, false, false, false, false, false, false, false, false, false, false, false, false, false, false, false, false, false, false, false, false, false, false, false, false, false] rfl rfl (one_of HT_.out (by kernel_rfl)) (by decide) (fun K hK => ?_)
                       refine goes_ Try.func22 (by kernel_rfl) rfl #[.agg #[.slice Ao83 t512.length co83, .slice Ao88 t515.length co88], .agg #[.slice Ao12 t487.length co12, .slice Ao14 t490.length co14]] (by rfl) rfl rfl (by (try simp only [List.map_toArray, List.map_cons, List.map_nil]); first | done | rfl | (simp only [List.length_drop, List.length_take]; rfl)) ?_
                       with_reducible refine (laws_sameMap.calls kj8 _ _ t512 _ _ t515 _ _ t487 _ _ t490 true _ ?side1 ?side2 ?side3 ?side4 ?side5 ?side6 ?side7 ?side8 A66.out).mono ?_
                       (case side1 => exact cP (Kd.R_reads' HO514.out).2.2)
                       (case side2 => exact (Kd.R_reads' HO514.out).2.1)
                       (case side3 => exact cP (Kd.R_reads' HO517.out).2.2)
                       (case side4 => exact (Kd.R_reads' HO517.out).2.1)
                       (case side5 => exact cP (Kd.Q_reads' HO_494000.out).2.2)
                       (case side6 => exact (Kd.Q_reads' HO_494000.out).2.1)
                       (case side7 => exact cP (Kd.R_reads' HO_494001.out).2.2)
                       (case side8 => exact (Kd.R_reads' HO_494001.out).2.1)
                       rintro e w131 ⟨rfl, hb⟩
                       have HS8_ := (hb.cell (World.block_lt_of_cell? _ _ (hHeld.2.2.2.2.2.2.2.2.1))).trans (hHeld.2.2.2.2.2.2.2.2.1)
                       have HS9_ := (hb.cell (World.block_lt_of_cell? _ _ (hHeld.2.2.2.2.2.2.2.2.2.1))).trans (hHeld.2.2.2.2.2.2.2.2.2.1)
                       have HS10_ := (hb.cell (World.block_lt_of_cell? _ _ (hHeld.2.2.2.2.2.2.2.2.2.2.1))).trans (hHeld.2.2.2.2.2.2.2.2.2.2.1)
                       have HS11_ := (hb.cell (World.block_lt_of_cell? _ _ (hHeld.2.2.2.2.2.2.2.2.2.2.2.1))).trans (hHeld.2.2.2.2.2.2.2.2.2.2.2.1)
                       have HS12_ := (hb.cell (World.block_lt_of_cell? _ _ (hHeld.2.2.2.2.2.2.2.2.2.2.2.2.1))).trans (hHeld.2.2.2.2.2.2.2.2.2.2.2.2.1)
                       have HS13_ := (hb.cell (World.block_lt_of_cell? _ _ (hHeld.2.2.2.2.2.2.2.2.2.2.2.2.2))).trans (hHeld.2.2.2.2.2.2.2.2.2.2.2.2.2)
                       refine ⟨_, rfl, ?_⟩
                       have n0_ := Aside0.mk (Kd.Q_below (by (with_reducible repeat (first | apply Kd.Q_alloc | apply Kd.Q_drewN | apply Kd.Q_drew)); exact HO_494000.out) hb)
                       have n1_ := rB HO_494001 hb
                       have n2_ := Aside0.mk (Kd.Q_below (by (with_reducible repeat (first | apply Kd.Q_alloc | apply Kd.Q_drewN | apply Kd.Q_drew)); exact HO_502000.out) hb)
                       have n3_ := rB HO_502001 hb
                       have n4_ := Aside0.mk (Kd.Q_below (by (with_reducible repeat (first | apply Kd.Q_alloc | apply Kd.Q_drewN | apply Kd.Q_drew)); exact HO_510000.out) hb)
                       have n5_ := rB HO_510001 hb
                       have n6_ := rB HO514 hb
                       have n7_ := rB HO517 hb
                       have n8_ := rB HO522 hb
                       have n9_ := rB HO526 hb
                       have n10_ := rB HO530 hb
                       have n11_ := rB HO533 hb
                       have n12_ := rB HO536 hb
                       have n13_ := rB HO541 hb
                       have n14_ := rB HO544 hb
                       have n15_ := rB HO549 hb
                       have n16_ := rB HO552 hb
                       have n17_ := kB BK493 hb
                       have n18_ := kB BK501 hb
                       have n19_ := kB BK509 hb
                       have n20_ := kB BK519 hb
                       have n21_ := kB BK538 hb
                       have n22_ := kB BK546 hb
                       have n23_ := kB BK554 hb
                       have n24_ := bS HB hb
                       clear HO_494000
                       clear HO_494001
                       clear HO_502000
                       clear HO_502001
                       clear HO_510000
                       clear HO_510001
                       clear HO514
                       clear HO517
                       clear HO522
                       clear HO526
                       clear HO530
                       clear HO533
                       clear HO536
                       clear HO541
                       clear HO544
                       clear HO549
                       clear HO552
                       clear BK493
                       clear BK501
                       clear BK509
                       clear BK519
                       clear BK538
                       clear BK546
                       clear BK554
                       clear HB
                       have HO_494000 := n0_
                       have HO_494001 := n1_
                       have HO_502000 := n2_
                       have HO_502001 := n3_
                       have HO_510000 := n4_
                       have HO_510001 := n5_
                       have HO514 := n6_
                       have HO517 := n7_
                       have HO522 := n8_
                       have HO526 := n9_
                       have HO530 := n10_
                       have HO533 := n11_
                       have HO536 := n12_
                       have HO541 := n13_
                       have HO544 := n14_
                       have HO549 := n15_
                       have HO552 := n16_
                       have BK493 := n17_
                       have BK501 := n18_
                       have BK509 := n19_
                       have BK519 := n20_
                       have BK538 := n21_
                       have BK546 := n22_
                       have BK554 := n23_
                       have HB := n24_
                       clear n0_ n1_ n2_ n3_ n4_ n5_ n6_ n7_ n8_ n9_ n10_ n11_ n12_ n13_ n14_ n15_ n16_ n17_ n18_ n19_ n20_ n21_ n22_ n23_ n24_
                       (try clear hb)
                       (try clear hb2)
                       (try clear hk)
                       (try clear hi)
                       obtain ⟨Ao132, co132, eo132⟩ := Kd.R_slice HO522.out
                       (first | subst eo132 | (injection eo132 with f1_ f2_ f3_; have f4_ := f1_.symm; have f5_ := f3_.symm; clear f1_ f2_ f3_; subst f4_; subst f5_))
                       obtain ⟨Ao133, co133, eo133⟩ := Kd.R_slice HO526.out
                       (first | subst eo133 | (injection eo133 with f1_ f2_ f3_; have f4_ := f1_.symm; have f5_ := f3_.symm; clear f1_ f2_ f3_; subst f4_; subst f5_))
                       refine hK.out _ _ ⟨(blk_cell BK519.out 0).trans rfl, (blk_cell BK519.out 1).trans rfl, (blk_cell BK493.out 0).trans rfl, (blk_cell BK493.out 1).trans rfl, (blk_cell BK538.out 0).trans rfl, (blk_cell BK538.out 1).trans rfl, (blk_cell BK554.out 0).trans rfl, (blk_cell BK554.out 1).trans rfl, HS8_, HS9_, HS10_, HS11_, HS12_, HS13_⟩ (fun hHeld => ?_)
                       clear hK K
                       refine norm_ (a' := ?_) ?_ ?_
                       rotate_left
                       ·show Act.put _ (some 123) _ = _
                        simp only [Act.put, List.setIfInBounds_toArray, List.set_cons_zero, List.set_cons_succ, i64_w, i32_w]
                        rfl
                       refine pure_ (i := 20) (N := some 124) (v := ?_) (a' := ?_) #[true, true, true, true, true, true, true, true, true, true, true, true, true, true, true, true, true, true, true, true, true, false, false, false, false, false, false, false, false, false, false, false, false, false, false, false, false, false, false, false, false, false, false, false, false, false, false, false, false, false, false, false, false, false] rfl rfl (any_of HT_.out (by kernel_rfl)) (fun _ _ _ h => h) (Or.inl ⟨by rfl, ?_⟩) ?_ ?_
                       rotate_left
                       ·intro w'
                        go_simp
                        with_reducible rfl
                       rotate_left
                       ·simp only [Act.put, List.setIfInBounds_toArray, List.set_cons_zero, List.set_cons_succ, i64_w, i32_w]
                        rfl
                       refine pure_ (i := 21) (N := some 125) (v := ?_) (a' := ?_) #[true, true, true, true, true, true, true, true, true, true, true, true, true, true, true, true, true, true, true, true, true, true, false, false, false, false, false, false, false, false, false, false, false, false, false, false, false, false, false, false, false, false, false, false, false, false, false, false, false, false, false, false, false, false] rfl rfl (any_of HT_.out (by kernel_rfl)) (fun _ _ _ h => h) (Or.inl ⟨by rfl, ?_⟩) ?_ ?_
                       rotate_left
                       ·intro w'
                        go_simp
                        with_reducible rfl
                       rotate_left
                       ·simp only [Act.put, List.setIfInBounds_toArray, List.set_cons_zero, List.set_cons_succ, i64_w, i32_w]
                        rfl
                       refine pure_ (i := 22) (N := some 126) (v := ?_) (a' := ?_) #[true, true, true, true, true, true, true, true, true, true, true, true, true, true, true, true, true, true, true, true, true, true, true, false, false, false, false, false, false, false, false, false, false, false, false, false, false, false, false, false, false, false, false, false, false, false, false, false, false, false, false, false, false, false] rfl rfl (any_of HT_.out (by kernel_rfl)) (fun _ _ _ h => h) (Or.inl ⟨by rfl, ?_⟩) ?_ ?_
                       rotate_left
                       ·intro w'
                        go_simp
                        with_reducible rfl
                       rotate_left
                       ·simp only [Act.put, List.setIfInBounds_toArray, List.set_cons_zero, List.set_cons_succ, i64_w, i32_w]
                        rfl
                       refine pure_ (i := 23) (N := some 127) (v := ?_) (a' := ?_) #[true, true, true, true, true, true, true, true, true, true, true, true, true, true, true, true, true, true, true, true, true, true, true, true, false, false, false, false, false, false, false, false, false, false, false, false, false, false, false, false, false, false, false, false, false, false, false, false, false, false, false, false, false, false] rfl rfl (any_of HT_.out (by kernel_rfl)) (fun _ _ _ h => h) (Or.inl ⟨by rfl, ?_⟩) ?_ ?_
                       rotate_left
                       ·intro w'
                        go_simp
                        with_reducible rfl
                       rotate_left
                       ·simp only [Act.put, List.setIfInBounds_toArray, List.set_cons_zero, List.set_cons_succ, i64_w, i32_w]
                        rfl
                       refine pure_ (i := 25) (N := some 129) (v := ?_) (a' := ?_) #[true, true, true, true, true, true, true, true, true, true, true, true, true, true, true, true, true, true, true, true, true, true, true, true, false, true, false, false, false, false, false, false, false, false, false, false, false, false, false, false, false, false, false, false, false, false, false, false, false, false, false, false, false, false] rfl rfl (any_of HT_.out (by kernel_rfl)) (fun _ _ _ h => h) (Or.inl ⟨by rfl, ?_⟩) ?_ ?_
                       rotate_left
                       ·intro w'
                        go_simp
                        with_reducible rfl
                       rotate_left
                       ·simp only [Act.put, List.setIfInBounds_toArray, List.set_cons_zero, List.set_cons_succ, i64_w, i32_w]
                        rfl
                       refine pure_ (i := 26) (N := some 130) (v := ?_) (a' := ?_) #[true, true, true, true, true, true, true, true, true, true, true, true, true, true, true, true, true, true, true, true, true, true, true, true, false, true, true, false, false, false, false, false, false, false, false, false, false, false, false, false, false, false, false, false, false, false, false, false, false, false, false, false, false, false] rfl rfl (any_of HT_.out (by kernel_rfl)) (fun _ _ _ h => h) (Or.inl ⟨by rfl, ?_⟩) ?_ ?_
                       rotate_left
                       ·intro w'
                        go_simp
                        with_reducible rfl
                       rotate_left
                       ·simp only [Act.put, List.setIfInBounds_toArray, List.set_cons_zero, List.set_cons_succ, i64_w, i32_w]
                        rfl
                       refine take_ (i := 24) (N := some 128) (v := ?_) (a' := ?_) #[true, true, true, true, true, true, true, true, true, true, true, true, true, true, true, true, true, true, true, true, true, true, true, true, true, true, true, false, false, false, false, false, false, false, false, false, false, false, false, false, false, false, false, false, false, false, false, false, false, false, false, false, false, false] rfl rfl (take_ofW HT_.out HW_.out (by kernel_rfl)) (fun _ _ _ h => h) (Or.inl ⟨by rfl, ?_⟩) hHeld ?_ ?_
                       rotate_left
                       ·rintro w' ⟨s0, s1, s2, s3, s4, s5, s6, s7, s8, s9, s10, s11, s12, s13⟩
                        go_simp
                        with_reducible rfl
                       rotate_left
                       ·simp only [Act.put, List.setIfInBounds_toArray, List.set_cons_zero, List.set_cons_succ, i64_w, i32_w]
                        rfl
                       refine take_ (i := 27) (N := some 131) (v := ?_) (a' := ?_) #[true, true, true, true, true, true, true, true, true, true, true, true, true, true, true, true, true, true, true, true, true, true, true, true, true, true, true, true, false, false, false, false, false, false, false, false, false, false, false, false, false, false, false, false, false, false, false, false, false, false, false, false, false, false] rfl rfl (take_ofW HT_.out HW_.out (by kernel_rfl)) (fun _ _ _ h => h) (Or.inl ⟨by rfl, ?_⟩) hHeld ?_ ?_
                       rotate_left
                       ·rintro w' ⟨s0, s1, s2, s3, s4, s5, s6, s7, s8, s9, s10, s11, s12, s13⟩
                        go_simp
                        with_reducible rfl
                       rotate_left
                       ·simp only [Act.put, List.setIfInBounds_toArray, List.set_cons_zero, List.set_cons_succ, i64_w, i32_w]
                        rfl
                       refine pure_ (i := 28) (N := some 132) (v := ?_) (a' := ?_) #[true, true, true, true, true, true, true, true, true, true, true, true, true, true, true, true, true, true, true, true, true, true, true, true, true, true, true, true, true, false, false, false, false, false, false, false, false, false, false, false, false, false, false, false, false, false, false, false, false, false, false, false, false, false] rfl rfl (any_of HT_.out (by kernel_rfl)) (fun _ _ _ h => h) (Or.inl ⟨by rfl, ?_⟩) ?_ ?_
                       rotate_left
                       ·intro w'
                        go_simp
                        with_reducible rfl
                       rotate_left
                       ·simp only [Act.put, List.setIfInBounds_toArray, List.set_cons_zero, List.set_cons_succ, i64_w, i32_w]
                        rfl
                       refine pure_ (i := 29) (N := some 133) (v := ?_) (a' := ?_) #[true, true, true, true, true, true, true, true, true, true, true, true, true, true, true, true, true, true, true, true, true, true, true, true, true, true, true, true, true, true, false, false, false, false, false, false, false, false, false, false, false, false, false, false, false, false, false, false, false, false, false, false, false, false] rfl rfl (any_of HT_.out (by kernel_rfl)) (fun _ _ _ h => h) (Or.inl ⟨by rfl, ?_⟩) ?_ ?_
                       rotate_left
                       ·intro w'
                        go_simp
                        with_reducible rfl
                       rotate_left
                       ·simp only [Act.put, List.setIfInBounds_toArray, List.set_cons_zero, List.set_cons_succ, i64_w, i32_w]
                        rfl
                       refine pure_ (i := 30) (N := some 134) (v := ?_) (a' := ?_) #[true, true, true, true, true, true, true, true, true, true, true, true, true, true, true, true, true, true, true, true, true, true, true, true, true, true, true, true, true, true, true, false, false, false, false, false, false, false, false, false, false, false, false, false, false, false, false, false, false, false, false, false, false, false] rfl rfl (any_of HT_.out (by kernel_rfl)) (fun _ _ _ h => h) (Or.inl ⟨by rfl, ?_⟩) ?_ ?_
                       rotate_left
                       ·intro w'
                        go_simp
                        with_reducible rfl
                       rotate_left
                       ·simp only [Act.put, List.setIfInBounds_toArray, List.set_cons_zero, List.set_cons_succ, i64_w, i32_w]
                        rfl
                       refine pure_ (i := 31) (N := some 135) (v := ?_) (a' := ?_) #[true, true, true, true, true, true, true, true, true, true, true, true, true, true, true, true, true, true, true, true, true, true, true, true, true, true, true, true, true, true, true, true, false, false, false, false, false, false, false, false, false, false, false, false, false, false, false, false, false, false, false, false, false, false] rfl rfl (any_of HT_.out (by kernel_rfl)) (fun _ _ _ h => h) (Or.inl ⟨by rfl, ?_⟩) ?_ ?_
                       rotate_left
                       ·intro w'
                        go_simp
                        with_reducible rfl
                       rotate_left
                       ·simp only [Act.put, List.setIfInBounds_toArray, List.set_cons_zero, List.set_cons_succ, i64_w, i32_w]
                        rfl
                       refine pure_ (i := 32) (N := some 136) (v := ?_) (a' := ?_) #[true, true, true, true, true, true, true, true, true, true, true, true, true, true, true, true, true, true, true, true, true, true, true, true, true, true, true, true, true, true, true, true, true, false, false, false, false, false, false, false, false, false, false, false, false, false, false, false, false, false, false, false, false, false] rfl rfl (any_of HT_.out (by kernel_rfl)) (fun _ _ _ h => h) (Or.inl ⟨by rfl, ?_⟩) ?_ ?_
                       rotate_left
                       ·intro w'
                        go_simp
                        with_reducible rfl
                       rotate_left
                       ·simp only [Act.put, List.setIfInBounds_toArray, List.set_cons_zero, List.set_cons_succ, i64_w, i32_w]
                        rfl
                       refine pure_ (i := 34) (N := some 138) (v := ?_) (a' := ?_) #[true, true, true, true, true, true, true, true, true, true, true, true, true, true, true, true, true, true, true, true, true, true, true, true, true, true, true, true, true, true, true, true, true, false, true, false, false, false, false, false, false, false, false, false, false, false, false, false, false, false, false, false, false, false] rfl rfl (any_of HT_.out (by kernel_rfl)) (fun _ _ _ h => h) (Or.inl ⟨by rfl, ?_⟩) ?_ ?_
                       rotate_left
                       ·intro w'
                        go_simp
                        with_reducible rfl
                       rotate_left
                       ·simp only [Act.put, List.setIfInBounds_toArray, List.set_cons_zero, List.set_cons_succ, i64_w, i32_w]
                        rfl
                       refine pure_ (i := 35) (N := some 139) (v := ?_) (a' := ?_) #[true, true, true, true, true, true, true, true, true, true, true, true, true, true, true, true, true, true, true, true, true, true, true, true, true, true, true, true, true, true, true, true, true, false, true, true, false, false, false, false, false, false, false, false, false, false, false, false, false, false, false, false, false, false] rfl rfl (any_of HT_.out (by kernel_rfl)) (fun _ _ _ h => h) (Or.inl ⟨by rfl, ?_⟩) ?_ ?_
                       rotate_left
                       ·intro w'
                        go_simp
                        with_reducible rfl
                       rotate_left
                       ·simp only [Act.put, List.setIfInBounds_toArray, List.set_cons_zero, List.set_cons_succ, i64_w, i32_w]
                        rfl
                       refine take_ (i := 33) (N := some 137) (v := ?_) (a' := ?_) #[true, true, true, true, true, true, true, true, true, true, true, true, true, true, true, true, true, true, true, true, true, true, true, true, true, true, true, true, true, true, true, true, true, true, true, true, false, false, false, false, false, false, false, false, false, false, false, false, false, false, false, false, false, false] rfl rfl (take_ofW HT_.out HW_.out (by kernel_rfl)) (fun _ _ _ h => h) (Or.inl ⟨by rfl, ?_⟩) hHeld ?_ ?_
                       rotate_left
                       ·rintro w' ⟨s0, s1, s2, s3, s4, s5, s6, s7, s8, s9, s10, s11, s12, s13⟩
                        go_simp
                        with_reducible rfl
                       rotate_left
                       ·simp only [Act.put, List.setIfInBounds_toArray, List.set_cons_zero, List.set_cons_succ, i64_w, i32_w]
                        rfl
                       refine take_ (i := 36) (N := some 140) (v := ?_) (a' := ?_) #[true, true, true, true, true, true, true, true, true, true, true, true, true, true, true, true, true, true, true, true, true, true, true, true, true, true, true, true, true, true, true, true, true, true, true, true, true, false, false, false, false, false, false, false, false, false, false, false, false, false, false, false, false, false] rfl rfl (take_ofW HT_.out HW_.out (by kernel_rfl)) (fun _ _ _ h => h) (Or.inl ⟨by rfl, ?_⟩) hHeld ?_ ?_
                       rotate_left
                       ·rintro w' ⟨s0, s1, s2, s3, s4, s5, s6, s7, s8, s9, s10, s11, s12, s13⟩
                        go_simp
                        with_reducible rfl
                       rotate_left
                       ·simp only [Act.put, List.setIfInBounds_toArray, List.set_cons_zero, List.set_cons_succ, i64_w, i32_w]
                        rfl
                       refine pure_ (i := 37) (N := some 141) (v := ?_) (a' := ?_) #[true, true, true, true, true, true, true, true, true, true, true, true, true, true, true, true, true, true, true, true, true, true, true, true, true, true, true, true, true, true, true, true, true, true, true, true, true, true, false, false, false, false, false, false, false, false, false, false, false, false, false, false, false, false] rfl rfl (any_of HT_.out (by kernel_rfl)) (fun _ _ _ h => h) (Or.inl ⟨by rfl, ?_⟩) ?_ ?_
                       rotate_left
                       ·intro w'
                        go_simp
                        with_reducible rfl
                       rotate_left
                       ·simp only [Act.put, List.setIfInBounds_toArray, List.set_cons_zero, List.set_cons_succ, i64_w, i32_w]
                        rfl
                       refine pure_ (i := 38) (N := some 142) (v := ?_) (a' := ?_) #[true, true, true, true, true, true, true, true, true, true, true, true, true, true, true, true, true, true, true, true, true, true, true, true, true, true, true, true, true, true, true, true, true, true, true, true, true, true, true, false, false, false, false, false, false, false, false, false, false, false, false, false, false, false] rfl rfl (any_of HT_.out (by kernel_rfl)) (fun _ _ _ h => h) (Or.inl ⟨by rfl, ?_⟩) ?_ ?_
                       rotate_left
                       ·intro w'
                        go_simp
                        with_reducible rfl
                       rotate_left
                       ·simp only [Act.put, List.setIfInBounds_toArray, List.set_cons_zero, List.set_cons_succ, i64_w, i32_w]
                        rfl
                       refine pure_ (i := 39) (N := some 143) (v := ?_) (a' := ?_) #[true, true, true, true, true, true, true, true, true, true, true, true, true, true, true, true, true, true, true, true, true, true, true, true, true, true, true, true, true, true, true, true, true, true, true, true, true, true, true, true, false, false, false, false, false, false, false, false, false, false, false, false, false, false] rfl rfl (any_of HT_.out (by kernel_rfl)) (fun _ _ _ h => h) (Or.inl ⟨by rfl, ?_⟩) ?_ ?_
                       rotate_left
                       ·intro w'
                        go_simp
                        with_reducible rfl
                       rotate_left
                       ·simp only [Act.put, List.setIfInBounds_toArray, List.set_cons_zero, List.set_cons_succ, i64_w, i32_w]
                        rfl
                       refine pure_ (i := 40) (N := some 144) (v := ?_) (a' := ?_) #[true, true, true, true, true, true, true, true, true, true, true, true, true, true, true, true, true, true, true, true, true, true, true, true, true, true, true, true, true, true, true, true, true, true, true, true, true, true, true, true, true, false, false, false, false, false, false, false, false, false, false, false, false, false] rfl rfl (any_of HT_.out (by kernel_rfl)) (fun _ _ _ h => h) (Or.inl ⟨by rfl, ?_⟩) ?_ ?_
                       rotate_left
                       ·intro w'
                        go_simp
                        with_reducible rfl
                       rotate_left
                       ·simp only [Act.put, List.setIfInBounds_toArray, List.set_cons_zero, List.set_cons_succ, i64_w, i32_w]
                        rfl
                       refine pure_ (i := 41) (N := some 145) (v := ?_) (a' := ?_) #[true, true, true, true, true, true, true, true, true, true, true, true, true, true, true, true, true, true, true, true, true, true, true, true, true, true, true, true, true, true, true, true, true, true, true, true, true, true, true, true, true, true, false, false, false, false, false, false, false, false, false, false, false, false] rfl rfl (any_of HT_.out (by kernel_rfl)) (fun _ _ _ h => h) (Or.inl ⟨by rfl, ?_⟩) ?_ ?_
                       rotate_left
                       ·intro w'
                        go_simp
                        with_reducible rfl
                       rotate_left
                       ·simp only [Act.put, List.setIfInBounds_toArray, List.set_cons_zero, List.set_cons_succ, i64_w, i32_w]
                        rfl
                       refine pure_ (i := 43) (N := some 147) (v := ?_) (a' := ?_) #[true, true, true, true, true, true, true, true, true, true, true, true, true, true, true, true, true, true, true, true, true, true, true, true, true, true, true, true, true, true, true, true, true, true, true, true, true, true, true, true, true, true, false, true, false, false, false, false, false, false, false, false, false, false] rfl rfl (any_of HT_.out (by kernel_rfl)) (fun _ _ _ h => h) (Or.inl ⟨by rfl, ?_⟩) ?_ ?_
                       rotate_left
                       ·intro w'
                        go_simp
                        with_reducible rfl
                       rotate_left
                       ·simp only [Act.put, List.setIfInBounds_toArray, List.set_cons_zero, List.set_cons_succ, i64_w, i32_w]
                        rfl
                       refine pure_ (i := 44) (N := some 148) (v := ?_) (a' := ?_) #[true, true, true, true, true, true, true, true, true, true, true, true, true, true, true, true, true, true, true, true, true, true, true, true, true, true, true, true, true, true, true, true, true, true, true, true, true, true, true, true, true, true, false, true, true, false, false, false, false, false, false, false, false, false] rfl rfl (any_of HT_.out (by kernel_rfl)) (fun _ _ _ h => h) (Or.inl ⟨by rfl, ?_⟩) ?_ ?_
                       rotate_left
                       ·intro w'
                        go_simp
                        with_reducible rfl
                       rotate_left
                       ·simp only [Act.put, List.setIfInBounds_toArray, List.set_cons_zero, List.set_cons_succ, i64_w, i32_w]
                        rfl
                       refine take_ (i := 42) (N := some 146) (v := ?_) (a' := ?_) #[true, true, true, true, true, true, true, true, true, true, true, true, true, true, true, true, true, true, true, true, true, true, true, true, true, true, true, true, true, true, true, true, true, true, true, true, true, true, true, true, true, true, true, true, true, false, false, false, false, false, false, false, false, false] rfl rfl (take_ofW HT_.out HW_.out (by kernel_rfl)) (fun _ _ _ h => h) (Or.inl ⟨by rfl, ?_⟩) hHeld ?_ ?_
                       rotate_left
                       ·rintro w' ⟨s0, s1, s2, s3, s4, s5, s6, s7, s8, s9, s10, s11, s12, s13⟩
                        go_simp
                        with_reducible rfl
                       rotate_left
                       ·simp only [Act.put, List.setIfInBounds_toArray, List.set_cons_zero, List.set_cons_succ, i64_w, i32_w]
                        rfl
                       refine take_ (i := 45) (N := some 149) (v := ?_) (a' := ?_) #[true, true, true, true, true, true, true, true, true, true, true, true, true, true, true, true, true, true, true, true, true, true, true, true, true, true, true, true, true, true, true, true, true, true, true, true, true, true, true, true, true, true, true, true, true, true, false, false, false, false, false, false, false, false] rfl rfl (take_ofW HT_.out HW_.out (by kernel_rfl)) (fun _ _ _ h => h) (Or.inl ⟨by rfl, ?_⟩) hHeld ?_ ?_
                       rotate_left
                       ·rintro w' ⟨s0, s1, s2, s3, s4, s5, s6, s7, s8, s9, s10, s11, s12, s13⟩
                        go_simp
                        with_reducible rfl
                       rotate_left
                       ·simp only [Act.put, List.setIfInBounds_toArray, List.set_cons_zero, List.set_cons_succ, i64_w, i32_w]
                        rfl
                       refine pure_ (i := 46) (N := some 150) (v := ?_) (a' := ?_) #[true, true, true, true, true, true, true, true, true, true, true, true, true, true, true, true, true, true, true, true, true, true, true, true, true, true, true, true, true, true, true, true, true, true, true, true, true, true, true, true, true, true, true, true, true, true, true, false, false, false, false, false, false, false] rfl rfl (any_of HT_.out (by kernel_rfl)) (fun _ _ _ h => h) (Or.inl ⟨by rfl, ?_⟩) ?_ ?_
                       rotate_left
                       ·intro w'
                        go_simp
                        with_reducible rfl
                       rotate_left
                       ·simp only [Act.put, List.setIfInBounds_toArray, List.set_cons_zero, List.set_cons_succ, i64_w, i32_w]
                        rfl
                       refine pure_ (i := 47) (N := some 151) (v := ?_) (a' := ?_) #[true, true, true, true, true, true, true, true, true, true, true, true, true, true, true, true, true, true, true, true, true, true, true, true, true, true, true, true, true, true, true, true, true, true, true, true, true, true, true, true, true, true, true, true, true, true, true, true, false, false, false, false, false, false] rfl rfl (any_of HT_.out (by kernel_rfl)) (fun _ _ _ h => h) (Or.inl ⟨by rfl, ?_⟩) ?_ ?_
                       rotate_left
                       ·intro w'
                        go_simp
                        with_reducible rfl
                       rotate_left
                       ·simp only [Act.put, List.setIfInBounds_toArray, List.set_cons_zero, List.set_cons_succ, i64_w, i32_w]
                        rfl
                       refine pure_ (i := 48) (N := some 152) (v := ?_) (a' := ?_) #[true, true, true, true, true, true, true, true, true, true, true, true, true, true, true, true, true, true, true, true, true, true, true, true, true, true, true, true, true, true, true, true, true, true, true, true, true, true, true, true, true, true, true, true, true, true, true, true, true, false, false, false, false, false] rfl rfl (any_of HT_.out (by kernel_rfl)) (fun _ _ _ h => h) (Or.inl ⟨by rfl, ?_⟩) ?_ ?_
                       rotate_left
                       ·intro w'
                        go_simp
                        with_reducible rfl
                       rotate_left
                       ·simp only [Act.put, List.setIfInBounds_toArray, List.set_cons_zero, List.set_cons_succ, i64_w, i32_w]
                        rfl
                       refine take_ (i := 49) (N := some 153) (v := ?_) (a' := ?_) #[true, true, true, true, true, true, true, true, true, true, true, true, true, true, true, true, true, true, true, true, true, true, true, true, true, true, true, true, true, true, true, true, true, true, true, true, true, true, true, true, true, true, true, true, true, true, true, true, true, true, false, false, false, false] rfl rfl (take_ofW HT_.out HW_.out (by kernel_rfl)) (fun _ _ _ h => h) (Or.inl ⟨by rfl, ?_⟩) hHeld ?_ ?_
                       rotate_left
                       ·rintro w' ⟨s0, s1, s2, s3, s4, s5, s6, s7, s8, s9, s10, s11, s12, s13⟩
                        go_simp
                        with_reducible rfl
                       rotate_left
                       ·simp only [Act.put, List.setIfInBounds_toArray, List.set_cons_zero, List.set_cons_succ, i64_w, i32_w]
                        rfl
                       refine take_ (i := 50) (N := some 154) (v := ?_) (a' := ?_) #[true, true, true, true, true, true, true, true, true, true, true, true, true, true, true, true, true, true, true, true, true, true, true, true, true, true, true, true, true, true, true, true, true, true, true, true, true, true, true, true, true, true, true, true, true, true, true, true, true, true, true, false, false, false] rfl rfl (take_ofW HT_.out HW_.out (by kernel_rfl)) (fun _ _ _ h => h) (Or.inl ⟨by rfl, ?_⟩) hHeld ?_ ?_
                       rotate_left
                       ·rintro w' ⟨s0, s1, s2, s3, s4, s5, s6, s7, s8, s9, s10, s11, s12, s13⟩
                        go_simp
                        with_reducible rfl
                       rotate_left
                       ·simp only [Act.put, List.setIfInBounds_toArray, List.set_cons_zero, List.set_cons_succ, i64_w, i32_w]
                        rfl
                       refine one_ (i := 51) (N := some 155) #[true, true, true, true, true, true, true, true, true, true, true, true, true, true, true, true, true, true, true, true, true, true, true, true, true, true, true, true, true, true, true, true, true, true, true, true, true, true, true, true, true, true, true, true, true, true, true, true, true, true, true, true, false, false] rfl rfl (one_of HT_.out (by kernel_rfl)) (by decide) (fun K hK => ?_)
                       refine goes_ Try.func22 (by kernel_rfl) rfl #[.agg #[.slice Ao100 t531.length co100, .slice Ao106 t534.length co106], .agg #[.slice Ao120 t547.length co120, .slice Ao128 t550.length co128]] (by rfl) rfl rfl (by (try simp only [List.map_toArray, List.map_cons, List.map_nil]); first | done | rfl | (simp only [List.length_drop, List.length_take]; rfl)) ?_
                       with_reducible refine (laws_sameMap.calls kj8 _ _ t531 _ _ t534 _ _ t547 _ _ t550 t562 _ ?side1 ?side2 ?side3 ?side4 ?side5 ?side6 ?side7 ?side8 A77.out).mono ?_
                       (case side1 => exact cP (Kd.R_reads' HO533.out).2.2)
                       (case side2 => exact (Kd.R_reads' HO533.out).2.1)
                       (case side3 => exact cP (Kd.R_reads' HO536.out).2.2)
                       (case side4 => exact (Kd.R_reads' HO536.out).2.1)
                       (case side5 => exact cP (Kd.R_reads' HO549.out).2.2)
                       (case side6 => exact (Kd.R_reads' HO549.out).2.1)
                       (case side7 => exact cP (Kd.R_reads' HO552.out).2.2)
                       (case side8 => exact (Kd.R_reads' HO552.out).2.1)
                       rintro e w134 ⟨rfl, hb⟩
                       have HS8_ := (hb.cell (World.block_lt_of_cell? _ _ (hHeld.2.2.2.2.2.2.2.2.1))).trans (hHeld.2.2.2.2.2.2.2.2.1)
                       have HS9_ := (hb.cell (World.block_lt_of_cell? _ _ (hHeld.2.2.2.2.2.2.2.2.2.1))).trans (hHeld.2.2.2.2.2.2.2.2.2.1)
                       have HS10_ := (hb.cell (World.block_lt_of_cell? _ _ (hHeld.2.2.2.2.2.2.2.2.2.2.1))).trans (hHeld.2.2.2.2.2.2.2.2.2.2.1)
                       have HS11_ := (hb.cell (World.block_lt_of_cell? _ _ (hHeld.2.2.2.2.2.2.2.2.2.2.2.1))).trans (hHeld.2.2.2.2.2.2.2.2.2.2.2.1)
                       have HS12_ := (hb.cell (World.block_lt_of_cell? _ _ (hHeld.2.2.2.2.2.2.2.2.2.2.2.2.1))).trans (hHeld.2.2.2.2.2.2.2.2.2.2.2.2.1)
                       have HS13_ := (hb.cell (World.block_lt_of_cell? _ _ (hHeld.2.2.2.2.2.2.2.2.2.2.2.2.2))).trans (hHeld.2.2.2.2.2.2.2.2.2.2.2.2.2)
                       refine ⟨_, rfl, ?_⟩
                       have n0_ := Aside0.mk (Kd.Q_below (by (with_reducible repeat (first | apply Kd.Q_alloc | apply Kd.Q_drewN | apply Kd.Q_drew)); exact HO_494000.out) hb)
                       have n1_ := rB HO_494001 hb
                       have n2_ := Aside0.mk (Kd.Q_below (by (with_reducible repeat (first | apply Kd.Q_alloc | apply Kd.Q_drewN | apply Kd.Q_drew)); exact HO_502000.out) hb)
                       have n3_ := rB HO_502001 hb
                       have n4_ := Aside0.mk (Kd.Q_below (by (with_reducible repeat (first | apply Kd.Q_alloc | apply Kd.Q_drewN | apply Kd.Q_drew)); exact HO_510000.out) hb)
                       have n5_ := rB HO_510001 hb
                       have n6_ := rB HO514 hb
                       have n7_ := rB HO517 hb
                       have n8_ := rB HO522 hb
                       have n9_ := rB HO526 hb
                       have n10_ := rB HO530 hb
                       have n11_ := rB HO533 hb
                       have n12_ := rB HO536 hb
                       have n13_ := rB HO541 hb
                       have n14_ := rB HO544 hb
                       have n15_ := rB HO549 hb
                       have n16_ := rB HO552 hb
                       have n17_ := kB BK493 hb
                       have n18_ := kB BK501 hb
                       have n19_ := kB BK509 hb
                       have n20_ := kB BK519 hb
                       have n21_ := kB BK538 hb
                       have n22_ := kB BK546 hb
                       have n23_ := kB BK554 hb
                       have n24_ := bS HB hb
                       clear HO_494000
                       clear HO_494001
                       clear HO_502000
                       clear HO_502001
                       clear HO_510000
                       clear HO_510001
                       clear HO514
                       clear HO517
                       clear HO522
                       clear HO526
                       clear HO530
                       clear HO533
                       clear HO536
                       clear HO541
                       clear HO544
                       clear HO549
                       clear HO552
                       clear BK493
                       clear BK501
                       clear BK509
                       clear BK519
                       clear BK538
                       clear BK546
                       clear BK554
                       clear HB
                       have HO_494000 := n0_
                       have HO_494001 := n1_
                       have HO_502000 := n2_
                       have HO_502001 := n3_
                       have HO_510000 := n4_
                       have HO_510001 := n5_
                       have HO514 := n6_
                       have HO517 := n7_
                       have HO522 := n8_
                       have HO526 := n9_
                       have HO530 := n10_
                       have HO533 := n11_
                       have HO536 := n12_
                       have HO541 := n13_
                       have HO544 := n14_
                       have HO549 := n15_
                       have HO552 := n16_
                       have BK493 := n17_
                       have BK501 := n18_
                       have BK509 := n19_
                       have BK519 := n20_
                       have BK538 := n21_
                       have BK546 := n22_
                       have BK554 := n23_
                       have HB := n24_
                       clear n0_ n1_ n2_ n3_ n4_ n5_ n6_ n7_ n8_ n9_ n10_ n11_ n12_ n13_ n14_ n15_ n16_ n17_ n18_ n19_ n20_ n21_ n22_ n23_ n24_
                       (try clear hb)
                       (try clear hb2)
                       (try clear hk)
                       (try clear hi)
                       refine hK.out _ _ ⟨(blk_cell BK519.out 0).trans rfl, (blk_cell BK519.out 1).trans rfl, (blk_cell BK493.out 0).trans rfl, (blk_cell BK493.out 1).trans rfl, (blk_cell BK538.out 0).trans rfl, (blk_cell BK538.out 1).trans rfl, (blk_cell BK554.out 0).trans rfl, (blk_cell BK554.out 1).trans rfl, HS8_, HS9_, HS10_, HS11_, HS12_, HS13_⟩ (fun hHeld => ?_)
                       clear hK K
                       refine norm_ (a' := ?_) ?_ ?_
                       rotate_left
                       ·show Act.put _ (some 155) _ = _
                        simp only [Act.put, List.setIfInBounds_toArray, List.set_cons_zero, List.set_cons_succ, i64_w, i32_w]
                        rfl
                       refine pure_ (i := 52) (N := some 156) (v := ?_) (a' := ?_) #[true, true, true, true, true, true, true, true, true, true, true, true, true, true, true, true, true, true, true, true, true, true, true, true, true, true, true, true, true, true, true, true, true, true, true, true, true, true, true, true, true, true, true, true, true, true, true, true, true, true, true, true, true, false] rfl rfl (any_of HT_.out (by kernel_rfl)) (fun _ _ _ h => h) (Or.inl ⟨by rfl, ?_⟩) ?_ ?_
                       rotate_left
                       ·intro w'
                        go_simp
                        with_reducible rfl
                       rotate_left
                       ·simp only [Act.put, List.setIfInBounds_toArray, List.set_cons_zero, List.set_cons_succ, i64_w, i32_w]
                        rfl
                       refine pure_ (i := 53) (N := some 4) (v := ?_) (a' := ?_) #[true, true, true, true, true, true, true, true, true, true, true, true, true, true, true, true, true, true, true, true, true, true, true, true, true, true, true, true, true, true, true, true, true, true, true, true, true, true, true, true, true, true, true, true, true, true, true, true, true, true, true, true, true, true] rfl rfl (any_of HT_.out (by kernel_rfl)) (fun _ _ _ h => h) (Or.inl ⟨by rfl, ?_⟩) ?_ ?_
                       rotate_left
                       ·intro w'
                        go_simp
                        with_reducible rfl
                       rotate_left
                       ·simp only [Act.put, List.setIfInBounds_toArray, List.set_cons_zero, List.set_cons_succ, i64_w, i32_w]
                        rfl
                       refine done_ (done_of HT_.out (by kernel_rfl)) ?_
                       try go_wp2
                       go_ret
                       exact ⟨eR, bP HB⟩
                      ·rw [if_neg c76] at H
                       have c76b0 : ((rd t520 1) == (rd t524 1)) = false := beq_eq_false_iff_ne.mpr c76
                       have c76b1 : ((rd t520 1) != (rd t524 1)) = true := bne_iff_ne.mpr c76
                       exact absurd ((Option.some.inj H).trans hr_.out) (by decide)
                     ·rw [if_neg c75] at H
                      exact absurd H (by simp)
                    ·rw [if_neg c74] at H
                     exact absurd H (by simp)
                   ·rw [if_neg c73] at H
                    have c73b0 : ((rd t520 2) == (rd t524 0)) = false := beq_eq_false_iff_ne.mpr c73
                    have c73b1 : ((rd t520 2) != (rd t524 0)) = true := bne_iff_ne.mpr c73
                    exact absurd ((Option.some.inj H).trans hr_.out) (by decide)
                  ·rw [if_neg c72] at H
                   exact absurd H (by simp)
                 ·rw [if_neg c71] at H
                  exact absurd H (by simp)
                ·rw [if_neg c70] at H
                 have c70b0 : ((rd t520 0) == (rd t524 2)) = false := beq_eq_false_iff_ne.mpr c70
                 have c70b1 : ((rd t520 0) != (rd t524 2)) = true := bne_iff_ne.mpr c70
                 exact absurd ((Option.some.inj H).trans hr_.out) (by decide)
               ·rw [if_neg c69] at H
                exact absurd H (by simp)
              ·rw [if_neg c68] at H
               exact absurd H (by simp)
             ·replace c67 := Bool.eq_false_iff.mpr c67
              subst c67
              have H1 : (some false) = some r := by rw [if_neg (show ¬ (false = true) by decide)] at H; exact H
              clear H
              have H := H1
              clear H1
              exact absurd ((Option.some.inj H).trans hr_.out) (by decide)
            ·replace c65 := Bool.eq_false_iff.mpr c65
             subst c65
             have H1 : (some false) = some r := by rw [if_neg (show ¬ (false = true) by decide)] at H; exact H
             clear H
             have H := H1
             clear H1
             exact absurd ((Option.some.inj H).trans hr_.out) (by decide)
           ·replace c64 := Bool.eq_false_iff.mpr c64
            subst c64
            have H1 : (some false) = some r := by rw [if_neg (show ¬ (false = true) by decide)] at H; exact H
            clear H
            have H := H1
            clear H1
            exact absurd ((Option.some.inj H).trans hr_.out) (by decide)
          ·replace c63 := Bool.eq_false_iff.mpr c63
           subst c63
           have H1 : (some false) = some r := by rw [if_neg (show ¬ (false = true) by decide)] at H; exact H
           clear H
           have H := H1
           clear H1
           exact absurd ((Option.some.inj H).trans hr_.out) (by decide)
         ·replace c62 := Bool.eq_false_iff.mpr c62
          subst c62
          have H1 : (some false) = some r := by rw [if_neg (show ¬ (false = true) by decide)] at H; exact H
          clear H
          have H := H1
          clear H1
          exact absurd ((Option.some.inj H).trans hr_.out) (by decide)
        ·replace c61 := Bool.eq_false_iff.mpr c61
         subst c61
         have H1 : (some false) = some r := by rw [if_neg (show ¬ (false = true) by decide)] at H; exact H
         clear H
         have H := H1
         clear H1
         exact absurd ((Option.some.inj H).trans hr_.out) (by decide)
       ·replace c60 := Bool.eq_false_iff.mpr c60
        subst c60
        have H1 : (some false) = some r := by rw [if_neg (show ¬ (false = true) by decide)] at H; exact H
        clear H
        have H := H1
        clear H1
        exact absurd ((Option.some.inj H).trans hr_.out) (by decide)

/-- THE ONE PURE STATEMENT of laws_FnDual: yours. -/
def laws_FnDual.Pure : Prop := ∀ (l0 : List Int) (l1 : List Int), l0.length ≤ maxLen → l0.length * 1 ≤ 140737488351232 → (∀ x ∈ l0, (Lit.int .u8 x).wf = true) → l1.length ≤ maxLen → l1.length * 1 ≤ 140737488351232 → (∀ x ∈ l1, (Lit.int .u8 x).wf = true) → ∃ k, laws_FnDual.f k l0 l1 = some true
theorem laws_FnDual.walk (P : laws_FnDual.Pure) (a0 : Option Addr) (len0 cap0 : Nat) (z0 : List Int) (a1 : Option Addr) (len1 cap1 : Nat) (z1 : List Int) (w : World) (w0 : (a0 = none ∧ len0 = 0 ∧ cap0 = 0 ∧ z0 = []) ∨ ∃ x, a0 = some x ∧ len0 ≤ cap0 ∧ cap0 ≤ maxLen ∧ z0.length = cap0 ∧ (∀ i, i < z0.length → w.cell? (x.add i) = some (.int .u8 (z0.getD i 0))) ∧ ∀ n ∈ z0, (Lit.int .u8 n).wf = true) (y0 : len0 * 1 ≤ 140737488351232) (w1 : (a1 = none ∧ len1 = 0 ∧ cap1 = 0 ∧ z1 = []) ∨ ∃ x, a1 = some x ∧ len1 ≤ cap1 ∧ cap1 ≤ maxLen ∧ z1.length = cap1 ∧ (∀ i, i < z1.length → w.cell? (x.add i) = some (.int .u8 (z1.getD i 0))) ∧ ∀ n ∈ z1, (Lit.int .u8 n).wf = true) (y1 : len1 * 1 ≤ 140737488351232) :
 Calls Try.prog 5 #[.slice a0 len0 cap0, .slice a1 len1 cap1] w fun e w' => e = .returned (.bool true) ∧ Below w.heap.size w w' := by
 obtain ⟨l0, rfl, hr0, hm0, hw0, hc0⟩ := ReadsInt.ofRowC w0
 obtain ⟨l1, rfl, hr1, hm1, hw1, hc1⟩ := ReadsInt.ofRowC w1
 obtain ⟨k, h⟩ := P l0 l1 hm0 y0 hw0 hm1 y1 hw1
 refine (laws_FnDual.calls k _ _ l0 _ _ l1 true w (Kd.C_of_reads (d := (0 : Int)) (h1 := fun _ => rfl) hr0) hc0 (Kd.C_of_reads (d := (0 : Int)) (h1 := fun _ => rfl) hr1) hc1 ⟨rfl⟩ h).mono ?_
 rintro e w' ⟨rfl, hd⟩
 exact ⟨rfl, hd⟩

end Go.Proofs.Ytihabnfccgjfbaa.F
