/- Contracts: what these Go functions return. -/
import Derived.Test.YtihabnfccgjfbaaF0
import Derived.Test.YtihabnfccgjfbaaF4
import Derived.Test.YtihabnfccgjfbaaF13
import Derived.Test.YtihabnfccgjfbaaF14
import Derived.Test.YtihabnfccgjfbaaF23
namespace Go.Proofs.Ytihabnfccgjfbaa.F
open Go.RowKit Go.Proofs.YtihabnfccgjfbaaW.PrintWords Go.Proofs.YtihabnfccgjfbaaW.PrintLast Go.Proofs.YtihabnfccgjfbaaW.PrintMore
attribute [local go_sem] max2_int min2_int max_two min_two max_three min_three max_four min_four
set_option linter.unusedVariables false
set_option linter.unusedSimpArgs false

/-! ### spec_MapDual: function 21 -/
def spec_MapDual.f (k : Nat) (l0_0 : List Int) (l0_1 : List Int) : Option (List Int × List Int × Bool) := (spec_MapValid.f k l0_0 l0_1).bind fun t435 => (if t435 = true then ((spec_l2Faces.f k l0_0 l0_1).bind fun t436 => ((spec_l2Copy.f l0_1).bind fun t439 => (some (t436, t439, true)))) else (some (([] : List Int), ([] : List Int), false)))
def spec_MapDual.T3 : Bool × List (List Nat × List Nat) := (true, [([], []), ([0], [0]), ([], []), ([2], [2]), ([3, 1], [3]), ([1, 4], [1, 4]), ([5, 4, 0, 1, 2, 3, 4, 5], [5]), ([6, 0, 1, 2, 3, 4, 5, 6], [])])
def spec_MapDual.B3 : List Nat := [0, 1, 0, 4, 15, 31, 63, 127]
theorem spec_MapDual.tab3 : rtab .any (opsOf Try.f21 3) = spec_MapDual.T3 := by kernel_rfl
theorem spec_MapDual.bits3 : waitsOk spec_MapDual.T3.2 spec_MapDual.B3 = true := by kernel_rfl
set_option maxHeartbeats 8000000 in
set_option maxRecDepth 100000 in
theorem spec_MapDual.calls (k : Nat) (A0_0 : Option Addr) (c0_0 : Nat) (l0_0 : List Int) (A0_1 : Option Addr) (c0_1 : Nat) (l0_1 : List Int) (r1 : List Int) (r2 : List Int) (r3 : Bool) (w : World) (hr0_0 : Kd.C (Kd.int .i64) w A0_0 l0_0.length l0_0) (hc0_0 : l0_0.length ≤ c0_0) (hr0_1 : Kd.C (Kd.int .i64) w A0_1 l0_1.length l0_1) (hc0_1 : l0_1.length ≤ c0_1) (h : spec_MapDual.f k l0_0 l0_1 = some (r1, r2, r3)) :
 Calls Try.prog 21 #[.agg #[.slice A0_0 l0_0.length c0_0, .slice A0_1 l0_1.length c0_1]] w fun e w' => ∃ v0_ v1_ : Value, e = .returned (.tuple #[.agg #[v0_, v1_], .bool r3]) ∧ Kd.R (Kd.int .i64) 3 w' w.heap.size (fun k_ => some k_ ≠ (v1_ : Value).ownBlock) v0_ r1 ∧ Kd.R (Kd.int .i64) 3 w' w.heap.size (fun k_ => some k_ ≠ (v0_ : Value).ownBlock) v1_ r2 ∧ Below w.heap.size w w' := by
 have hu25 := Try.underlying25
 have HR0_0 := Aside0.mk hr0_0
 have HC0_0 := Aside0.mk hc0_0
 clear hr0_0 hc0_0
 have HR0_1 := Aside0.mk hr0_1
 have HC0_1 := Aside0.mk hc0_1
 clear hr0_1 hc0_1
 have HB := Aside0.mk (Below.refl w.heap.size w)
 have H : ((spec_MapValid.f k l0_0 l0_1).bind fun t435 => (if t435 = true then ((spec_l2Faces.f k l0_0 l0_1).bind fun t436 => ((spec_l2Copy.f l0_1).bind fun t439 => (some (t436, t439, true)))) else (some (([] : List Int), ([] : List Int), false)))) = some (r1, r2, r3) := h
 clear h
 replace H := Option.bind_eq_some_iff.mp H
 obtain ⟨t435, A20, H⟩ := H
 replace H : (if t435 = true then ((spec_l2Faces.f k l0_0 l0_1).bind fun t436 => ((spec_l2Copy.f l0_1).bind fun t439 => (some (t436, t439, true)))) else (some (([] : List Int), ([] : List Int), false))) = some (r1, r2, r3) := H
 have A2 := Aside0.mk A20
 clear A20
 by_cases c3 : t435 = true
 ·subst c3
  replace H : ((spec_l2Faces.f k l0_0 l0_1).bind fun t436 => ((spec_l2Copy.f l0_1).bind fun t439 => (some (t436, t439, true)))) = some (r1, r2, r3) := by rw [if_pos rfl] at H; exact H
  replace H := Option.bind_eq_some_iff.mp H
  obtain ⟨t436, A40, H⟩ := H
  replace H : ((spec_l2Copy.f l0_1).bind fun t439 => (some (t436, t439, true))) = some (r1, r2, r3) := H
  have A4 := Aside0.mk A40
  clear A40
  replace H := Option.bind_eq_some_iff.mp H
  obtain ⟨t439, A50, H⟩ := H
  replace H : (some (t436, t439, true)) = some (r1, r2, r3) := H
  have A5 := Aside0.mk A50
  clear A50
  simp only [Option.some.injEq, Prod.mk.injEq] at H
  obtain ⟨rfl, rfl, rfl⟩ := H
  go_enter Try.func21, Try.ntmps21
  try go_wp2_with (first | ((with_reducible refine gate_dst (N := 1) rfl ?_); refine bE 1 #[.slice A0_0 l0_0.length c0_0, .slice A0_1 l0_1.length c0_1] 25 ?_; intro gb433 hg w6 hbox hb; have BK433 := Aside0.mk (hbox); have GW433 := gS HB hg; have GE433 := gS HB hg; replace HB := bS HB hb; clear hb hbox hg) | ((with_reducible refine gate_dst (N := 2) rfl ?_); refine bE 2 #[.slice none 0 0, .slice none 0 0] 25 ?_; intro gb434 hg w7 hbox hb; have BK434 := Aside0.mk (hbox); have GW434 := gS HB hg; have GE434 := gS HB hg; replace HB := bS HB hb; have NB433_434 := nL BK433 hg; have NB434_433 := nG BK433 hg; replace BK433 := kB BK433 hb; clear hb hbox hg; have hnb8 := NB433_434.out; have hnc8 := NB434_433.out; have hcz9_0 := zc0 BK433; have hcz9_1 := zc1 BK433; have hfz9_0 := blk_frozen BK433.out 0; have hfz9_1 := blk_frozen BK433.out 1) | ((with_reducible refine gate_callee (f := 40) rfl ?_); refine gL (some 5) Try.func40 #[.agg #[.slice A0_0 l0_0.length c0_0, .slice A0_1 l0_1.length c0_1]] ?_; (with_reducible refine (spec_MapValid.calls k _ _ l0_0 _ _ l0_1 true _ ?side1 ?side2 ?side3 ?side4 A2.out).mono ?_); (case side1 => exact cB HR0_0 HB); (case side2 => exact HC0_0.out); (case side3 => exact cB HR0_1 HB); (case side4 => exact HC0_1.out); rintro e w10 ⟨rfl, hb⟩; refine ⟨_, rfl, ?_⟩; replace BK433 := kB BK433 hb; replace BK434 := kB BK434 hb; replace HB := bS HB hb; (try clear hb); (try clear hb2); (try clear hk); (try clear hi)))
  replace BK433 := Aside0.mk (blk_drew BK433.out)
  replace BK434 := Aside0.mk (blk_drew BK434.out)
  replace HB := Aside0.mk (below_drew1 HB.out)
  refine start_ (n := 8) (S := fun w' => w'.cell? ⟨gb433, 0, none⟩ = some (.slice A0_0 l0_0.length c0_0) ∧ w'.cell? ⟨gb433, 1, none⟩ = some (.slice A0_1 l0_1.length c0_1)) (ds := []) #[false, false, false, false, false, false, false, false] (by kernel_rfl) rfl rfl ⟨(blk_cell BK433.out 0).trans rfl, (blk_cell BK433.out 1).trans rfl⟩ (fun hHeld => ?_); refine with_tabW spec_MapDual.tab3 spec_MapDual.bits3 (fun HT_ HW_ => ?_)
  generalize w10.drew = w11 at BK433 BK434 HB hHeld ⊢
  refine pure_ (i := 2) (N := some 10) (v := ?_) (a' := ?_) #[false, false, true, false, false, false, false, false] rfl rfl (any_of HT_.out (by kernel_rfl)) (fun _ _ _ h => h) (Or.inl ⟨by rfl, ?_⟩) ?_ ?_
  rotate_left
  ·intro w'
   go_simp
   with_reducible rfl
  rotate_left
  ·simp only [Act.put, List.setIfInBounds_toArray, List.set_cons_zero, List.set_cons_succ, i64_w, i32_w]
   rfl
  refine take_ (i := 0) (N := some 8) (v := ?_) (a' := ?_) #[true, false, true, false, false, false, false, false] rfl rfl (take_ofW HT_.out HW_.out (by kernel_rfl)) (fun _ _ _ h => h) (Or.inl ⟨by rfl, ?_⟩) hHeld ?_ ?_
  rotate_left
  ·rintro w' ⟨s0, s1⟩
   go_simp
   with_reducible rfl
  rotate_left
  ·simp only [Act.put, List.setIfInBounds_toArray, List.set_cons_zero, List.set_cons_succ, i64_w, i32_w]
   rfl
  refine take_ (i := 3) (N := some 11) (v := ?_) (a' := ?_) #[true, false, true, true, false, false, false, false] rfl rfl (take_ofW HT_.out HW_.out (by kernel_rfl)) (fun _ _ _ h => h) (Or.inl ⟨by rfl, ?_⟩) hHeld ?_ ?_
  rotate_left
  ·rintro w' ⟨s0, s1⟩
   go_simp
   with_reducible rfl
  rotate_left
  ·simp only [Act.put, List.setIfInBounds_toArray, List.set_cons_zero, List.set_cons_succ, i64_w, i32_w]
   rfl
  refine one_ (i := 1) (N := some 9) #[true, true, true, true, false, false, false, false] rfl rfl (one_of HT_.out (by kernel_rfl)) (by decide) (fun K hK => ?_)
  refine goes_ Try.func41 (by kernel_rfl) rfl #[.agg #[.slice A0_0 l0_0.length c0_0, .slice A0_1 l0_1.length c0_1]] (by rfl) rfl rfl (by (try simp only [List.map_toArray, List.map_cons, List.map_nil]); first | done | rfl | (simp only [List.length_drop, List.length_take]; rfl)) ?_
  with_reducible refine (spec_l2Faces.calls k _ _ l0_0 _ _ l0_1 t436 _ ?side1 ?side2 ?side3 ?side4 A4.out).mono ?_
  (case side1 => exact cB HR0_0 HB)
  (case side2 => exact HC0_0.out)
  (case side3 => exact cB HR0_1 HB)
  (case side4 => exact HC0_1.out)
  rintro e w12 ⟨v437, rfl, ho0, hb⟩
  refine ⟨_, rfl, ?_⟩
  have HO438 := rL ho0 HB
  replace BK433 := kB BK433 hb
  replace BK434 := kB BK434 hb
  replace HB := bS HB hb
  (try clear hb)
  (try clear hb2)
  (try clear hk)
  (try clear hi)
  (try clear ho0)
  refine hK.out _ _ ⟨(blk_cell BK433.out 0).trans rfl, (blk_cell BK433.out 1).trans rfl⟩ (fun hHeld => ?_)
  clear hK K
  refine norm_ (a' := ?_) ?_ ?_
  rotate_left
  ·show Act.put _ (some 9) _ = _
   simp only [Act.put, List.setIfInBounds_toArray, List.set_cons_zero, List.set_cons_succ, i64_w, i32_w]
   rfl
  refine one_ (i := 4) (N := some 12) #[true, true, true, true, true, false, false, false] rfl rfl (one_of HT_.out (by kernel_rfl)) (by decide) (fun K hK => ?_)
  refine goes_ Try.func49 (by kernel_rfl) rfl #[.slice A0_1 l0_1.length c0_1] (by rfl) rfl rfl (by (try simp only [List.map_toArray, List.map_cons, List.map_nil]); first | done | rfl | (simp only [List.length_drop, List.length_take]; rfl)) ?_
  with_reducible refine (spec_l2Copy.calls _ _ l0_1 t439 _ ?side1 ?side2 A5.out).mono ?_
  (case side1 => exact cB HR0_1 HB)
  (case side2 => exact HC0_1.out)
  rintro e w13 ⟨v440, rfl, ho0, hb⟩
  refine ⟨_, rfl, ?_⟩
  have HO441 := Aside0.mk (Kd.R_lower (Kd.R_new' ho0 (Kd.R_lt (rP HO438))) (below_size (bP HB)))
  replace HO438 := Aside0.mk (Kd.R_elder' (rP HO438) (Kd.R_base ho0) hb)
  replace BK433 := kB BK433 hb
  replace BK434 := kB BK434 hb
  replace HB := bS HB hb
  (try clear hb)
  (try clear hb2)
  (try clear hk)
  (try clear hi)
  (try clear ho0)
  obtain ⟨Ao14, co14, eo14⟩ := Kd.R_slice HO441.out
  (first | subst eo14 | (injection eo14 with f1_ f2_ f3_; have f4_ := f1_.symm; have f5_ := f3_.symm; clear f1_ f2_ f3_; subst f4_; subst f5_))
  obtain ⟨Ao15, co15, eo15⟩ := Kd.R_slice HO438.out
  (first | subst eo15 | (injection eo15 with f1_ f2_ f3_; have f4_ := f1_.symm; have f5_ := f3_.symm; clear f1_ f2_ f3_; subst f4_; subst f5_))
  refine hK.out _ _ ⟨(blk_cell BK433.out 0).trans rfl, (blk_cell BK433.out 1).trans rfl⟩ (fun hHeld => ?_)
  clear hK K
  refine norm_ (a' := ?_) ?_ ?_
  rotate_left
  ·show Act.put _ (some 12) _ = _
   simp only [Act.put, List.setIfInBounds_toArray, List.set_cons_zero, List.set_cons_succ, i64_w, i32_w]
   rfl
  refine pure_ (i := 5) (N := some 13) (v := ?_) (a' := ?_) #[true, true, true, true, true, true, false, false] rfl rfl (any_of HT_.out (by kernel_rfl)) (fun _ _ _ h => h) (Or.inl ⟨by rfl, ?_⟩) ?_ ?_
  rotate_left
  ·intro w'
   go_simp
   with_reducible rfl
  rotate_left
  ·simp only [Act.put, List.setIfInBounds_toArray, List.set_cons_zero, List.set_cons_succ, i64_w, i32_w]
   rfl
  refine one_ (i := 6) (N := none) #[true, true, true, true, true, true, true, false] rfl rfl (one_of HT_.out (by kernel_rfl)) (by decide) (fun K hK => ?_)
  have hs16 : w13.cell? ⟨gb434, 0, none⟩ = some (.slice none 0 0) := (blk_cell BK434.out 0).trans rfl
  have hfs16 := blk_frozen BK434.out 0
  have hns16_0 := NB433_434.out
  have hms16_0 := NB434_433.out
  have hs17 : w13.cell? ⟨gb434, 1, none⟩ = some (.slice none 0 0) := (blk_cell BK434.out 1).trans rfl
  have hfs17 := blk_frozen BK434.out 1
  have hns17_0 := NB433_434.out
  have hms17_0 := NB434_433.out
  refine skip_ (w1 := ?_) (by rfl) rfl ?_ ?_
  rotate_left
  ·go_simp
   rfl
  refine hK.out _ _ ⟨((cell_far (p := ⟨gb434, _, none⟩) NB433_434.out _).trans (((cell_far (p := ⟨gb434, _, none⟩) NB433_434.out _).trans (hHeld.1)))), ((cell_far (p := ⟨gb434, _, none⟩) NB433_434.out _).trans (((cell_far (p := ⟨gb434, _, none⟩) NB433_434.out _).trans (hHeld.2))))⟩ (fun hHeld => ?_)
  clear hK K
  refine pure_ (i := 7) (N := some 3) (v := ?_) (a' := ?_) #[true, true, true, true, true, true, true, true] rfl rfl (any_of HT_.out (by kernel_rfl)) (fun _ _ _ h => h) (Or.inl ⟨by rfl, ?_⟩) ?_ ?_
  rotate_left
  ·intro w'
   go_simp
   with_reducible rfl
  rotate_left
  ·simp only [Act.put, List.setIfInBounds_toArray, List.set_cons_zero, List.set_cons_succ, i64_w, i32_w]
   rfl
  refine done_ (done_of HT_.out (by kernel_rfl)) ?_
  try go_wp2
  refine bodyPost_ret (results_ct rfl _ _ gb434 25 #[.slice Ao15 t436.length co15, .slice Ao14 t439.length co14] (0, 0) _ rfl (by (with_reducible repeat (first | refine blk_drewN ?_ _ | refine blk_drew ?_ | refine blk_alloc ?_ _)); refine blk_put (cs := #[.slice Ao15 t436.length co15, .slice none 0 0]) ?_ 1 _ rfl; (with_reducible repeat (first | refine blk_drewN ?_ _ | refine blk_drew ?_ | refine blk_alloc ?_ _)); refine blk_put (cs := #[.slice none 0 0, .slice none 0 0]) ?_ 0 _ rfl; (with_reducible repeat (first | refine blk_drewN ?_ _ | refine blk_drew ?_ | refine blk_alloc ?_ _)); exact BK434.out) Try.underlying25 rfl (by kernel_rfl)) rfl ?_
  exact ⟨_, _, eR, rT (Kd.R_mono (rF gb434 1 (rF gb434 0 (rY HO438 BK434) (.slice Ao15 t436.length co15)) (.slice Ao14 t439.length co14)) (fun _ hk => hk.1.2)), rT (Kd.R_mono (rF gb434 1 (rF gb434 0 (rY HO441 BK434) (.slice Ao15 t436.length co15)) (.slice Ao14 t439.length co14)) (fun _ hk => hk.1.2)), bP HB⟩
 ·replace c3 := Bool.eq_false_iff.mpr c3
  subst c3
  replace H : (some (([] : List Int), ([] : List Int), false)) = some (r1, r2, r3) := by rw [if_neg (show ¬ (false = true) by decide)] at H; exact H
  simp only [Option.some.injEq, Prod.mk.injEq] at H
  obtain ⟨rfl, rfl, rfl⟩ := H
  go_enter Try.func21, Try.ntmps21
  go_wp2_with (first | ((with_reducible refine gate_dst (N := 1) rfl ?_); refine bE 1 #[.slice A0_0 l0_0.length c0_0, .slice A0_1 l0_1.length c0_1] 25 ?_; intro gb433 hg w18 hbox hb; have BK433 := Aside0.mk (hbox); have GW433 := gS HB hg; have GE433 := gS HB hg; replace HB := bS HB hb; clear hb hbox hg) | ((with_reducible refine gate_dst (N := 2) rfl ?_); refine bE 2 #[.slice none 0 0, .slice none 0 0] 25 ?_; intro gb434 hg w19 hbox hb; have BK434 := Aside0.mk (hbox); have GW434 := gS HB hg; have GE434 := gS HB hg; replace HB := bS HB hb; have NB433_434 := nL BK433 hg; have NB434_433 := nG BK433 hg; replace BK433 := kB BK433 hb; clear hb hbox hg; have hnb20 := NB433_434.out; have hnc20 := NB434_433.out; have hcz21_0 := zc0 BK433; have hcz21_1 := zc1 BK433; have hfz21_0 := blk_frozen BK433.out 0; have hfz21_1 := blk_frozen BK433.out 1) | ((with_reducible refine gate_callee (f := 40) rfl ?_); refine gL (some 5) Try.func40 #[.agg #[.slice A0_0 l0_0.length c0_0, .slice A0_1 l0_1.length c0_1]] ?_; (with_reducible refine (spec_MapValid.calls k _ _ l0_0 _ _ l0_1 false _ ?side1 ?side2 ?side3 ?side4 A2.out).mono ?_); (case side1 => exact cB HR0_0 HB); (case side2 => exact HC0_0.out); (case side3 => exact cB HR0_1 HB); (case side4 => exact HC0_1.out); rintro e w22 ⟨rfl, hb⟩; refine ⟨_, rfl, ?_⟩; replace BK433 := kB BK433 hb; replace BK434 := kB BK434 hb; replace HB := bS HB hb; (try clear hb); (try clear hb2); (try clear hk); (try clear hi); have hcz23_0 := zc0 BK434; have hcz23_1 := zc1 BK434; have hfz23_0 := blk_frozen BK434.out 0; have hfz23_1 := blk_frozen BK434.out 1))
  refine bodyPost_ret (results_ct rfl _ _ gb434 25 #[.slice none 0 0, .slice none 0 0] (0, 0) _ rfl (by (with_reducible repeat (first | refine blk_drewN ?_ _ | refine blk_drew ?_ | refine blk_alloc ?_ _)); refine blk_put (cs := #[.slice none 0 0, .slice none 0 0]) ?_ 1 _ rfl; (with_reducible repeat (first | refine blk_drewN ?_ _ | refine blk_drew ?_ | refine blk_alloc ?_ _)); refine blk_put (cs := #[.slice none 0 0, .slice none 0 0]) ?_ 0 _ rfl; (with_reducible repeat (first | refine blk_drewN ?_ _ | refine blk_drew ?_ | refine blk_alloc ?_ _)); exact BK434.out) Try.underlying25 rfl (by kernel_rfl)) rfl ?_
  exact ⟨_, _, eR, by first | exact Kd.R_nil _ _ _ _ _ | exact Kd.N_nil _ _ _ _ _ | exact Kd.V_nil _ _ _ _ _ | exact Kd.Q_nil _ _ _ _ _ | exact Kd.S_nil _ _ _ _ _, by first | exact Kd.R_nil _ _ _ _ _ | exact Kd.N_nil _ _ _ _ _ | exact Kd.V_nil _ _ _ _ _ | exact Kd.Q_nil _ _ _ _ _ | exact Kd.S_nil _ _ _ _ _, bP HB⟩

/-! ### laws_sameMap: function 22 -/
def laws_sameMap.f (k : Nat) (l0_0 : List Int) (l0_1 : List Int) (l1_0 : List Int) (l1_1 : List Int) : Option (Bool) := (laws_sameInts.f k l0_0 l1_0).bind fun t444 => (if t444 = true then ((laws_sameInts.f k l0_1 l1_1).bind fun t445 => (some t445)) else (some false))
set_option maxHeartbeats 8000000 in
set_option maxRecDepth 100000 in
theorem laws_sameMap.calls (k : Nat) (A0_0 : Option Addr) (c0_0 : Nat) (l0_0 : List Int) (A0_1 : Option Addr) (c0_1 : Nat) (l0_1 : List Int) (A1_0 : Option Addr) (c1_0 : Nat) (l1_0 : List Int) (A1_1 : Option Addr) (c1_1 : Nat) (l1_1 : List Int) (r : Bool) (w : World) (hr0_0 : Kd.C (Kd.int .i64) w A0_0 l0_0.length l0_0) (hc0_0 : l0_0.length ≤ c0_0) (hr0_1 : Kd.C (Kd.int .i64) w A0_1 l0_1.length l0_1) (hc0_1 : l0_1.length ≤ c0_1) (hr1_0 : Kd.C (Kd.int .i64) w A1_0 l1_0.length l1_0) (hc1_0 : l1_0.length ≤ c1_0) (hr1_1 : Kd.C (Kd.int .i64) w A1_1 l1_1.length l1_1) (hc1_1 : l1_1.length ≤ c1_1) (h : laws_sameMap.f k l0_0 l0_1 l1_0 l1_1 = some r) :
 Calls Try.prog 22 #[.agg #[.slice A0_0 l0_0.length c0_0, .slice A0_1 l0_1.length c0_1], .agg #[.slice A1_0 l1_0.length c1_0, .slice A1_1 l1_1.length c1_1]] w fun e w' => e = .returned (.bool r) ∧ Below w.heap.size w w' := by
 have hu25 := Try.underlying25
 have HR0_0 := Aside0.mk hr0_0
 have HC0_0 := Aside0.mk hc0_0
 clear hr0_0 hc0_0
 have HR0_1 := Aside0.mk hr0_1
 have HC0_1 := Aside0.mk hc0_1
 clear hr0_1 hc0_1
 have HR1_0 := Aside0.mk hr1_0
 have HC1_0 := Aside0.mk hc1_0
 clear hr1_0 hc1_0
 have HR1_1 := Aside0.mk hr1_1
 have HC1_1 := Aside0.mk hc1_1
 clear hr1_1 hc1_1
 have HB := Aside0.mk (Below.refl w.heap.size w)
 have H : ((laws_sameInts.f k l0_0 l1_0).bind fun t444 => (if t444 = true then ((laws_sameInts.f k l0_1 l1_1).bind fun t445 => (some t445)) else (some false))) = some r := h
 clear h
 replace H := Option.bind_eq_some_iff.mp H
 obtain ⟨t444, A30, H⟩ := H
 replace H : (if t444 = true then ((laws_sameInts.f k l0_1 l1_1).bind fun t445 => (some t445)) else (some false)) = some r := H
 have A3 := Aside0.mk A30
 clear A30
 by_cases c4 : t444 = true
 ·subst c4
  replace H : ((laws_sameInts.f k l0_1 l1_1).bind fun t445 => (some t445)) = some r := by rw [if_pos rfl] at H; exact H
  replace H := Option.bind_eq_some_iff.mp H
  obtain ⟨t445, A50, H⟩ := H
  replace H : (some t445) = some r := H
  have A5 := Aside0.mk A50
  clear A50
  obtain rfl := Option.some.inj H
  go_enter Try.func22, Try.ntmps22
  go_wp2_with (first | ((with_reducible refine gate_dst (N := 2) rfl ?_); refine bE 2 #[.slice A0_0 l0_0.length c0_0, .slice A0_1 l0_1.length c0_1] 25 ?_; intro gb442 hg w6 hbox hb; have BK442 := Aside0.mk (hbox); have GW442 := gS HB hg; have GE442 := gS HB hg; replace HB := bS HB hb; clear hb hbox hg) | ((with_reducible refine gate_dst (N := 3) rfl ?_); refine bE 3 #[.slice A1_0 l1_0.length c1_0, .slice A1_1 l1_1.length c1_1] 25 ?_; intro gb443 hg w7 hbox hb; have BK443 := Aside0.mk (hbox); have GW443 := gS HB hg; have GE443 := gS HB hg; replace HB := bS HB hb; have NB442_443 := nL BK442 hg; have NB443_442 := nG BK442 hg; replace BK442 := kB BK442 hb; clear hb hbox hg; have hnb8 := NB442_443.out; have hnc8 := NB443_442.out; have hcz9_0 := zc0 BK442; have hcz9_1 := zc1 BK442; have hfz9_0 := blk_frozen BK442.out 0; have hfz9_1 := blk_frozen BK442.out 1; have hcz10_0 := zc0 BK443; have hcz10_1 := zc1 BK443; have hfz10_0 := blk_frozen BK443.out 0; have hfz10_1 := blk_frozen BK443.out 1) | ((with_reducible refine gate_callee (f := 12) rfl ?_); refine gL (some 9) Try.func12 #[.slice A0_0 l0_0.length c0_0, .slice A1_0 l1_0.length c1_0] ?_; (with_reducible refine (laws_sameInts.calls k _ _ l0_0 _ _ l1_0 true _ ?side1 ?side2 ?side3 ?side4 A3.out).mono ?_); (case side1 => exact cB HR0_0 HB); (case side2 => exact HC0_0.out); (case side3 => exact cB HR1_0 HB); (case side4 => exact HC1_0.out); rintro e w' ⟨rfl, ⟨nd, rfl⟩⟩; refine ⟨_, rfl, ?_⟩) | (go_at_call 12; (with_reducible refine (laws_sameInts.calls k _ _ l0_1 _ _ l1_1 t445 _ ?side1 ?side2 ?side3 ?side4 A5.out).mono ?_); (case side1 => exact cP (Kd.C_below HR0_1.out (bP HB))); (case side2 => exact HC0_1.out); (case side3 => exact cP (Kd.C_below HR1_1.out (bP HB))); (case side4 => exact HC1_1.out); rintro e w' ⟨rfl, ⟨nd, rfl⟩⟩))
  go_ret
  exact ⟨eR, bP HB⟩
 ·replace c4 := Bool.eq_false_iff.mpr c4
  subst c4
  replace H : (some false) = some r := by rw [if_neg (show ¬ (false = true) by decide)] at H; exact H
  obtain rfl := Option.some.inj H
  go_enter Try.func22, Try.ntmps22
  go_wp2_with (first | ((with_reducible refine gate_dst (N := 2) rfl ?_); refine bE 2 #[.slice A0_0 l0_0.length c0_0, .slice A0_1 l0_1.length c0_1] 25 ?_; intro gb442 hg w11 hbox hb; have BK442 := Aside0.mk (hbox); have GW442 := gS HB hg; have GE442 := gS HB hg; replace HB := bS HB hb; clear hb hbox hg) | ((with_reducible refine gate_dst (N := 3) rfl ?_); refine bE 3 #[.slice A1_0 l1_0.length c1_0, .slice A1_1 l1_1.length c1_1] 25 ?_; intro gb443 hg w12 hbox hb; have BK443 := Aside0.mk (hbox); have GW443 := gS HB hg; have GE443 := gS HB hg; replace HB := bS HB hb; have NB442_443 := nL BK442 hg; have NB443_442 := nG BK442 hg; replace BK442 := kB BK442 hb; clear hb hbox hg; have hnb13 := NB442_443.out; have hnc13 := NB443_442.out; have hcz14_0 := zc0 BK442; have hcz14_1 := zc1 BK442; have hfz14_0 := blk_frozen BK442.out 0; have hfz14_1 := blk_frozen BK442.out 1; have hcz15_0 := zc0 BK443; have hcz15_1 := zc1 BK443; have hfz15_0 := blk_frozen BK443.out 0; have hfz15_1 := blk_frozen BK443.out 1) | ((with_reducible refine gate_callee (f := 12) rfl ?_); refine gL (some 9) Try.func12 #[.slice A0_0 l0_0.length c0_0, .slice A1_0 l1_0.length c1_0] ?_; (with_reducible refine (laws_sameInts.calls k _ _ l0_0 _ _ l1_0 false _ ?side1 ?side2 ?side3 ?side4 A3.out).mono ?_); (case side1 => exact cB HR0_0 HB); (case side2 => exact HC0_0.out); (case side3 => exact cB HR1_0 HB); (case side4 => exact HC1_0.out); rintro e w' ⟨rfl, ⟨nd, rfl⟩⟩; refine ⟨_, rfl, ?_⟩))
  go_ret
  exact ⟨eR, bP HB⟩

end Go.Proofs.Ytihabnfccgjfbaa.F
