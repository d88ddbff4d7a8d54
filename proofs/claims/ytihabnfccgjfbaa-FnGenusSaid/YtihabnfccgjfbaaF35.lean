/- Contracts: what these Go functions return. -/
import Derived.Test.YtihabnfccgjfbaaF0
import Derived.Test.YtihabnfccgjfbaaF11
import Derived.Test.YtihabnfccgjfbaaF22
import Derived.Test.YtihabnfccgjfbaaF25
namespace Go.Proofs.Ytihabnfccgjfbaa.F
open Go.RowKit Go.Proofs.YtihabnfccgjfbaaW.PrintWords Go.Proofs.YtihabnfccgjfbaaW.PrintLast Go.Proofs.YtihabnfccgjfbaaW.PrintMore
attribute [local go_sem] max2_int min2_int max_two min_two max_three min_three max_four min_four
set_option linter.unusedVariables false
set_option linter.unusedSimpArgs false

/-! ### impl_MapMirror: function 28 -/
def impl_MapMirror.f (k : Nat) (l0_0 : List Int) (l0_1 : List Int) : Option (List Int × List Int × Bool) := (impl_MapValid.f k l0_0 l0_1).bind fun t631 => (if t631 = true then ((impl_back.f k l0_0).bind fun t632 => ((slices_Clone_int_int.f l0_1).bind fun t635 => (some (t632, t635, true)))) else (some (([] : List Int), ([] : List Int), false)))
def impl_MapMirror.T3 : Bool × List (List Nat × List Nat) := (true, [([], []), ([0], [0]), ([1], [1]), ([], []), ([3], [3]), ([4, 2], [4]), ([2, 5], [2, 5]), ([6, 5, 0, 1, 2, 3, 4, 5, 6], [6]), ([7, 0, 1, 2, 3, 4, 5, 6, 7], [])])
def impl_MapMirror.B3 : List Nat := [0, 1, 3, 0, 8, 31, 63, 127, 255]
theorem impl_MapMirror.tab3 : rtab .any (opsOf Try.f28 3) = impl_MapMirror.T3 := by kernel_rfl
theorem impl_MapMirror.bits3 : waitsOk impl_MapMirror.T3.2 impl_MapMirror.B3 = true := by kernel_rfl
set_option maxHeartbeats 8000000 in
set_option maxRecDepth 100000 in
theorem impl_MapMirror.calls (k : Nat) (A0_0 : Option Addr) (c0_0 : Nat) (l0_0 : List Int) (A0_1 : Option Addr) (c0_1 : Nat) (l0_1 : List Int) (r1 : List Int) (r2 : List Int) (r3 : Bool) (w : World) (hr0_0 : Kd.C (Kd.int .i64) w A0_0 l0_0.length l0_0) (hc0_0 : l0_0.length ≤ c0_0) (hr0_1 : Kd.C (Kd.int .i64) w A0_1 l0_1.length l0_1) (hc0_1 : l0_1.length ≤ c0_1) (h : impl_MapMirror.f k l0_0 l0_1 = some (r1, r2, r3)) :
 Calls Try.prog 28 #[.agg #[.slice A0_0 l0_0.length c0_0, .slice A0_1 l0_1.length c0_1]] w fun e w' => ∃ v0_ v1_ : Value, e = .returned (.tuple #[.agg #[v0_, v1_], .bool r3]) ∧ Kd.R (Kd.int .i64) 3 w' w.heap.size (fun k_ => some k_ ≠ (v1_ : Value).ownBlock) v0_ r1 ∧ Kd.R (Kd.int .i64) 3 w' w.heap.size (fun k_ => some k_ ≠ (v0_ : Value).ownBlock) v1_ r2 ∧ Below w.heap.size w w' := by
 have hu25 := Try.underlying25
 have HR0_0 := Aside0.mk hr0_0
 have HC0_0 := Aside0.mk hc0_0
 clear hr0_0 hc0_0
 have HR0_1 := Aside0.mk hr0_1
 have HC0_1 := Aside0.mk hc0_1
 clear hr0_1 hc0_1
 have HB := Aside0.mk (Below.refl w.heap.size w)
 have H : ((impl_MapValid.f k l0_0 l0_1).bind fun t631 => (if t631 = true then ((impl_back.f k l0_0).bind fun t632 => ((slices_Clone_int_int.f l0_1).bind fun t635 => (some (t632, t635, true)))) else (some (([] : List Int), ([] : List Int), false)))) = some (r1, r2, r3) := h
 clear h
 replace H := Option.bind_eq_some_iff.mp H
 obtain ⟨t631, A20, H⟩ := H
 replace H : (if t631 = true then ((impl_back.f k l0_0).bind fun t632 => ((slices_Clone_int_int.f l0_1).bind fun t635 => (some (t632, t635, true)))) else (some (([] : List Int), ([] : List Int), false))) = some (r1, r2, r3) := H
 have A2 := Aside0.mk A20
 clear A20
 by_cases c3 : t631 = true
 ·subst c3
  have H1 : ((impl_back.f k l0_0).bind fun t632 => ((slices_Clone_int_int.f l0_1).bind fun t635 => (some (t632, t635, true)))) = some (r1, r2, r3) := by rw [if_pos rfl] at H; exact H
  clear H
  have H := H1
  clear H1
  replace H := Option.bind_eq_some_iff.mp H
  obtain ⟨t632, A40, H⟩ := H
  replace H : ((slices_Clone_int_int.f l0_1).bind fun t635 => (some (t632, t635, true))) = some (r1, r2, r3) := H
  have A4 := Aside0.mk A40
  clear A40
  replace H := Option.bind_eq_some_iff.mp H
  obtain ⟨t635, A50, H⟩ := H
  replace H : (some (t632, t635, true)) = some (r1, r2, r3) := H
  have A5 := Aside0.mk A50
  clear A50
  simp only [Option.some.injEq, Prod.mk.injEq] at H
  obtain ⟨rfl, rfl, rfl⟩ := H
  go_enter Try.func28, Try.ntmps28
  try go_wp2_with (first | ((with_reducible refine gate_dst (N := 1) rfl ?_); refine bE 1 #[.slice A0_0 l0_0.length c0_0, .slice A0_1 l0_1.length c0_1] 25 ?_; intro gb629 hg w6 hbox hb; have BK629 := Aside0.mk (hbox); have GW629 := gS HB hg; have GE629 := gS HB hg; replace HB := bS HB hb; clear hb hbox hg) | ((with_reducible refine gate_dst (N := 2) rfl ?_); refine bE 2 #[.slice none 0 0, .slice none 0 0] 25 ?_; intro gb630 hg w7 hbox hb; have BK630 := Aside0.mk (hbox); have GW630 := gS HB hg; have GE630 := gS HB hg; replace HB := bS HB hb; have NB629_630 := nL BK629 hg; have NB630_629 := nG BK629 hg; replace BK629 := kB BK629 hb; clear hb hbox hg; have hnb8 := NB629_630.out; have hnc8 := NB630_629.out; have hcz9_0 := zc0 BK629; have hcz9_1 := zc1 BK629; have hfz9_0 := blk_frozen BK629.out 0; have hfz9_1 := blk_frozen BK629.out 1) | ((with_reducible refine gate_callee (f := 38) rfl ?_); refine gL (some 5) Try.func38 #[.agg #[.slice A0_0 l0_0.length c0_0, .slice A0_1 l0_1.length c0_1]] ?_; (with_reducible refine (impl_MapValid.calls k (fun k_ => k_ < w.heap.size) _ _ l0_0 (fun k_ => k_ < w.heap.size) _ _ l0_1 true _ ?side1 ?side2 A2.out).mono ?_); (case side1 => exact Kd.V_mk HC0_0.out (Kd.F_below (Kd.C_F (Kd.heap_int .i64) HR0_0.out) (bP HB))); (case side2 => exact Kd.V_mk HC0_1.out (Kd.F_below (Kd.C_F (Kd.heap_int .i64) HR0_1.out) (bP HB))); rintro e w10 ⟨rfl, hb⟩; refine ⟨_, rfl, ?_⟩; replace BK629 := kB BK629 hb; replace BK630 := kB BK630 hb; replace HB := bS HB hb; (try clear hb); (try clear hb2); (try clear hk); (try clear hi)))
  have n0_ := Aside0.mk (blk_drew BK629.out)
  have n1_ := Aside0.mk (blk_drew BK630.out)
  have n2_ := Aside0.mk (below_drew1 HB.out)
  clear BK629
  clear BK630
  clear HB
  have BK629 := n0_
  have BK630 := n1_
  have HB := n2_
  clear n0_ n1_ n2_
  refine start_ (n := 9) (S := fun w' => w'.cell? ⟨gb629, 0, none⟩ = some (.slice A0_0 l0_0.length c0_0) ∧ w'.cell? ⟨gb629, 1, none⟩ = some (.slice A0_1 l0_1.length c0_1)) (ds := []) #[false, false, false, false, false, false, false, false, false] (by kernel_rfl) rfl rfl ⟨(blk_cell BK629.out 0).trans rfl, (blk_cell BK629.out 1).trans rfl⟩ (fun hHeld => ?_); refine with_tabW impl_MapMirror.tab3 impl_MapMirror.bits3 (fun HT_ HW_ => ?_)
  generalize w10.drew = w11 at BK629 BK630 HB hHeld ⊢
  refine pure_ (i := 0) (N := some 8) (v := ?_) (a' := ?_) #[true, false, false, false, false, false, false, false, false] rfl rfl (any_of HT_.out (by kernel_rfl)) (fun _ _ _ h => h) (Or.inl ⟨by rfl, ?_⟩) ?_ ?_
  rotate_left
  ·intro w'
   go_simp
   with_reducible rfl
  rotate_left
  ·simp only [Act.put, List.setIfInBounds_toArray, List.set_cons_zero, List.set_cons_succ, i64_w, i32_w]
   rfl
  refine pure_ (i := 3) (N := some 11) (v := ?_) (a' := ?_) #[true, false, false, true, false, false, false, false, false] rfl rfl (any_of HT_.out (by kernel_rfl)) (fun _ _ _ h => h) (Or.inl ⟨by rfl, ?_⟩) ?_ ?_
  rotate_left
  ·intro w'
   go_simp
   with_reducible rfl
  rotate_left
  ·simp only [Act.put, List.setIfInBounds_toArray, List.set_cons_zero, List.set_cons_succ, i64_w, i32_w]
   rfl
  refine take_ (i := 1) (N := some 9) (v := ?_) (a' := ?_) #[true, true, false, true, false, false, false, false, false] rfl rfl (take_ofW HT_.out HW_.out (by kernel_rfl)) (fun _ _ _ h => h) (Or.inl ⟨by rfl, ?_⟩) hHeld ?_ ?_
  rotate_left
  ·rintro w' ⟨s0, s1⟩
   go_simp
   with_reducible rfl
  rotate_left
  ·simp only [Act.put, List.setIfInBounds_toArray, List.set_cons_zero, List.set_cons_succ, i64_w, i32_w]
   rfl
  refine take_ (i := 4) (N := some 12) (v := ?_) (a' := ?_) #[true, true, false, true, true, false, false, false, false] rfl rfl (take_ofW HT_.out HW_.out (by kernel_rfl)) (fun _ _ _ h => h) (Or.inl ⟨by rfl, ?_⟩) hHeld ?_ ?_
  rotate_left
  ·rintro w' ⟨s0, s1⟩
   go_simp
   with_reducible rfl
  rotate_left
  ·simp only [Act.put, List.setIfInBounds_toArray, List.set_cons_zero, List.set_cons_succ, i64_w, i32_w]
   rfl
  refine one_ (i := 2) (N := some 10) #[true, true, true, true, true, false, false, false, false] rfl rfl (one_of HT_.out (by kernel_rfl)) (by decide) (fun K hK => ?_)
  refine goes_ Try.func53 (by kernel_rfl) rfl #[.slice A0_0 l0_0.length c0_0] (by rfl) rfl rfl (by (try simp only [List.map_toArray, List.map_cons, List.map_nil]); first | done | rfl | (simp only [List.length_drop, List.length_take]; rfl)) ?_
  with_reducible refine (impl_back.calls k _ _ l0_0 t632 _ ?side1 ?side2 A4.out).mono ?_
  (case side1 => exact cB HR0_0 HB)
  (case side2 => exact HC0_0.out)
  rintro e w12 ⟨v633, rfl, ho0, hb⟩
  refine ⟨_, rfl, ?_⟩
  have n0_ := rL ho0 HB
  have n1_ := kB BK629 hb
  have n2_ := kB BK630 hb
  have n3_ := bS HB hb
  clear BK629
  clear BK630
  clear HB
  have HO634 := n0_
  have BK629 := n1_
  have BK630 := n2_
  have HB := n3_
  clear n0_ n1_ n2_ n3_
  (try clear hb)
  (try clear hb2)
  (try clear hk)
  (try clear hi)
  (try clear ho0)
  refine hK.out _ _ ⟨(blk_cell BK629.out 0).trans rfl, (blk_cell BK629.out 1).trans rfl⟩ (fun hHeld => ?_)
  clear hK K
  refine norm_ (a' := ?_) ?_ ?_
  rotate_left
  ·show Act.put _ (some 10) _ = _
   simp only [Act.put, List.setIfInBounds_toArray, List.set_cons_zero, List.set_cons_succ, i64_w, i32_w]
   rfl
  refine one_ (i := 5) (N := some 13) #[true, true, true, true, true, true, false, false, false] rfl rfl (one_of HT_.out (by kernel_rfl)) (by decide) (fun K hK => ?_)
  refine goes_ Try.func48 (by kernel_rfl) rfl #[.slice A0_1 l0_1.length c0_1] (by rfl) rfl rfl (by (try simp only [List.map_toArray, List.map_cons, List.map_nil]); first | done | rfl | (simp only [List.length_drop, List.length_take]; rfl)) ?_
  with_reducible refine (slices_Clone_int_int.calls _ _ l0_1 t635 _ ?side1 ?side2 A5.out).mono ?_
  (case side1 => exact cB HR0_1 HB)
  (case side2 => exact HC0_1.out)
  rintro e w13 ⟨v636, rfl, ho0, hb⟩
  refine ⟨_, rfl, ?_⟩
  have n0_ := Aside0.mk (Kd.R_elder' (rP HO634) (Kd.R_base ho0) hb)
  have n1_ := Aside0.mk (Kd.R_lower (Kd.R_new' ho0 (Kd.R_lt (rP HO634))) (below_size (bP HB)))
  have n2_ := kB BK629 hb
  have n3_ := kB BK630 hb
  have n4_ := bS HB hb
  clear HO634
  clear BK629
  clear BK630
  clear HB
  have HO634 := n0_
  have HO637 := n1_
  have BK629 := n2_
  have BK630 := n3_
  have HB := n4_
  clear n0_ n1_ n2_ n3_ n4_
  (try clear hb)
  (try clear hb2)
  (try clear hk)
  (try clear hi)
  (try clear ho0)
  obtain ⟨Ao14, co14, eo14⟩ := Kd.R_slice HO637.out
  (first | subst eo14 | (injection eo14 with f1_ f2_ f3_; have f4_ := f1_.symm; have f5_ := f3_.symm; clear f1_ f2_ f3_; subst f4_; subst f5_))
  obtain ⟨Ao15, co15, eo15⟩ := Kd.R_slice HO634.out
  (first | subst eo15 | (injection eo15 with f1_ f2_ f3_; have f4_ := f1_.symm; have f5_ := f3_.symm; clear f1_ f2_ f3_; subst f4_; subst f5_))
  refine hK.out _ _ ⟨(blk_cell BK629.out 0).trans rfl, (blk_cell BK629.out 1).trans rfl⟩ (fun hHeld => ?_)
  clear hK K
  refine norm_ (a' := ?_) ?_ ?_
  rotate_left
  ·show Act.put _ (some 13) _ = _
   simp only [Act.put, List.setIfInBounds_toArray, List.set_cons_zero, List.set_cons_succ, i64_w, i32_w]
   rfl
  refine pure_ (i := 6) (N := some 14) (v := ?_) (a' := ?_) #[true, true, true, true, true, true, true, false, false] rfl rfl (any_of HT_.out (by kernel_rfl)) (fun _ _ _ h => h) (Or.inl ⟨by rfl, ?_⟩) ?_ ?_
  rotate_left
  ·intro w'
   go_simp
   with_reducible rfl
  rotate_left
  ·simp only [Act.put, List.setIfInBounds_toArray, List.set_cons_zero, List.set_cons_succ, i64_w, i32_w]
   rfl
  refine one_ (i := 7) (N := none) #[true, true, true, true, true, true, true, true, false] rfl rfl (one_of HT_.out (by kernel_rfl)) (by decide) (fun K hK => ?_)
  have hs16 : w13.cell? ⟨gb630, 0, none⟩ = some (.slice none 0 0) := (blk_cell BK630.out 0).trans rfl
  have hfs16 := blk_frozen BK630.out 0
  have hns16_0 := NB629_630.out
  have hms16_0 := NB630_629.out
  have hs17 : w13.cell? ⟨gb630, 1, none⟩ = some (.slice none 0 0) := (blk_cell BK630.out 1).trans rfl
  have hfs17 := blk_frozen BK630.out 1
  have hns17_0 := NB629_630.out
  have hms17_0 := NB630_629.out
  refine skip_ (w1 := ?_) (by rfl) rfl ?_ ?_
  rotate_left
  ·go_simp
   rfl
  refine hK.out _ _ ⟨((cell_far (p := ⟨gb630, _, none⟩) NB629_630.out _).trans (((cell_far (p := ⟨gb630, _, none⟩) NB629_630.out _).trans (hHeld.1)))), ((cell_far (p := ⟨gb630, _, none⟩) NB629_630.out _).trans (((cell_far (p := ⟨gb630, _, none⟩) NB629_630.out _).trans (hHeld.2))))⟩ (fun hHeld => ?_)
  clear hK K
  refine pure_ (i := 8) (N := some 3) (v := ?_) (a' := ?_) #[true, true, true, true, true, true, true, true, true] rfl rfl (any_of HT_.out (by kernel_rfl)) (fun _ _ _ h => h) (Or.inl ⟨by rfl, ?_⟩) ?_ ?_
  rotate_left
  ·intro w'
   go_simp
   with_reducible rfl
  rotate_left
  ·simp only [Act.put, List.setIfInBounds_toArray, List.set_cons_zero, List.set_cons_succ, i64_w, i32_w]
   rfl
  refine done_ (done_of HT_.out (by kernel_rfl)) ?_
  try go_wp2
  refine bodyPost_ret (results_ct rfl _ _ gb630 25 #[.slice Ao15 t632.length co15, .slice Ao14 t635.length co14] (0, 0) _ rfl (by (with_reducible repeat (first | refine blk_drewN ?_ _ | refine blk_drew ?_ | refine blk_alloc ?_ _)); refine blk_put (cs := #[.slice Ao15 t632.length co15, .slice none 0 0]) ?_ 1 _ rfl; (with_reducible repeat (first | refine blk_drewN ?_ _ | refine blk_drew ?_ | refine blk_alloc ?_ _)); refine blk_put (cs := #[.slice none 0 0, .slice none 0 0]) ?_ 0 _ rfl; (with_reducible repeat (first | refine blk_drewN ?_ _ | refine blk_drew ?_ | refine blk_alloc ?_ _)); exact BK630.out) Try.underlying25 rfl (by kernel_rfl)) rfl ?_
  exact ⟨_, _, eR, by (with_reducible repeat (first | apply Kd.R_alloc | apply Kd.R_drewN | apply Kd.R_drew)); exact Kd.R_mono (Kd.R_far (p := ⟨gb630, 1, none⟩) (Kd.R_far (p := ⟨gb630, 0, none⟩) (Kd.R_types HO634.out BK630.out (by decide)) (fun _ hk => hk.2) (.slice Ao15 t632.length co15)) (fun _ hk => hk.2) (.slice Ao14 t635.length co14)) (fun _ hk => hk.1.2), by (with_reducible repeat (first | apply Kd.R_alloc | apply Kd.R_drewN | apply Kd.R_drew)); exact Kd.R_mono (Kd.R_far (p := ⟨gb630, 1, none⟩) (Kd.R_far (p := ⟨gb630, 0, none⟩) (Kd.R_types HO637.out BK630.out (by decide)) (fun _ hk => hk.2) (.slice Ao15 t632.length co15)) (fun _ hk => hk.2) (.slice Ao14 t635.length co14)) (fun _ hk => hk.1.2), bP HB⟩
 ·replace c3 := Bool.eq_false_iff.mpr c3
  subst c3
  have H1 : (some (([] : List Int), ([] : List Int), false)) = some (r1, r2, r3) := by rw [if_neg (show ¬ (false = true) by decide)] at H; exact H
  clear H
  have H := H1
  clear H1
  simp only [Option.some.injEq, Prod.mk.injEq] at H
  obtain ⟨rfl, rfl, rfl⟩ := H
  go_enter Try.func28, Try.ntmps28
  go_wp2_with (first | ((with_reducible refine gate_dst (N := 1) rfl ?_); refine bE 1 #[.slice A0_0 l0_0.length c0_0, .slice A0_1 l0_1.length c0_1] 25 ?_; intro gb629 hg w18 hbox hb; have BK629 := Aside0.mk (hbox); have GW629 := gS HB hg; have GE629 := gS HB hg; replace HB := bS HB hb; clear hb hbox hg) | ((with_reducible refine gate_dst (N := 2) rfl ?_); refine bE 2 #[.slice none 0 0, .slice none 0 0] 25 ?_; intro gb630 hg w19 hbox hb; have BK630 := Aside0.mk (hbox); have GW630 := gS HB hg; have GE630 := gS HB hg; replace HB := bS HB hb; have NB629_630 := nL BK629 hg; have NB630_629 := nG BK629 hg; replace BK629 := kB BK629 hb; clear hb hbox hg; have hnb20 := NB629_630.out; have hnc20 := NB630_629.out; have hcz21_0 := zc0 BK629; have hcz21_1 := zc1 BK629; have hfz21_0 := blk_frozen BK629.out 0; have hfz21_1 := blk_frozen BK629.out 1) | ((with_reducible refine gate_callee (f := 38) rfl ?_); refine gL (some 5) Try.func38 #[.agg #[.slice A0_0 l0_0.length c0_0, .slice A0_1 l0_1.length c0_1]] ?_; (with_reducible refine (impl_MapValid.calls k (fun k_ => k_ < w.heap.size) _ _ l0_0 (fun k_ => k_ < w.heap.size) _ _ l0_1 false _ ?side1 ?side2 A2.out).mono ?_); (case side1 => exact Kd.V_mk HC0_0.out (Kd.F_below (Kd.C_F (Kd.heap_int .i64) HR0_0.out) (bP HB))); (case side2 => exact Kd.V_mk HC0_1.out (Kd.F_below (Kd.C_F (Kd.heap_int .i64) HR0_1.out) (bP HB))); rintro e w22 ⟨rfl, hb⟩; refine ⟨_, rfl, ?_⟩; replace BK629 := kB BK629 hb; replace BK630 := kB BK630 hb; replace HB := bS HB hb; (try clear hb); (try clear hb2); (try clear hk); (try clear hi); have hcz23_0 := zc0 BK630; have hcz23_1 := zc1 BK630; have hfz23_0 := blk_frozen BK630.out 0; have hfz23_1 := blk_frozen BK630.out 1))
  refine bodyPost_ret (results_ct rfl _ _ gb630 25 #[.slice none 0 0, .slice none 0 0] (0, 0) _ rfl (by (with_reducible repeat (first | refine blk_drewN ?_ _ | refine blk_drew ?_ | refine blk_alloc ?_ _)); refine blk_put (cs := #[.slice none 0 0, .slice none 0 0]) ?_ 1 _ rfl; (with_reducible repeat (first | refine blk_drewN ?_ _ | refine blk_drew ?_ | refine blk_alloc ?_ _)); refine blk_put (cs := #[.slice none 0 0, .slice none 0 0]) ?_ 0 _ rfl; (with_reducible repeat (first | refine blk_drewN ?_ _ | refine blk_drew ?_ | refine blk_alloc ?_ _)); exact BK630.out) Try.underlying25 rfl (by kernel_rfl)) rfl ?_
  exact ⟨_, _, eR, by first | exact Kd.R_nil _ _ _ _ _ | exact Kd.N_nil _ _ _ _ _ | exact Kd.V_nil _ _ _ _ _ | exact Kd.Q_nil _ _ _ _ _ | exact Kd.S_nil _ _ _ _ _, by first | exact Kd.R_nil _ _ _ _ _ | exact Kd.N_nil _ _ _ _ _ | exact Kd.V_nil _ _ _ _ _ | exact Kd.Q_nil _ _ _ _ _ | exact Kd.S_nil _ _ _ _ _, bP HB⟩

end Go.Proofs.Ytihabnfccgjfbaa.F
