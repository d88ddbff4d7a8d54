/- Contracts: what these Go functions return. -/
import Derived.Test.YtihabnfccgjfbaaF0
import Derived.Test.YtihabnfccgjfbaaF12
import Derived.Test.YtihabnfccgjfbaaF25
namespace Go.Proofs.Ytihabnfccgjfbaa.F
open Go.RowKit Go.Proofs.YtihabnfccgjfbaaW.PrintWords Go.Proofs.YtihabnfccgjfbaaW.PrintLast Go.Proofs.YtihabnfccgjfbaaW.PrintMore
attribute [local go_sem] max2_int min2_int max_two min_two max_three min_three max_four min_four
set_option linter.unusedVariables false
set_option linter.unusedSimpArgs false

/-! ### impl_renamed: function 50 -/
def impl_renamed.f (k : Nat) (l0_0 : List Int) (l0_1 : List Int) (l1 : List Int) : Option (List Int × List Int) := (impl_back.f k l1).bind fun t459 => ((impl_mul.f k t459 l0_0).bind fun t462 => ((impl_mul.f k t462 l1).bind fun t465 => ((impl_back.f k l1).bind fun t468 => ((impl_mul.f k t468 l0_1).bind fun t471 => ((impl_mul.f k t471 l1).bind fun t474 => (some (t465, t474)))))))
def impl_renamed.T1 : Bool × List (List Nat × List Nat) := (true, [([], []), ([0], [0]), ([], []), ([2], [2]), ([1, 3, 1], [1, 3]), ([], []), ([4, 5, 4], [4, 5]), ([], []), ([7, 6], [7]), ([], []), ([9], [9]), ([8, 10, 8], [8, 10]), ([], []), ([11, 12, 11], [11, 12]), ([6, 13], [6, 13]), ([14, 13, 0, 1, 2, 3, 4, 5, 6, 7, 8, 9, 10, 11, 12, 13, 14], [14])])
def impl_renamed.B1 : List Nat := [0, 1, 0, 4, 15, 0, 63, 0, 255, 0, 512, 2047, 0, 8191, 16383, 32767]
theorem impl_renamed.tab1 : rtab .any (opsOf Try.f50 1) = impl_renamed.T1 := by kernel_rfl
theorem impl_renamed.bits1 : waitsOk impl_renamed.T1.2 impl_renamed.B1 = true := by kernel_rfl
set_option maxHeartbeats 8000000 in
set_option maxRecDepth 100000 in
theorem impl_renamed.calls (k : Nat) (A0_0 : Option Addr) (c0_0 : Nat) (l0_0 : List Int) (A0_1 : Option Addr) (c0_1 : Nat) (l0_1 : List Int) (A1 : Option Addr) (c1 : Nat) (l1 : List Int) (r1 : List Int) (r2 : List Int) (w : World) (hr0_0 : Kd.C (Kd.int .i64) w A0_0 l0_0.length l0_0) (hc0_0 : l0_0.length ≤ c0_0) (hr0_1 : Kd.C (Kd.int .i64) w A0_1 l0_1.length l0_1) (hc0_1 : l0_1.length ≤ c0_1) (hr1 : Kd.C (Kd.int .i64) w A1 l1.length l1) (hc1 : l1.length ≤ c1) (h : impl_renamed.f k l0_0 l0_1 l1 = some (r1, r2)) :
 Calls Try.prog 50 #[.agg #[.slice A0_0 l0_0.length c0_0, .slice A0_1 l0_1.length c0_1], .slice A1 l1.length c1] w fun e w' => ∃ v0_ v1_ : Value, e = .returned (.agg #[v0_, v1_]) ∧ Kd.R (Kd.int .i64) 3 w' w.heap.size (fun k_ => some k_ ≠ (v1_ : Value).ownBlock) v0_ r1 ∧ Kd.R (Kd.int .i64) 3 w' w.heap.size (fun k_ => some k_ ≠ (v0_ : Value).ownBlock) v1_ r2 ∧ Below w.heap.size w w' := by
 have hu25 := Try.underlying25
 have HR0_0 := Aside0.mk hr0_0
 have HC0_0 := Aside0.mk hc0_0
 clear hr0_0 hc0_0
 have HR0_1 := Aside0.mk hr0_1
 have HC0_1 := Aside0.mk hc0_1
 clear hr0_1 hc0_1
 have HR1 := Aside0.mk hr1
 have HC1 := Aside0.mk hc1
 clear hr1 hc1
 have HB := Aside0.mk (Below.refl w.heap.size w)
 have H : ((impl_back.f k l1).bind fun t459 => ((impl_mul.f k t459 l0_0).bind fun t462 => ((impl_mul.f k t462 l1).bind fun t465 => ((impl_back.f k l1).bind fun t468 => ((impl_mul.f k t468 l0_1).bind fun t471 => ((impl_mul.f k t471 l1).bind fun t474 => (some (t465, t474)))))))) = some (r1, r2) := h
 clear h
 replace H := Option.bind_eq_some_iff.mp H
 obtain ⟨t459, A30, H⟩ := H
 replace H : ((impl_mul.f k t459 l0_0).bind fun t462 => ((impl_mul.f k t462 l1).bind fun t465 => ((impl_back.f k l1).bind fun t468 => ((impl_mul.f k t468 l0_1).bind fun t471 => ((impl_mul.f k t471 l1).bind fun t474 => (some (t465, t474))))))) = some (r1, r2) := H
 have A3 := Aside0.mk A30
 clear A30
 replace H := Option.bind_eq_some_iff.mp H
 obtain ⟨t462, A40, H⟩ := H
 replace H : ((impl_mul.f k t462 l1).bind fun t465 => ((impl_back.f k l1).bind fun t468 => ((impl_mul.f k t468 l0_1).bind fun t471 => ((impl_mul.f k t471 l1).bind fun t474 => (some (t465, t474)))))) = some (r1, r2) := H
 have A4 := Aside0.mk A40
 clear A40
 replace H := Option.bind_eq_some_iff.mp H
 obtain ⟨t465, A50, H⟩ := H
 replace H : ((impl_back.f k l1).bind fun t468 => ((impl_mul.f k t468 l0_1).bind fun t471 => ((impl_mul.f k t471 l1).bind fun t474 => (some (t465, t474))))) = some (r1, r2) := H
 have A5 := Aside0.mk A50
 clear A50
 replace H := Option.bind_eq_some_iff.mp H
 obtain ⟨t468, A60, H⟩ := H
 replace H : ((impl_mul.f k t468 l0_1).bind fun t471 => ((impl_mul.f k t471 l1).bind fun t474 => (some (t465, t474)))) = some (r1, r2) := H
 have A6 := Aside0.mk A60
 clear A60
 replace H := Option.bind_eq_some_iff.mp H
 obtain ⟨t471, A70, H⟩ := H
 replace H : ((impl_mul.f k t471 l1).bind fun t474 => (some (t465, t474))) = some (r1, r2) := H
 have A7 := Aside0.mk A70
 clear A70
 replace H := Option.bind_eq_some_iff.mp H
 obtain ⟨t474, A80, H⟩ := H
 replace H : (some (t465, t474)) = some (r1, r2) := H
 have A8 := Aside0.mk A80
 clear A80
 simp only [Option.some.injEq, Prod.mk.injEq] at H
 obtain ⟨rfl, rfl⟩ := H
 go_enter Try.func50, Try.ntmps50
 try go_wp2_with (first | ((with_reducible refine gate_dst (N := 2) rfl ?_); refine bE 2 #[.slice A0_0 l0_0.length c0_0, .slice A0_1 l0_1.length c0_1] 25 ?_; intro gb457 hg w9 hbox hb; have BK457 := Aside0.mk (hbox); have GW457 := gS HB hg; have GE457 := gS HB hg; replace HB := bS HB hb; clear hb hbox hg) | ((with_reducible refine gate_dst (N := 4) rfl ?_); refine bE 4 #[.slice none 0 0, .slice none 0 0] 25 ?_; intro gb458 hg w10 hbox hb; have BK458 := Aside0.mk (hbox); have GW458 := gS HB hg; have GE458 := gS HB hg; replace HB := bS HB hb; have NB457_458 := nL BK457 hg; have NB458_457 := nG BK457 hg; replace BK457 := kB BK457 hb; clear hb hbox hg))
 replace BK457 := Aside0.mk (blk_drew BK457.out)
 replace BK458 := Aside0.mk (blk_drew BK458.out)
 replace HB := Aside0.mk (below_drew1 HB.out)
 refine start_ (n := 16) (S := fun w' => w'.cell? ⟨gb457, 0, none⟩ = some (.slice A0_0 l0_0.length c0_0) ∧ w'.cell? ⟨gb457, 1, none⟩ = some (.slice A0_1 l0_1.length c0_1)) (ds := []) #[false, false, false, false, false, false, false, false, false, false, false, false, false, false, false, false] (by kernel_rfl) rfl rfl ⟨(blk_cell BK457.out 0).trans rfl, (blk_cell BK457.out 1).trans rfl⟩ (fun hHeld => ?_); refine with_tabW impl_renamed.tab1 impl_renamed.bits1 (fun HT_ HW_ => ?_)
 generalize w10.drew = w11 at BK457 BK458 HB hHeld ⊢
 refine pure_ (i := 0) (N := some 5) (v := ?_) (a' := ?_) #[true, false, false, false, false, false, false, false, false, false, false, false, false, false, false, false] rfl rfl (any_of HT_.out (by kernel_rfl)) (fun _ _ _ h => h) (Or.inl ⟨by rfl, ?_⟩) ?_ ?_
 rotate_left
 ·intro w'
  go_simp
  with_reducible rfl
 rotate_left
 ·simp only [Act.put, List.setIfInBounds_toArray, List.set_cons_zero, List.set_cons_succ, i64_w, i32_w]
  rfl
 refine pure_ (i := 2) (N := some 7) (v := ?_) (a' := ?_) #[true, false, true, false, false, false, false, false, false, false, false, false, false, false, false, false] rfl rfl (any_of HT_.out (by kernel_rfl)) (fun _ _ _ h => h) (Or.inl ⟨by rfl, ?_⟩) ?_ ?_
 rotate_left
 ·intro w'
  go_simp
  with_reducible rfl
 rotate_left
 ·simp only [Act.put, List.setIfInBounds_toArray, List.set_cons_zero, List.set_cons_succ, i64_w, i32_w]
  rfl
 refine pure_ (i := 5) (N := some 10) (v := ?_) (a' := ?_) #[true, false, true, false, false, true, false, false, false, false, false, false, false, false, false, false] rfl rfl (any_of HT_.out (by kernel_rfl)) (fun _ _ _ h => h) (Or.inl ⟨by rfl, ?_⟩) ?_ ?_
 rotate_left
 ·intro w'
  go_simp
  with_reducible rfl
 rotate_left
 ·simp only [Act.put, List.setIfInBounds_toArray, List.set_cons_zero, List.set_cons_succ, i64_w, i32_w]
  rfl
 refine pure_ (i := 7) (N := some 12) (v := ?_) (a' := ?_) #[true, false, true, false, false, true, false, true, false, false, false, false, false, false, false, false] rfl rfl (any_of HT_.out (by kernel_rfl)) (fun _ _ _ h => h) (Or.inl ⟨by rfl, ?_⟩) ?_ ?_
 rotate_left
 ·intro w'
  go_simp
  with_reducible rfl
 rotate_left
 ·simp only [Act.put, List.setIfInBounds_toArray, List.set_cons_zero, List.set_cons_succ, i64_w, i32_w]
  rfl
 refine pure_ (i := 9) (N := some 14) (v := ?_) (a' := ?_) #[true, false, true, false, false, true, false, true, false, true, false, false, false, false, false, false] rfl rfl (any_of HT_.out (by kernel_rfl)) (fun _ _ _ h => h) (Or.inl ⟨by rfl, ?_⟩) ?_ ?_
 rotate_left
 ·intro w'
  go_simp
  with_reducible rfl
 rotate_left
 ·simp only [Act.put, List.setIfInBounds_toArray, List.set_cons_zero, List.set_cons_succ, i64_w, i32_w]
  rfl
 refine pure_ (i := 12) (N := some 17) (v := ?_) (a' := ?_) #[true, false, true, false, false, true, false, true, false, true, false, false, true, false, false, false] rfl rfl (any_of HT_.out (by kernel_rfl)) (fun _ _ _ h => h) (Or.inl ⟨by rfl, ?_⟩) ?_ ?_
 rotate_left
 ·intro w'
  go_simp
  with_reducible rfl
 rotate_left
 ·simp only [Act.put, List.setIfInBounds_toArray, List.set_cons_zero, List.set_cons_succ, i64_w, i32_w]
  rfl
 refine take_ (i := 3) (N := some 8) (v := ?_) (a' := ?_) #[true, false, true, true, false, true, false, true, false, true, false, false, true, false, false, false] rfl rfl (take_ofW HT_.out HW_.out (by kernel_rfl)) (fun _ _ _ h => h) (Or.inl ⟨by rfl, ?_⟩) hHeld ?_ ?_
 rotate_left
 ·rintro w' ⟨s0, s1⟩
  go_simp
  with_reducible rfl
 rotate_left
 ·simp only [Act.put, List.setIfInBounds_toArray, List.set_cons_zero, List.set_cons_succ, i64_w, i32_w]
  rfl
 refine take_ (i := 10) (N := some 15) (v := ?_) (a' := ?_) #[true, false, true, true, false, true, false, true, false, true, true, false, true, false, false, false] rfl rfl (take_ofW HT_.out HW_.out (by kernel_rfl)) (fun _ _ _ h => h) (Or.inl ⟨by rfl, ?_⟩) hHeld ?_ ?_
 rotate_left
 ·rintro w' ⟨s0, s1⟩
  go_simp
  with_reducible rfl
 rotate_left
 ·simp only [Act.put, List.setIfInBounds_toArray, List.set_cons_zero, List.set_cons_succ, i64_w, i32_w]
  rfl
 refine one_ (i := 1) (N := some 6) #[true, true, true, true, false, true, false, true, false, true, true, false, true, false, false, false] rfl rfl (one_of HT_.out (by kernel_rfl)) (by decide) (fun K hK => ?_)
 refine goes_ Try.func53 (by kernel_rfl) rfl #[.slice A1 l1.length c1] (by rfl) rfl rfl (by (try simp only [List.map_toArray, List.map_cons, List.map_nil]); first | done | rfl | (simp only [List.length_drop, List.length_take]; rfl)) ?_
 with_reducible refine (impl_back.calls k _ _ l1 t459 _ ?side1 ?side2 A3.out).mono ?_
 (case side1 => exact cB HR1 HB)
 (case side2 => exact HC1.out)
 rintro e w12 ⟨v460, rfl, ho0, hb⟩
 refine ⟨_, rfl, ?_⟩
 have HO461 := rL ho0 HB
 replace BK457 := kB BK457 hb
 replace BK458 := kB BK458 hb
 replace HB := bS HB hb
 (try clear hb)
 (try clear hb2)
 (try clear hk)
 (try clear hi)
 (try clear ho0)
 obtain ⟨Ao13, co13, eo13⟩ := Kd.R_slice HO461.out
 (first | subst eo13 | (injection eo13 with f1_ f2_ f3_; have f4_ := f1_.symm; have f5_ := f3_.symm; clear f1_ f2_ f3_; subst f4_; subst f5_))
 refine hK.out _ _ ⟨(blk_cell BK457.out 0).trans rfl, (blk_cell BK457.out 1).trans rfl⟩ (fun hHeld => ?_)
 clear hK K
 refine norm_ (a' := ?_) ?_ ?_
 rotate_left
 ·show Act.put _ (some 6) _ = _
  simp only [Act.put, List.setIfInBounds_toArray, List.set_cons_zero, List.set_cons_succ, i64_w, i32_w]
  rfl
 refine one_ (i := 4) (N := some 9) #[true, true, true, true, true, true, false, true, false, true, true, false, true, false, false, false] rfl rfl (one_of HT_.out (by kernel_rfl)) (by decide) (fun K hK => ?_)
 refine goes_ Try.func39 (by kernel_rfl) rfl #[.slice Ao13 t459.length co13, .slice A0_0 l0_0.length c0_0] (by rfl) rfl rfl (by (try simp only [List.map_toArray, List.map_cons, List.map_nil]); first | done | rfl | (simp only [List.length_drop, List.length_take]; rfl)) ?_
 with_reducible refine (impl_mul.calls k _ _ t459 _ _ l0_0 t462 _ ?side1 ?side2 ?side3 ?side4 A4.out).mono ?_
 (case side1 => exact cP (Kd.R_reads' HO461.out).2.2)
 (case side2 => exact (Kd.R_reads' HO461.out).2.1)
 (case side3 => exact cB HR0_0 HB)
 (case side4 => exact HC0_0.out)
 rintro e w14 ⟨v463, rfl, ho0, hb⟩
 refine ⟨_, rfl, ?_⟩
 have HO464 := Aside0.mk (Kd.R_lower (Kd.R_new' ho0 (Kd.R_lt (rP HO461))) (below_size (bP HB)))
 replace HO461 := Aside0.mk (Kd.R_elder' (rP HO461) (Kd.R_base ho0) hb)
 replace BK457 := kB BK457 hb
 replace BK458 := kB BK458 hb
 replace HB := bS HB hb
 (try clear hb)
 (try clear hb2)
 (try clear hk)
 (try clear hi)
 (try clear ho0)
 obtain ⟨Ao15, co15, eo15⟩ := Kd.R_slice HO464.out
 (first | subst eo15 | (injection eo15 with f1_ f2_ f3_; have f4_ := f1_.symm; have f5_ := f3_.symm; clear f1_ f2_ f3_; subst f4_; subst f5_))
 refine hK.out _ _ ⟨(blk_cell BK457.out 0).trans rfl, (blk_cell BK457.out 1).trans rfl⟩ (fun hHeld => ?_)
 clear hK K
 refine norm_ (a' := ?_) ?_ ?_
 rotate_left
 ·show Act.put _ (some 9) _ = _
  simp only [Act.put, List.setIfInBounds_toArray, List.set_cons_zero, List.set_cons_succ, i64_w, i32_w]
  rfl
 refine one_ (i := 6) (N := some 11) #[true, true, true, true, true, true, true, true, false, true, true, false, true, false, false, false] rfl rfl (one_of HT_.out (by kernel_rfl)) (by decide) (fun K hK => ?_)
 refine goes_ Try.func39 (by kernel_rfl) rfl #[.slice Ao15 t462.length co15, .slice A1 l1.length c1] (by rfl) rfl rfl (by (try simp only [List.map_toArray, List.map_cons, List.map_nil]); first | done | rfl | (simp only [List.length_drop, List.length_take]; rfl)) ?_
 with_reducible refine (impl_mul.calls k _ _ t462 _ _ l1 t465 _ ?side1 ?side2 ?side3 ?side4 A5.out).mono ?_
 (case side1 => exact cP (Kd.R_reads' HO464.out).2.2)
 (case side2 => exact (Kd.R_reads' HO464.out).2.1)
 (case side3 => exact cB HR1 HB)
 (case side4 => exact HC1.out)
 rintro e w16 ⟨v466, rfl, ho0, hb⟩
 refine ⟨_, rfl, ?_⟩
 have HO467 := Aside0.mk (Kd.R_lower (Kd.R_new' (Kd.R_new' ho0 (Kd.R_lt (rP HO461))) (Kd.R_lt (rP HO464))) (below_size (bP HB)))
 replace HO461 := Aside0.mk (Kd.R_elder' (rP HO461) (Kd.R_base ho0) hb)
 replace HO464 := Aside0.mk (Kd.R_elder' (rP HO464) (Kd.R_base ho0) hb)
 replace BK457 := kB BK457 hb
 replace BK458 := kB BK458 hb
 replace HB := bS HB hb
 (try clear hb)
 (try clear hb2)
 (try clear hk)
 (try clear hi)
 (try clear ho0)
 refine hK.out _ _ ⟨(blk_cell BK457.out 0).trans rfl, (blk_cell BK457.out 1).trans rfl⟩ (fun hHeld => ?_)
 clear hK K
 refine norm_ (a' := ?_) ?_ ?_
 rotate_left
 ·show Act.put _ (some 11) _ = _
  simp only [Act.put, List.setIfInBounds_toArray, List.set_cons_zero, List.set_cons_succ, i64_w, i32_w]
  rfl
 refine one_ (i := 8) (N := some 13) #[true, true, true, true, true, true, true, true, true, true, true, false, true, false, false, false] rfl rfl (one_of HT_.out (by kernel_rfl)) (by decide) (fun K hK => ?_)
 refine goes_ Try.func53 (by kernel_rfl) rfl #[.slice A1 l1.length c1] (by rfl) rfl rfl (by (try simp only [List.map_toArray, List.map_cons, List.map_nil]); first | done | rfl | (simp only [List.length_drop, List.length_take]; rfl)) ?_
 with_reducible refine (impl_back.calls k _ _ l1 t468 _ ?side1 ?side2 A6.out).mono ?_
 (case side1 => exact cB HR1 HB)
 (case side2 => exact HC1.out)
 rintro e w17 ⟨v469, rfl, ho0, hb⟩
 refine ⟨_, rfl, ?_⟩
 have HO470 := Aside0.mk (Kd.R_lower (Kd.R_new' (Kd.R_new' (Kd.R_new' ho0 (Kd.R_lt (rP HO461))) (Kd.R_lt (rP HO464))) (Kd.R_lt (rP HO467))) (below_size (bP HB)))
 replace HO461 := Aside0.mk (Kd.R_elder' (rP HO461) (Kd.R_base ho0) hb)
 replace HO464 := Aside0.mk (Kd.R_elder' (rP HO464) (Kd.R_base ho0) hb)
 replace HO467 := Aside0.mk (Kd.R_elder' (rP HO467) (Kd.R_base ho0) hb)
 replace BK457 := kB BK457 hb
 replace BK458 := kB BK458 hb
 replace HB := bS HB hb
 (try clear hb)
 (try clear hb2)
 (try clear hk)
 (try clear hi)
 (try clear ho0)
 obtain ⟨Ao18, co18, eo18⟩ := Kd.R_slice HO470.out
 (first | subst eo18 | (injection eo18 with f1_ f2_ f3_; have f4_ := f1_.symm; have f5_ := f3_.symm; clear f1_ f2_ f3_; subst f4_; subst f5_))
 refine hK.out _ _ ⟨(blk_cell BK457.out 0).trans rfl, (blk_cell BK457.out 1).trans rfl⟩ (fun hHeld => ?_)
 clear hK K
 refine norm_ (a' := ?_) ?_ ?_
 rotate_left
 ·show Act.put _ (some 13) _ = _
  simp only [Act.put, List.setIfInBounds_toArray, List.set_cons_zero, List.set_cons_succ, i64_w, i32_w]
  rfl
 refine one_ (i := 11) (N := some 16) #[true, true, true, true, true, true, true, true, true, true, true, true, true, false, false, false] rfl rfl (one_of HT_.out (by kernel_rfl)) (by decide) (fun K hK => ?_)
 refine goes_ Try.func39 (by kernel_rfl) rfl #[.slice Ao18 t468.length co18, .slice A0_1 l0_1.length c0_1] (by rfl) rfl rfl (by (try simp only [List.map_toArray, List.map_cons, List.map_nil]); first | done | rfl | (simp only [List.length_drop, List.length_take]; rfl)) ?_
 with_reducible refine (impl_mul.calls k _ _ t468 _ _ l0_1 t471 _ ?side1 ?side2 ?side3 ?side4 A7.out).mono ?_
 (case side1 => exact cP (Kd.R_reads' HO470.out).2.2)
 (case side2 => exact (Kd.R_reads' HO470.out).2.1)
 (case side3 => exact cB HR0_1 HB)
 (case side4 => exact HC0_1.out)
 rintro e w19 ⟨v472, rfl, ho0, hb⟩
 refine ⟨_, rfl, ?_⟩
 have HO473 := Aside0.mk (Kd.R_lower (Kd.R_new' (Kd.R_new' (Kd.R_new' (Kd.R_new' ho0 (Kd.R_lt (rP HO461))) (Kd.R_lt (rP HO464))) (Kd.R_lt (rP HO467))) (Kd.R_lt (rP HO470))) (below_size (bP HB)))
 replace HO461 := Aside0.mk (Kd.R_elder' (rP HO461) (Kd.R_base ho0) hb)
 replace HO464 := Aside0.mk (Kd.R_elder' (rP HO464) (Kd.R_base ho0) hb)
 replace HO467 := Aside0.mk (Kd.R_elder' (rP HO467) (Kd.R_base ho0) hb)
 replace HO470 := Aside0.mk (Kd.R_elder' (rP HO470) (Kd.R_base ho0) hb)
 replace BK457 := kB BK457 hb
 replace BK458 := kB BK458 hb
 replace HB := bS HB hb
 (try clear hb)
 (try clear hb2)
 (try clear hk)
 (try clear hi)
 (try clear ho0)
 obtain ⟨Ao20, co20, eo20⟩ := Kd.R_slice HO473.out
 (first | subst eo20 | (injection eo20 with f1_ f2_ f3_; have f4_ := f1_.symm; have f5_ := f3_.symm; clear f1_ f2_ f3_; subst f4_; subst f5_))
 refine hK.out _ _ ⟨(blk_cell BK457.out 0).trans rfl, (blk_cell BK457.out 1).trans rfl⟩ (fun hHeld => ?_)
 clear hK K
 refine norm_ (a' := ?_) ?_ ?_
 rotate_left
 ·show Act.put _ (some 16) _ = _
  simp only [Act.put, List.setIfInBounds_toArray, List.set_cons_zero, List.set_cons_succ, i64_w, i32_w]
  rfl
 refine one_ (i := 13) (N := some 18) #[true, true, true, true, true, true, true, true, true, true, true, true, true, true, false, false] rfl rfl (one_of HT_.out (by kernel_rfl)) (by decide) (fun K hK => ?_)
 refine goes_ Try.func39 (by kernel_rfl) rfl #[.slice Ao20 t471.length co20, .slice A1 l1.length c1] (by rfl) rfl rfl (by (try simp only [List.map_toArray, List.map_cons, List.map_nil]); first | done | rfl | (simp only [List.length_drop, List.length_take]; rfl)) ?_
 with_reducible refine (impl_mul.calls k _ _ t471 _ _ l1 t474 _ ?side1 ?side2 ?side3 ?side4 A8.out).mono ?_
 (case side1 => exact cP (Kd.R_reads' HO473.out).2.2)
 (case side2 => exact (Kd.R_reads' HO473.out).2.1)
 (case side3 => exact cB HR1 HB)
 (case side4 => exact HC1.out)
 rintro e w21 ⟨v475, rfl, ho0, hb⟩
 refine ⟨_, rfl, ?_⟩
 have HO476 := Aside0.mk (Kd.R_lower (Kd.R_new' (Kd.R_new' (Kd.R_new' (Kd.R_new' (Kd.R_new' ho0 (Kd.R_lt (rP HO461))) (Kd.R_lt (rP HO464))) (Kd.R_lt (rP HO467))) (Kd.R_lt (rP HO470))) (Kd.R_lt (rP HO473))) (below_size (bP HB)))
 replace HO461 := Aside0.mk (Kd.R_elder' (rP HO461) (Kd.R_base ho0) hb)
 replace HO464 := Aside0.mk (Kd.R_elder' (rP HO464) (Kd.R_base ho0) hb)
 replace HO467 := Aside0.mk (Kd.R_elder' (rP HO467) (Kd.R_base ho0) hb)
 replace HO470 := Aside0.mk (Kd.R_elder' (rP HO470) (Kd.R_base ho0) hb)
 replace HO473 := Aside0.mk (Kd.R_elder' (rP HO473) (Kd.R_base ho0) hb)
 replace BK457 := kB BK457 hb
 replace BK458 := kB BK458 hb
 replace HB := bS HB hb
 (try clear hb)
 (try clear hb2)
 (try clear hk)
 (try clear hi)
 (try clear ho0)
 obtain ⟨Ao22, co22, eo22⟩ := Kd.R_slice HO476.out
 (first | subst eo22 | (injection eo22 with f1_ f2_ f3_; have f4_ := f1_.symm; have f5_ := f3_.symm; clear f1_ f2_ f3_; subst f4_; subst f5_))
 obtain ⟨Ao23, co23, eo23⟩ := Kd.R_slice HO467.out
 (first | subst eo23 | (injection eo23 with f1_ f2_ f3_; have f4_ := f1_.symm; have f5_ := f3_.symm; clear f1_ f2_ f3_; subst f4_; subst f5_))
 refine hK.out _ _ ⟨(blk_cell BK457.out 0).trans rfl, (blk_cell BK457.out 1).trans rfl⟩ (fun hHeld => ?_)
 clear hK K
 refine norm_ (a' := ?_) ?_ ?_
 rotate_left
 ·show Act.put _ (some 18) _ = _
  simp only [Act.put, List.setIfInBounds_toArray, List.set_cons_zero, List.set_cons_succ, i64_w, i32_w]
  rfl
 refine pure_ (i := 14) (N := some 19) (v := ?_) (a' := ?_) #[true, true, true, true, true, true, true, true, true, true, true, true, true, true, true, false] rfl rfl (any_of HT_.out (by kernel_rfl)) (fun _ _ _ h => h) (Or.inl ⟨by rfl, ?_⟩) ?_ ?_
 rotate_left
 ·intro w'
  go_simp
  with_reducible rfl
 rotate_left
 ·simp only [Act.put, List.setIfInBounds_toArray, List.set_cons_zero, List.set_cons_succ, i64_w, i32_w]
  rfl
 refine one_ (i := 15) (N := none) #[true, true, true, true, true, true, true, true, true, true, true, true, true, true, true, true] rfl rfl (one_of HT_.out (by kernel_rfl)) (by decide) (fun K hK => ?_)
 have hs24 : w21.cell? ⟨gb458, 0, none⟩ = some (.slice none 0 0) := (blk_cell BK458.out 0).trans rfl
 have hfs24 := blk_frozen BK458.out 0
 have hns24_0 := NB457_458.out
 have hms24_0 := NB458_457.out
 have hs25 : w21.cell? ⟨gb458, 1, none⟩ = some (.slice none 0 0) := (blk_cell BK458.out 1).trans rfl
 have hfs25 := blk_frozen BK458.out 1
 have hns25_0 := NB457_458.out
 have hms25_0 := NB458_457.out
 refine skip_ (w1 := ?_) (by rfl) rfl ?_ ?_
 rotate_left
 ·go_simp
  rfl
 refine hK.out _ _ ⟨((cell_far (p := ⟨gb458, _, none⟩) NB457_458.out _).trans (((cell_far (p := ⟨gb458, _, none⟩) NB457_458.out _).trans (hHeld.1)))), ((cell_far (p := ⟨gb458, _, none⟩) NB457_458.out _).trans (((cell_far (p := ⟨gb458, _, none⟩) NB457_458.out _).trans (hHeld.2))))⟩ (fun hHeld => ?_)
 clear hK K
 refine done_ (done_of HT_.out (by kernel_rfl)) ?_
 try go_wp2
 refine bodyPost_ret (results_cell_row rfl _ _ gb458 25 #[.slice Ao23 t465.length co23, .slice Ao22 t474.length co22] (0, 0) _ rfl (by (with_reducible repeat (first | refine blk_drewN ?_ _ | refine blk_drew ?_ | refine blk_alloc ?_ _)); refine blk_put (cs := #[.slice Ao23 t465.length co23, .slice none 0 0]) ?_ 1 _ rfl; (with_reducible repeat (first | refine blk_drewN ?_ _ | refine blk_drew ?_ | refine blk_alloc ?_ _)); refine blk_put (cs := #[.slice none 0 0, .slice none 0 0]) ?_ 0 _ rfl; (with_reducible repeat (first | refine blk_drewN ?_ _ | refine blk_drew ?_ | refine blk_alloc ?_ _)); exact BK458.out) Try.underlying25 rfl (by kernel_rfl)) rfl ?_
 exact ⟨_, _, eR, rT (Kd.R_mono (rF gb458 1 (rF gb458 0 (rY HO467 BK458) (.slice Ao23 t465.length co23)) (.slice Ao22 t474.length co22)) (fun _ hk => hk.1.2)), rT (Kd.R_mono (rF gb458 1 (rF gb458 0 (rY HO476 BK458) (.slice Ao23 t465.length co23)) (.slice Ao22 t474.length co22)) (fun _ hk => hk.1.1.1.2)), bP HB⟩

end Go.Proofs.Ytihabnfccgjfbaa.F
