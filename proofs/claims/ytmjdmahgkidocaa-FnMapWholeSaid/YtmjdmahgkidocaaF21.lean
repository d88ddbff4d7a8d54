/- Contracts: what these Go functions return. -/
import Derived.Test.YtmjdmahgkidocaaF0
import Derived.Test.YtmjdmahgkidocaaF6
import Derived.Test.YtmjdmahgkidocaaF19
namespace Go.Proofs.Ytmjdmahgkidocaa.F
open Go.RowKit Go.Proofs.YtmjdmahgkidocaaW.PrintWords Go.Proofs.YtmjdmahgkidocaaW.PrintLast Go.Proofs.YtmjdmahgkidocaaW.PrintMore
attribute [local go_sem] max2_int min2_int max_two min_two max_three min_three max_four min_four
set_option linter.unusedVariables false
set_option linter.unusedSimpArgs false

/-! ### impl_renamed: function 35 -/
def impl_renamed.f (k : Nat) (l0_0 : List Int) (l0_1 : List Int) (l1 : List Int) : Option (List Int × List Int) := (impl_back.f k l1).bind fun t298 => ((impl_mul.f k t298 l0_0).bind fun t301 => ((impl_mul.f k t301 l1).bind fun t304 => ((impl_back.f k l1).bind fun t307 => ((impl_mul.f k t307 l0_1).bind fun t310 => ((impl_mul.f k t310 l1).bind fun t313 => (some (t304, t313)))))))
def impl_renamed.T1 : Bool × List (List Nat × List Nat) := (true, [([], []), ([0], [0]), ([], []), ([2], [2]), ([1, 3, 1], [1, 3]), ([], []), ([4, 5, 4], [4, 5]), ([], []), ([7, 6], [7]), ([], []), ([9], [9]), ([8, 10, 8], [8, 10]), ([], []), ([11, 12, 11], [11, 12]), ([6, 13], [6, 13]), ([14, 13, 0, 1, 2, 3, 4, 5, 6, 7, 8, 9, 10, 11, 12, 13, 14], [14])])
def impl_renamed.B1 : List Nat := [0, 1, 0, 4, 15, 0, 63, 0, 255, 0, 512, 2047, 0, 8191, 16383, 32767]
theorem impl_renamed.tab1 : rtab .any (opsOf Try.f35 1) = impl_renamed.T1 := by kernel_rfl
theorem impl_renamed.bits1 : waitsOk impl_renamed.T1.2 impl_renamed.B1 = true := by kernel_rfl
set_option maxHeartbeats 8000000 in
set_option maxRecDepth 100000 in
theorem impl_renamed.calls (k : Nat) (A0_0 : Option Addr) (c0_0 : Nat) (l0_0 : List Int) (A0_1 : Option Addr) (c0_1 : Nat) (l0_1 : List Int) (A1 : Option Addr) (c1 : Nat) (l1 : List Int) (r1 : List Int) (r2 : List Int) (w : World) (hr0_0 : Kd.C (Kd.int .i64) w A0_0 l0_0.length l0_0) (hc0_0 : l0_0.length ≤ c0_0) (hr0_1 : Kd.C (Kd.int .i64) w A0_1 l0_1.length l0_1) (hc0_1 : l0_1.length ≤ c0_1) (hr1 : Kd.C (Kd.int .i64) w A1 l1.length l1) (hc1 : l1.length ≤ c1) (h : impl_renamed.f k l0_0 l0_1 l1 = some (r1, r2)) :
 Calls Try.prog 35 #[.agg #[.slice A0_0 l0_0.length c0_0, .slice A0_1 l0_1.length c0_1], .slice A1 l1.length c1] w fun e w' => ∃ v0_ v1_ : Value, e = .returned (.agg #[v0_, v1_]) ∧ Kd.R (Kd.int .i64) 3 w' w.heap.size (fun k_ => some k_ ≠ (v1_ : Value).ownBlock) v0_ r1 ∧ Kd.R (Kd.int .i64) 3 w' w.heap.size (fun k_ => some k_ ≠ (v0_ : Value).ownBlock) v1_ r2 ∧ Below w.heap.size w w' := by
 have hu24 := Try.underlying24
 have HR0_0 := Aside0.mk hr0_0
 have HC0_0 := Aside0.mk hc0_0
 clear hr0_0 hc0_0
 have HR0_1 := Aside0.mk hr0_1
 have HC0_1 := Aside0.mk hc0_1
 clear hr0_1 hc0_1
 have HR1 := Aside0.mk hr1
 have HC1 := Aside0.mk hc1
 clear hr1 hc1
 have HB := Aside0.mk (Below.refl w.heap.size w)
 have H : ((impl_back.f k l1).bind fun t298 => ((impl_mul.f k t298 l0_0).bind fun t301 => ((impl_mul.f k t301 l1).bind fun t304 => ((impl_back.f k l1).bind fun t307 => ((impl_mul.f k t307 l0_1).bind fun t310 => ((impl_mul.f k t310 l1).bind fun t313 => (some (t304, t313)))))))) = some (r1, r2) := h
 clear h
 obtain ⟨t298, A30, H⟩ := Option.bind_eq_some_iff.mp H
 have A3 := Aside0.mk A30
 clear A30
 obtain ⟨t301, A40, H⟩ := Option.bind_eq_some_iff.mp H
 have A4 := Aside0.mk A40
 clear A40
 obtain ⟨t304, A50, H⟩ := Option.bind_eq_some_iff.mp H
 have A5 := Aside0.mk A50
 clear A50
 obtain ⟨t307, A60, H⟩ := Option.bind_eq_some_iff.mp H
 have A6 := Aside0.mk A60
 clear A60
 obtain ⟨t310, A70, H⟩ := Option.bind_eq_some_iff.mp H
 have A7 := Aside0.mk A70
 clear A70
 obtain ⟨t313, A80, H⟩ := Option.bind_eq_some_iff.mp H
 have A8 := Aside0.mk A80
 clear A80
 simp only [Option.some.injEq, Prod.mk.injEq] at H
 obtain ⟨rfl, rfl⟩ := H
 go_enter Try.func35, Try.ntmps35
 try go_wp2_with (first | ((with_reducible refine gate_dst (N := 2) rfl ?_); refine bE 2 #[.slice A0_0 l0_0.length c0_0, .slice A0_1 l0_1.length c0_1] 24 ?_; intro gb296 hg w9 hbox hb; have BK296 := Aside0.mk (hbox); have GW296 := gS HB hg; have GE296 := gS HB hg; replace HB := bS HB hb; clear hb hbox hg) | ((with_reducible refine gate_dst (N := 4) rfl ?_); refine bE 4 #[.slice none 0 0, .slice none 0 0] 24 ?_; intro gb297 hg w10 hbox hb; have BK297 := Aside0.mk (hbox); have GW297 := gS HB hg; have GE297 := gS HB hg; replace HB := bS HB hb; have NB296_297 := nL BK296 hg; have NB297_296 := nG BK296 hg; replace BK296 := kB BK296 hb; clear hb hbox hg))
 replace BK296 := Aside0.mk (blk_drew BK296.out)
 replace BK297 := Aside0.mk (blk_drew BK297.out)
 replace HB := Aside0.mk (below_drew1 HB.out)
 refine start_ (n := 16) (S := fun w' => w'.cell? ⟨gb296, 0, none⟩ = some (.slice A0_0 l0_0.length c0_0) ∧ w'.cell? ⟨gb296, 1, none⟩ = some (.slice A0_1 l0_1.length c0_1)) (ds := []) (tf 0 16) (by kernel_rfl) rfl rfl ⟨(blk_cell BK296.out 0).trans rfl, (blk_cell BK296.out 1).trans rfl⟩ (fun hHeld => ?_); refine with_tabW impl_renamed.tab1 impl_renamed.bits1 (fun HT_ HW_ => ?_)
 generalize w10.drew = w11 at BK296 BK297 HB hHeld ⊢
 refine pV 0 5 (tf 1 15) HT_ ?_
 refine pV 2 7 (tB 16 5) HT_ ?_
 refine pV 5 10 (tB 16 37) HT_ ?_
 refine pV 7 12 (tB 16 165) HT_ ?_
 refine pV 9 14 (tB 16 677) HT_ ?_
 refine pV 12 17 (tB 16 4773) HT_ ?_
 refine tV 3 8 (tB 16 4781) HT_ HW_ hHeld ?_
 refine tV 10 15 (tB 16 5805) HT_ HW_ hHeld ?_
 refine eN 1 (some 6) (tB 16 5807) HT_ (fun K hK => ?_)
 refine goes_ Try.func34 (by kernel_rfl) rfl #[.slice A1 l1.length c1] (by rfl) rfl rfl (by (try simp only [List.map_toArray, List.map_cons, List.map_nil]); first | done | rfl | (simp only [List.length_drop, List.length_take]; rfl)) ?_
 with_reducible refine (impl_back.calls k _ _ l1 t298 _ ?side1 ?side2 A3.out).mono ?_
 (case side1 => exact cB HR1 HB)
 (case side2 => exact HC1.out)
 rintro e w12 ⟨v299, rfl, ho0, hb⟩
 refine ⟨_, rfl, ?_⟩
 have HO300 := rL ho0 HB
 replace BK296 := kB BK296 hb
 replace BK297 := kB BK297 hb
 replace HB := bS HB hb
 (try clear hb)
 (try clear hb2)
 (try clear hk)
 (try clear hi)
 (try clear ho0)
 obtain ⟨Ao13, co13, eo13⟩ := Kd.R_slice HO300.out
 (first | subst eo13 | (injection eo13 with f1_ f2_ f3_; have f4_ := f1_.symm; have f5_ := f3_.symm; clear f1_ f2_ f3_; subst f4_; subst f5_))
 refine hK.out _ _ ⟨(blk_cell BK296.out 0).trans rfl, (blk_cell BK296.out 1).trans rfl⟩ (fun hHeld => ?_)
 clear hK K
 refine norm_ (a' := ?_) ?_ ?_
 rotate_left
 ·show Act.put _ (some 6) _ = _
  simp only [Act.put, List.setIfInBounds_toArray, List.set_cons_zero, List.set_cons_succ, i64_w, i32_w]
  rfl
 refine eN 4 (some 9) (tB 16 5823) HT_ (fun K hK => ?_)
 refine goes_ Try.func28 (by kernel_rfl) rfl #[.slice Ao13 t298.length co13, .slice A0_0 l0_0.length c0_0] (by rfl) rfl rfl (by (try simp only [List.map_toArray, List.map_cons, List.map_nil]); first | done | rfl | (simp only [List.length_drop, List.length_take]; rfl)) ?_
 with_reducible refine (impl_mul.calls k _ _ t298 _ _ l0_0 t301 _ ?side1 ?side2 ?side3 ?side4 A4.out).mono ?_
 (case side1 => exact cP (Kd.R_reads' HO300.out).2.2)
 (case side2 => exact (Kd.R_reads' HO300.out).2.1)
 (case side3 => exact cB HR0_0 HB)
 (case side4 => exact HC0_0.out)
 rintro e w14 ⟨v302, rfl, ho0, hb⟩
 refine ⟨_, rfl, ?_⟩
 have HO303 := Aside0.mk (Kd.R_lower (Kd.R_new' ho0 (Kd.R_lt (rP HO300))) (below_size (bP HB)))
 replace HO300 := Aside0.mk (Kd.R_elder' (rP HO300) (Kd.R_base ho0) hb)
 replace BK296 := kB BK296 hb
 replace BK297 := kB BK297 hb
 replace HB := bS HB hb
 (try clear hb)
 (try clear hb2)
 (try clear hk)
 (try clear hi)
 (try clear ho0)
 obtain ⟨Ao15, co15, eo15⟩ := Kd.R_slice HO303.out
 (first | subst eo15 | (injection eo15 with f1_ f2_ f3_; have f4_ := f1_.symm; have f5_ := f3_.symm; clear f1_ f2_ f3_; subst f4_; subst f5_))
 refine hK.out _ _ ⟨(blk_cell BK296.out 0).trans rfl, (blk_cell BK296.out 1).trans rfl⟩ (fun hHeld => ?_)
 clear hK K
 refine norm_ (a' := ?_) ?_ ?_
 rotate_left
 ·show Act.put _ (some 9) _ = _
  simp only [Act.put, List.setIfInBounds_toArray, List.set_cons_zero, List.set_cons_succ, i64_w, i32_w]
  rfl
 refine eN 6 (some 11) (tB 16 5887) HT_ (fun K hK => ?_)
 refine goes_ Try.func28 (by kernel_rfl) rfl #[.slice Ao15 t301.length co15, .slice A1 l1.length c1] (by rfl) rfl rfl (by (try simp only [List.map_toArray, List.map_cons, List.map_nil]); first | done | rfl | (simp only [List.length_drop, List.length_take]; rfl)) ?_
 with_reducible refine (impl_mul.calls k _ _ t301 _ _ l1 t304 _ ?side1 ?side2 ?side3 ?side4 A5.out).mono ?_
 (case side1 => exact cP (Kd.R_reads' HO303.out).2.2)
 (case side2 => exact (Kd.R_reads' HO303.out).2.1)
 (case side3 => exact cB HR1 HB)
 (case side4 => exact HC1.out)
 rintro e w16 ⟨v305, rfl, ho0, hb⟩
 refine ⟨_, rfl, ?_⟩
 have HO306 := Aside0.mk (Kd.R_lower (Kd.R_new' (Kd.R_new' ho0 (Kd.R_lt (rP HO300))) (Kd.R_lt (rP HO303))) (below_size (bP HB)))
 replace HO300 := Aside0.mk (Kd.R_elder' (rP HO300) (Kd.R_base ho0) hb)
 replace HO303 := Aside0.mk (Kd.R_elder' (rP HO303) (Kd.R_base ho0) hb)
 replace BK296 := kB BK296 hb
 replace BK297 := kB BK297 hb
 replace HB := bS HB hb
 (try clear hb)
 (try clear hb2)
 (try clear hk)
 (try clear hi)
 (try clear ho0)
 refine hK.out _ _ ⟨(blk_cell BK296.out 0).trans rfl, (blk_cell BK296.out 1).trans rfl⟩ (fun hHeld => ?_)
 clear hK K
 refine norm_ (a' := ?_) ?_ ?_
 rotate_left
 ·show Act.put _ (some 11) _ = _
  simp only [Act.put, List.setIfInBounds_toArray, List.set_cons_zero, List.set_cons_succ, i64_w, i32_w]
  rfl
 refine eN 8 (some 13) (tB 16 6143) HT_ (fun K hK => ?_)
 refine goes_ Try.func34 (by kernel_rfl) rfl #[.slice A1 l1.length c1] (by rfl) rfl rfl (by (try simp only [List.map_toArray, List.map_cons, List.map_nil]); first | done | rfl | (simp only [List.length_drop, List.length_take]; rfl)) ?_
 with_reducible refine (impl_back.calls k _ _ l1 t307 _ ?side1 ?side2 A6.out).mono ?_
 (case side1 => exact cB HR1 HB)
 (case side2 => exact HC1.out)
 rintro e w17 ⟨v308, rfl, ho0, hb⟩
 refine ⟨_, rfl, ?_⟩
 have HO309 := Aside0.mk (Kd.R_lower (Kd.R_new' (Kd.R_new' (Kd.R_new' ho0 (Kd.R_lt (rP HO300))) (Kd.R_lt (rP HO303))) (Kd.R_lt (rP HO306))) (below_size (bP HB)))
 replace HO300 := Aside0.mk (Kd.R_elder' (rP HO300) (Kd.R_base ho0) hb)
 replace HO303 := Aside0.mk (Kd.R_elder' (rP HO303) (Kd.R_base ho0) hb)
 replace HO306 := Aside0.mk (Kd.R_elder' (rP HO306) (Kd.R_base ho0) hb)
 replace BK296 := kB BK296 hb
 replace BK297 := kB BK297 hb
 replace HB := bS HB hb
 (try clear hb)
 (try clear hb2)
 (try clear hk)
 (try clear hi)
 (try clear ho0)
 obtain ⟨Ao18, co18, eo18⟩ := Kd.R_slice HO309.out
 (first | subst eo18 | (injection eo18 with f1_ f2_ f3_; have f4_ := f1_.symm; have f5_ := f3_.symm; clear f1_ f2_ f3_; subst f4_; subst f5_))
 refine hK.out _ _ ⟨(blk_cell BK296.out 0).trans rfl, (blk_cell BK296.out 1).trans rfl⟩ (fun hHeld => ?_)
 clear hK K
 refine norm_ (a' := ?_) ?_ ?_
 rotate_left
 ·show Act.put _ (some 13) _ = _
  simp only [Act.put, List.setIfInBounds_toArray, List.set_cons_zero, List.set_cons_succ, i64_w, i32_w]
  rfl
 refine eN 11 (some 16) (tf 13 3) HT_ (fun K hK => ?_)
 refine goes_ Try.func28 (by kernel_rfl) rfl #[.slice Ao18 t307.length co18, .slice A0_1 l0_1.length c0_1] (by rfl) rfl rfl (by (try simp only [List.map_toArray, List.map_cons, List.map_nil]); first | done | rfl | (simp only [List.length_drop, List.length_take]; rfl)) ?_
 with_reducible refine (impl_mul.calls k _ _ t307 _ _ l0_1 t310 _ ?side1 ?side2 ?side3 ?side4 A7.out).mono ?_
 (case side1 => exact cP (Kd.R_reads' HO309.out).2.2)
 (case side2 => exact (Kd.R_reads' HO309.out).2.1)
 (case side3 => exact cB HR0_1 HB)
 (case side4 => exact HC0_1.out)
 rintro e w19 ⟨v311, rfl, ho0, hb⟩
 refine ⟨_, rfl, ?_⟩
 have HO312 := Aside0.mk (Kd.R_lower (Kd.R_new' (Kd.R_new' (Kd.R_new' (Kd.R_new' ho0 (Kd.R_lt (rP HO300))) (Kd.R_lt (rP HO303))) (Kd.R_lt (rP HO306))) (Kd.R_lt (rP HO309))) (below_size (bP HB)))
 replace HO300 := Aside0.mk (Kd.R_elder' (rP HO300) (Kd.R_base ho0) hb)
 replace HO303 := Aside0.mk (Kd.R_elder' (rP HO303) (Kd.R_base ho0) hb)
 replace HO306 := Aside0.mk (Kd.R_elder' (rP HO306) (Kd.R_base ho0) hb)
 replace HO309 := Aside0.mk (Kd.R_elder' (rP HO309) (Kd.R_base ho0) hb)
 replace BK296 := kB BK296 hb
 replace BK297 := kB BK297 hb
 replace HB := bS HB hb
 (try clear hb)
 (try clear hb2)
 (try clear hk)
 (try clear hi)
 (try clear ho0)
 obtain ⟨Ao20, co20, eo20⟩ := Kd.R_slice HO312.out
 (first | subst eo20 | (injection eo20 with f1_ f2_ f3_; have f4_ := f1_.symm; have f5_ := f3_.symm; clear f1_ f2_ f3_; subst f4_; subst f5_))
 refine hK.out _ _ ⟨(blk_cell BK296.out 0).trans rfl, (blk_cell BK296.out 1).trans rfl⟩ (fun hHeld => ?_)
 clear hK K
 refine norm_ (a' := ?_) ?_ ?_
 rotate_left
 ·show Act.put _ (some 16) _ = _
  simp only [Act.put, List.setIfInBounds_toArray, List.set_cons_zero, List.set_cons_succ, i64_w, i32_w]
  rfl
 refine eN 13 (some 18) (tf 14 2) HT_ (fun K hK => ?_)
 refine goes_ Try.func28 (by kernel_rfl) rfl #[.slice Ao20 t310.length co20, .slice A1 l1.length c1] (by rfl) rfl rfl (by (try simp only [List.map_toArray, List.map_cons, List.map_nil]); first | done | rfl | (simp only [List.length_drop, List.length_take]; rfl)) ?_
 with_reducible refine (impl_mul.calls k _ _ t310 _ _ l1 t313 _ ?side1 ?side2 ?side3 ?side4 A8.out).mono ?_
 (case side1 => exact cP (Kd.R_reads' HO312.out).2.2)
 (case side2 => exact (Kd.R_reads' HO312.out).2.1)
 (case side3 => exact cB HR1 HB)
 (case side4 => exact HC1.out)
 rintro e w21 ⟨v314, rfl, ho0, hb⟩
 refine ⟨_, rfl, ?_⟩
 have HO315 := Aside0.mk (Kd.R_lower (Kd.R_new' (Kd.R_new' (Kd.R_new' (Kd.R_new' (Kd.R_new' ho0 (Kd.R_lt (rP HO300))) (Kd.R_lt (rP HO303))) (Kd.R_lt (rP HO306))) (Kd.R_lt (rP HO309))) (Kd.R_lt (rP HO312))) (below_size (bP HB)))
 replace HO300 := Aside0.mk (Kd.R_elder' (rP HO300) (Kd.R_base ho0) hb)
 replace HO303 := Aside0.mk (Kd.R_elder' (rP HO303) (Kd.R_base ho0) hb)
 replace HO306 := Aside0.mk (Kd.R_elder' (rP HO306) (Kd.R_base ho0) hb)
 replace HO309 := Aside0.mk (Kd.R_elder' (rP HO309) (Kd.R_base ho0) hb)
 replace HO312 := Aside0.mk (Kd.R_elder' (rP HO312) (Kd.R_base ho0) hb)
 replace BK296 := kB BK296 hb
 replace BK297 := kB BK297 hb
 replace HB := bS HB hb
 (try clear hb)
 (try clear hb2)
 (try clear hk)
 (try clear hi)
 (try clear ho0)
 obtain ⟨Ao22, co22, eo22⟩ := Kd.R_slice HO315.out
 (first | subst eo22 | (injection eo22 with f1_ f2_ f3_; have f4_ := f1_.symm; have f5_ := f3_.symm; clear f1_ f2_ f3_; subst f4_; subst f5_))
 obtain ⟨Ao23, co23, eo23⟩ := Kd.R_slice HO306.out
 (first | subst eo23 | (injection eo23 with f1_ f2_ f3_; have f4_ := f1_.symm; have f5_ := f3_.symm; clear f1_ f2_ f3_; subst f4_; subst f5_))
 refine hK.out _ _ ⟨(blk_cell BK296.out 0).trans rfl, (blk_cell BK296.out 1).trans rfl⟩ (fun hHeld => ?_)
 clear hK K
 refine norm_ (a' := ?_) ?_ ?_
 rotate_left
 ·show Act.put _ (some 18) _ = _
  simp only [Act.put, List.setIfInBounds_toArray, List.set_cons_zero, List.set_cons_succ, i64_w, i32_w]
  rfl
 refine pV 14 19 (tf 15 1) HT_ ?_
 refine eN 15 none (tf 16 0) HT_ (fun K hK => ?_)
 have hs24 : w21.cell? ⟨gb297, 0, none⟩ = some (.slice none 0 0) := (blk_cell BK297.out 0).trans rfl
 have hfs24 := blk_frozen BK297.out 0
 have hns24_0 := NB296_297.out
 have hms24_0 := NB297_296.out
 have hs25 : w21.cell? ⟨gb297, 1, none⟩ = some (.slice none 0 0) := (blk_cell BK297.out 1).trans rfl
 have hfs25 := blk_frozen BK297.out 1
 have hns25_0 := NB296_297.out
 have hms25_0 := NB297_296.out
 refine skip_ (w1 := ?_) (by rfl) rfl ?_ ?_
 rotate_left
 ·go_simp
  rfl
 refine hK.out _ _ ⟨((cell_far (p := ⟨gb297, _, none⟩) NB296_297.out _).trans (((cell_far (p := ⟨gb297, _, none⟩) NB296_297.out _).trans (hHeld.1)))), ((cell_far (p := ⟨gb297, _, none⟩) NB296_297.out _).trans (((cell_far (p := ⟨gb297, _, none⟩) NB296_297.out _).trans (hHeld.2))))⟩ (fun hHeld => ?_)
 clear hK K
 refine done_ (done_of HT_.out (by kernel_rfl)) ?_
 try go_wp2
 refine bodyPost_ret (results_cell_row rfl _ _ gb297 24 #[.slice Ao23 t304.length co23, .slice Ao22 t313.length co22] (0, 0) _ rfl (by (with_reducible repeat (first | refine blk_drewN ?_ _ | refine blk_drew ?_ | refine blk_alloc ?_ _)); refine blk_put (cs := #[.slice Ao23 t304.length co23, .slice none 0 0]) ?_ 1 _ rfl; (with_reducible repeat (first | refine blk_drewN ?_ _ | refine blk_drew ?_ | refine blk_alloc ?_ _)); refine blk_put (cs := #[.slice none 0 0, .slice none 0 0]) ?_ 0 _ rfl; (with_reducible repeat (first | refine blk_drewN ?_ _ | refine blk_drew ?_ | refine blk_alloc ?_ _)); exact BK297.out) Try.underlying24 rfl (by kernel_rfl)) rfl ?_
 exact ⟨_, _, eR, rT (Kd.R_mono (rF gb297 1 (rF gb297 0 (rY HO306 BK297) (.slice Ao23 t304.length co23)) (.slice Ao22 t313.length co22)) (fun _ hk => hk.1.2)), rT (Kd.R_mono (rF gb297 1 (rF gb297 0 (rY HO315 BK297) (.slice Ao23 t304.length co23)) (.slice Ao22 t313.length co22)) (fun _ hk => hk.1.1.1.2)), bP HB⟩

end Go.Proofs.Ytmjdmahgkidocaa.F
