/- Contracts: what these Go functions return. -/
import Derived.Test.YtajmkjeiegdpcaaF0
import Derived.Test.YtajmkjeiegdpcaaF27
import Derived.Test.YtajmkjeiegdpcaaF34
import Derived.Test.YtajmkjeiegdpcaaF36
namespace Go.Proofs.Ytajmkjeiegdpcaa.F
open Go.RowKit Go.Proofs.YtajmkjeiegdpcaaW.PrintWords Go.Proofs.YtajmkjeiegdpcaaW.PrintLast Go.Proofs.YtajmkjeiegdpcaaW.PrintMore
attribute [local go_sem] max2_int min2_int max_two min_two max_three min_three max_four min_four
set_option linter.unusedVariables false
set_option linter.unusedSimpArgs false

/-! ### impl_leastForm: function 48 -/
def impl_leastForm.l0 : Nat → Int → Int → List Int → List Int → List Int → List Int → Option (List Int × List Int)
 | 0, _, _, _, _, _, _ => none
 | k + 1, x12, x13, x674000, x674001, x685000, x685001 => if x13 < x12 then ((impl_namesFrom.f k x674000 x674001 x13).bind fun t685 => ((impl_renamed.f k x674000 x674001 t685).bind fun bt688 => ((impl_compareMaps.f k bt688.1 bt688.2 x685000 x685001).bind fun t695 => (if t695 < 0 then (impl_leastForm.l0 k x12 (wrap64 (x13 + 1)) x674000 x674001 bt688.1 bt688.2) else (impl_leastForm.l0 k x12 (wrap64 (x13 + 1)) x674000 x674001 x685000 x685001))))) else (some (x685000, x685001))
def impl_leastForm.f (k : Nat) (l0_0 : List Int) (l0_1 : List Int) : Option (List Int × List Int) := (impl_namesFrom.f k l0_0 l0_1 0).bind fun t675 => ((impl_renamed.f k l0_0 l0_1 t675).bind fun bt678 => (impl_leastForm.l0 k (l0_0.length : Int) 0 l0_0 l0_1 bt678.1 bt678.2))
theorem impl_leastForm.mono_l : ∀ k, (∀ y0 y1 y2 y3 y4 y5, LeO (impl_leastForm.l0 k y0 y1 y2 y3 y4 y5) (impl_leastForm.l0 (k + 1) y0 y1 y2 y3 y4 y5))
 | 0 => fun _ _ _ _ _ _ r h => by simp [impl_leastForm.l0] at h
 | k + 1 => by
  have ih0 := impl_leastForm.mono_l k
  ·intro y0 y1 y2 y3 y4 y5
   unfold impl_leastForm.l0
   repeat' first
   | (with_reducible exact ih0 _ _ _ _ _ _)
   | (with_reducible exact impl_compareMaps.mono _ _ _ _ _)
   | (with_reducible exact impl_namesFrom.mono _ _ _ _)
   | (with_reducible exact impl_renamed.mono _ _ _ _)
   | (with_reducible exact LeO.refl _)
   | (with_reducible exact LeO.none _)
   | (with_reducible refine LeO.ite ?_ ?_)
   | (with_reducible refine LeO.bind ?_ (fun _ => ?_))
   | exact ih0 _ _ _ _ _ _
   | exact impl_compareMaps.mono _ _ _ _ _
   | exact impl_namesFrom.mono _ _ _ _
   | exact impl_renamed.mono _ _ _ _
   | exact LeO.none _
   | refine LeO.ite ?_ ?_
   | refine LeO.bind ?_ (fun _ => ?_)
theorem impl_leastForm.mono : ∀ a0 a1 k, LeO (impl_leastForm.f k a0 a1) (impl_leastForm.f (k + 1) a0 a1) := by
 intro a0 a1 k
 have ih0 := impl_leastForm.mono_l k
 unfold impl_leastForm.f
 repeat' first
  | (with_reducible exact ih0 _ _ _ _ _ _)
  | (with_reducible exact impl_compareMaps.mono _ _ _ _ _)
  | (with_reducible exact impl_namesFrom.mono _ _ _ _)
  | (with_reducible exact impl_renamed.mono _ _ _ _)
  | (with_reducible exact LeO.refl _)
  | (with_reducible exact LeO.none _)
  | (with_reducible refine LeO.ite ?_ ?_)
  | (with_reducible refine LeO.bind ?_ (fun _ => ?_))
  | exact ih0 _ _ _ _ _ _
  | exact impl_compareMaps.mono _ _ _ _ _
  | exact impl_namesFrom.mono _ _ _ _
  | exact impl_renamed.mono _ _ _ _
  | exact LeO.none _
  | refine LeO.ite ?_ ?_
  | refine LeO.bind ?_ (fun _ => ?_)
set_option maxHeartbeats 8000000 in
set_option maxRecDepth 100000 in
theorem impl_leastForm.calls (k : Nat) (A0_0 : Option Addr) (c0_0 : Nat) (l0_0 : List Int) (A0_1 : Option Addr) (c0_1 : Nat) (l0_1 : List Int) (r1 : List Int) (r2 : List Int) (w : World) (hr0_0 : Kd.C (Kd.int .i64) w A0_0 l0_0.length l0_0) (hc0_0 : l0_0.length ≤ c0_0) (hr0_1 : Kd.C (Kd.int .i64) w A0_1 l0_1.length l0_1) (hc0_1 : l0_1.length ≤ c0_1) (h : impl_leastForm.f k l0_0 l0_1 = some (r1, r2)) :
 Calls Try.prog 48 #[.agg #[.slice A0_0 l0_0.length c0_0, .slice A0_1 l0_1.length c0_1]] w fun e w' => ∃ v0_ v1_ : Value, e = .returned (.agg #[v0_, v1_]) ∧ Kd.R (Kd.int .i64) 3 w' w.heap.size (fun k_ => some k_ ≠ (v1_ : Value).ownBlock) v0_ r1 ∧ Kd.R (Kd.int .i64) 3 w' w.heap.size (fun k_ => some k_ ≠ (v0_ : Value).ownBlock) v1_ r2 ∧ Below w.heap.size w w' := by
 have hu40 := Try.underlying40
 have HR0_0 := Aside0.mk hr0_0
 have HC0_0 := Aside0.mk hc0_0
 clear hr0_0 hc0_0
 have HR0_1 := Aside0.mk hr0_1
 have HC0_1 := Aside0.mk hc0_1
 clear hr0_1 hc0_1
 have HB := Aside0.mk (Below.refl w.heap.size w)
 have H : ((impl_namesFrom.f k l0_0 l0_1 0).bind fun t675 => ((impl_renamed.f k l0_0 l0_1 t675).bind fun bt678 => (impl_leastForm.l0 k (l0_0.length : Int) 0 l0_0 l0_1 bt678.1 bt678.2))) = some (r1, r2) := h
 clear h
 replace H := Option.bind_eq_some_iff.mp H
 obtain ⟨t675, A20, H⟩ := H
 replace H : ((impl_renamed.f k l0_0 l0_1 t675).bind fun bt678 => (impl_leastForm.l0 k (l0_0.length : Int) 0 l0_0 l0_1 bt678.1 bt678.2)) = some (r1, r2) := H
 have A2 := Aside0.mk A20
 clear A20
 replace H := Option.bind_eq_some_iff.mp H
 obtain ⟨⟨t678, t681⟩, A30, H⟩ := H
 replace H : (impl_leastForm.l0 k (l0_0.length : Int) 0 l0_0 l0_1 t678 t681) = some (r1, r2) := H
 have A3 := Aside0.mk A30
 clear A30
 have H' := Aside0.mk H
 clear H
 go_enter Try.func48, Try.ntmps48
 try go_wp2_with (first | ((with_reducible refine gate_dst (N := 1) rfl ?_); refine bE 1 #[.slice A0_0 l0_0.length c0_0, .slice A0_1 l0_1.length c0_1] 40 ?_; intro gb673 hg w4 hbox hb; have BK673 := Aside0.mk (hbox); have GW673 := gS HB hg; have GE673 := gS HB hg; replace HB := bS HB hb; clear hb hbox hg) | ((with_reducible refine gate_dst (N := 2) rfl ?_); refine bE 2 #[.slice none 0 0, .slice none 0 0] 40 ?_; intro gb674 hg w5 hbox hb; have BK674 := Aside0.mk (hbox); have GW674 := gS HB hg; have GE674 := gS HB hg; replace HB := bS HB hb; have NB673_674 := nL BK673 hg; have NB674_673 := nG BK673 hg; replace BK673 := kB BK673 hb; clear hb hbox hg))
 have n0_ := Aside0.mk (blk_drew BK673.out)
 have n1_ := Aside0.mk (blk_drew BK674.out)
 have n2_ := Aside0.mk (below_drew1 HB.out)
 clear BK673
 clear BK674
 clear HB
 have BK673 := n0_
 have BK674 := n1_
 have HB := n2_
 clear n0_ n1_ n2_
 refine start_ (n := 6) (S := fun w' => w'.cell? ⟨gb673, 0, none⟩ = some (.slice A0_0 l0_0.length c0_0) ∧ w'.cell? ⟨gb673, 1, none⟩ = some (.slice A0_1 l0_1.length c0_1)) (ds := []) #[false, false, false, false, false, false] (by kernel_rfl) rfl rfl ⟨(blk_cell BK673.out 0).trans rfl, (blk_cell BK673.out 1).trans rfl⟩ (fun hHeld => ?_)
 generalize w5.drew = w6 at BK673 BK674 HB hHeld ⊢
 refine take_ (i := 0) (N := some 6) (v := ?_) (a' := ?_) #[true, false, false, false, false, false] rfl rfl (by kernel_rfl) (fun _ _ _ h => h) (Or.inl ⟨by rfl, ?_⟩) hHeld ?_ ?_
 rotate_left
 ·rintro w' ⟨s0, s1⟩
  go_simp
  with_reducible rfl
 rotate_left
 ·simp only [Act.put, List.setIfInBounds_toArray, List.set_cons_zero, List.set_cons_succ, i64_w, i32_w]
  rfl
 refine take_ (i := 1) (N := some 7) (v := ?_) (a' := ?_) #[true, true, false, false, false, false] rfl rfl (by kernel_rfl) (fun _ _ _ h => h) (Or.inl ⟨by rfl, ?_⟩) hHeld ?_ ?_
 rotate_left
 ·rintro w' ⟨s0, s1⟩
  go_simp
  with_reducible rfl
 rotate_left
 ·simp only [Act.put, List.setIfInBounds_toArray, List.set_cons_zero, List.set_cons_succ, i64_w, i32_w]
  rfl
 refine join_ (σ := Value × Value × Value × Nat) 1 #[true, true, true, true, true, false] (fun s_ => [(8, s_.1), (9, .agg #[s_.2.1, s_.2.2.1]), (3, .pointer (some ⟨s_.2.2.2, 0, none⟩))]) (fun s_ w' => (w'.cell? ⟨gb673, 0, none⟩ = some (.slice A0_0 l0_0.length c0_0) ∧ w'.cell? ⟨gb673, 1, none⟩ = some (.slice A0_1 l0_1.length c0_1)) ∧ (Kd.R (Kd.int .i64) 3 w' w.heap.size (fun k_ => some k_ ≠ (s_.2.1 : Value).ownBlock ∧ some k_ ≠ (s_.2.2.1 : Value).ownBlock) s_.1 t675) ∧ (Kd.R (Kd.int .i64) 3 w' w.heap.size (fun k_ => some k_ ≠ (s_.1 : Value).ownBlock ∧ some k_ ≠ (s_.2.2.1 : Value).ownBlock) s_.2.1 t678) ∧ (Kd.R (Kd.int .i64) 3 w' w.heap.size (fun k_ => some k_ ≠ (s_.1 : Value).ownBlock ∧ some k_ ≠ (s_.2.1 : Value).ownBlock) s_.2.2.1 t681) ∧ (w'.heap[gb673]? = some (.cells #[.slice A0_0 l0_0.length c0_0, .slice A0_1 l0_1.length c0_1] 40 (0, 0))) ∧ (w'.heap[gb674]? = some (.cells #[.slice none 0 0, .slice none 0 0] 40 (0, 0))) ∧ (w'.heap[s_.2.2.2]? = some (.cells #[.slice none 0 0, .slice none 0 0] 40 (0, 0))) ∧ (w.heap.size ≤ s_.2.2.2) ∧ (w.heap.size ≤ s_.2.2.2) ∧ (gb673 ≠ s_.2.2.2) ∧ (s_.2.2.2 ≠ gb673) ∧ (gb674 ≠ s_.2.2.2) ∧ (s_.2.2.2 ≠ gb674) ∧ (Below w.heap.size w w')) ?_ ?_
 rotate_left
 ·intro hCont
  refine two_ (i := 2) (j := 4) (Ni := some 8) (Nj := some 3) #[true, true, true, false, false, false] #[true, true, false, false, true, false] rfl rfl rfl rfl (by kernel_rfl) (by decide) (by decide) (fun K hK => ?_) (fun K hK => ?_)
  ·skip
   refine goes_ Try.func61 (by kernel_rfl) rfl #[.agg #[.slice A0_0 l0_0.length c0_0, .slice A0_1 l0_1.length c0_1], .int .i64 0] (by rfl) rfl rfl (by (try simp only [List.map_toArray, List.map_cons, List.map_nil]); first | done | rfl | (simp only [List.length_drop, List.length_take]; rfl)) ?_
   with_reducible refine (impl_namesFrom.calls k _ _ l0_0 _ _ l0_1 0 t675 _ ?side1 ?side2 ?side3 ?side4 A2.out).mono ?_
   (case side1 => exact cB HR0_0 HB)
   (case side2 => exact HC0_0.out)
   (case side3 => exact cB HR0_1 HB)
   (case side4 => exact HC0_1.out)
   rintro e w7 ⟨v676, rfl, ho0, hb⟩
   refine ⟨_, rfl, ?_⟩
   have n0_ := rL ho0 HB
   have n1_ := kB BK673 hb
   have n2_ := kB BK674 hb
   have n3_ := bS HB hb
   clear BK673
   clear BK674
   clear HB
   have HO677 := n0_
   have BK673 := n1_
   have BK674 := n2_
   have HB := n3_
   clear n0_ n1_ n2_ n3_
   (try clear hb)
   (try clear hb2)
   (try clear hk)
   (try clear hi)
   (try clear ho0)
   obtain ⟨Ao8, co8, eo8⟩ := Kd.R_slice HO677.out
   (first | subst eo8 | (injection eo8 with f1_ f2_ f3_; have f4_ := f1_.symm; have f5_ := f3_.symm; clear f1_ f2_ f3_; subst f4_; subst f5_))
   refine hK.out _ _ ⟨(blk_cell BK673.out 0).trans rfl, (blk_cell BK673.out 1).trans rfl⟩ (fun hHeld => ?_)
   clear hK K
   refine norm_ (a' := ?_) ?_ ?_
   rotate_left
   ·show Act.put _ (some 8) _ = _
    simp only [Act.put, List.setIfInBounds_toArray, List.set_cons_zero, List.set_cons_succ, i64_w, i32_w]
    rfl
   refine two_ (i := 3) (j := 4) (Ni := some 9) (Nj := some 3) #[true, true, true, true, false, false] #[true, true, true, false, true, false] rfl rfl rfl rfl (by kernel_rfl) (by decide) (by decide) (fun K hK => ?_) (fun K hK => ?_)
   ·skip
    refine goes_ Try.func46 (by kernel_rfl) rfl #[.agg #[.slice A0_0 l0_0.length c0_0, .slice A0_1 l0_1.length c0_1], .slice Ao8 t675.length co8] (by rfl) rfl rfl (by (try simp only [List.map_toArray, List.map_cons, List.map_nil]); first | done | rfl | (simp only [List.length_drop, List.length_take]; rfl)) ?_
    with_reducible refine (impl_renamed.calls k _ _ l0_0 _ _ l0_1 _ _ t675 t678 t681 _ ?side1 ?side2 ?side3 ?side4 ?side5 ?side6 A3.out).mono ?_
    (case side1 => exact cB HR0_0 HB)
    (case side2 => exact HC0_0.out)
    (case side3 => exact cB HR0_1 HB)
    (case side4 => exact HC0_1.out)
    (case side5 => exact cP (Kd.R_reads' HO677.out).2.2)
    (case side6 => exact (Kd.R_reads' HO677.out).2.1)
    rintro e w9 ⟨v679, v682, rfl, ho0, ho1, hb⟩
    refine ⟨_, rfl, ?_⟩
    have n0_ := Aside0.mk (Kd.R_mono (Kd.R_told (Kd.R_told (Kd.R_old (rP HO677) hb) (Kd.R_base ho0)) (Kd.R_base ho1)) (fun _ h_ => h_.1))
    have n1_ := Aside0.mk (Kd.R_lower (Kd.R_new' ho0 (Kd.R_lt (rP HO677))) (below_size (bP HB)))
    have n2_ := Aside0.mk (Kd.R_lower (Kd.R_new' ho1 (Kd.R_lt (rP HO677))) (below_size (bP HB)))
    have n3_ := kB BK673 hb
    have n4_ := kB BK674 hb
    have n5_ := bS HB hb
    clear HO677
    clear BK673
    clear BK674
    clear HB
    have HO677 := n0_
    have HO680 := n1_
    have HO683 := n2_
    have BK673 := n3_
    have BK674 := n4_
    have HB := n5_
    clear n0_ n1_ n2_ n3_ n4_ n5_
    (try clear hb)
    (try clear hb2)
    (try clear hk)
    (try clear hi)
    (try clear ho0)
    (try clear ho1)
    refine hK.out _ _ ⟨(blk_cell BK673.out 0).trans rfl, (blk_cell BK673.out 1).trans rfl⟩ (fun hHeld => ?_)
    clear hK K
    refine norm_ (a' := ?_) ?_ ?_
    rotate_left
    ·show Act.put _ (some 9) _ = _
     simp only [Act.put, List.setIfInBounds_toArray, List.set_cons_zero, List.set_cons_succ, i64_w, i32_w]
     rfl
    refine one_ (i := 4) (N := some 3) #[true, true, true, true, true, false] rfl rfl (by kernel_rfl) (by decide) (fun K hK => ?_)
    refine box_step ?hg (N := 3) ?hd (cs := #[.slice none 0 0, .slice none 0 0]) (t := 40) ?hr ?_; (case hd => rfl); (case hg => rfl); (case hr => first | (go_simp; done) | (go_simp; rfl))
    intro gb684 hg w10 hbox hb
    have n0_ := rB HO677 hb
    have n1_ := rB HO680 hb
    have n2_ := rB HO683 hb
    have n3_ := kB BK673 hb
    have n4_ := kB BK674 hb
    have n5_ := bS HB hb
    have n6_ := Aside0.mk (hbox)
    have n7_ := gS HB hg
    have n8_ := gS HB hg
    have n9_ := nL BK673 hg
    have n10_ := nG BK673 hg
    have n11_ := nL BK674 hg
    have n12_ := nG BK674 hg
    clear HO677
    clear HO680
    clear HO683
    clear BK673
    clear BK674
    clear HB
    have HO677 := n0_
    have HO680 := n1_
    have HO683 := n2_
    have BK673 := n3_
    have BK674 := n4_
    have HB := n5_
    have BK684 := n6_
    have GW684 := n7_
    have GE684 := n8_
    have NB673_684 := n9_
    have NB684_673 := n10_
    have NB674_684 := n11_
    have NB684_674 := n12_
    clear n0_ n1_ n2_ n3_ n4_ n5_ n6_ n7_ n8_ n9_ n10_ n11_ n12_
    clear hb hbox hg
    refine hK.out _ _ ⟨(blk_cell BK673.out 0).trans rfl, (blk_cell BK673.out 1).trans rfl⟩ (fun hHeld => ?_)
    clear hK K
    refine norm_ (a' := ?_) ?_ ?_
    rotate_left
    ·show Act.put _ (some 3) _ = _
     simp only [Act.put, List.setIfInBounds_toArray, List.set_cons_zero, List.set_cons_succ, i64_w, i32_w]
     rfl
    exact norm_ (by simp only [putAll, Act.put, List.setIfInBounds_toArray, List.set_cons_zero, List.set_cons_succ]) (hCont (.slice Ao8 t675.length co8, v679, v682, gb684) _ ⟨hHeld, (by (with_reducible repeat (first | apply Kd.R_alloc | apply Kd.R_drewN | apply Kd.R_drew)); exact Kd.R_mono HO677.out (fun _ hk => ⟨hk.1.2, hk.2⟩)), (by (with_reducible repeat (first | apply Kd.R_alloc | apply Kd.R_drewN | apply Kd.R_drew)); exact Kd.R_mono HO680.out (fun _ hk => ⟨hk.2, hk.1⟩)), (by (with_reducible repeat (first | apply Kd.R_alloc | apply Kd.R_drewN | apply Kd.R_drew)); exact Kd.R_mono HO683.out (fun _ hk => ⟨hk.2, hk.1⟩)), (kP BK673), (kP BK674), (kP BK684), GW684.out, GE684.out, NB673_684.out, NB684_673.out, NB674_684.out, NB684_674.out, (bP HB)⟩)
   ·skip
    refine box_step ?hg (N := 3) ?hd (cs := #[.slice none 0 0, .slice none 0 0]) (t := 40) ?hr ?_; (case hd => rfl); (case hg => rfl); (case hr => first | (go_simp; done) | (go_simp; rfl))
    intro gb684 hg w8 hbox hb
    have n0_ := rB HO677 hb
    have n1_ := kB BK673 hb
    have n2_ := kB BK674 hb
    have n3_ := bS HB hb
    have n4_ := Aside0.mk (hbox)
    have n5_ := gS HB hg
    have n6_ := gS HB hg
    have n7_ := nL BK673 hg
    have n8_ := nG BK673 hg
    have n9_ := nL BK674 hg
    have n10_ := nG BK674 hg
    clear HO677
    clear BK673
    clear BK674
    clear HB
    have HO677 := n0_
    have BK673 := n1_
    have BK674 := n2_
    have HB := n3_
    have BK684 := n4_
    have GW684 := n5_
    have GE684 := n6_
    have NB673_684 := n7_
    have NB684_673 := n8_
    have NB674_684 := n9_
    have NB684_674 := n10_
    clear n0_ n1_ n2_ n3_ n4_ n5_ n6_ n7_ n8_ n9_ n10_
    clear hb hbox hg
    obtain ⟨Ao9, co9, eo9⟩ := Kd.R_slice HO677.out
    (first | subst eo9 | (injection eo9 with f1_ f2_ f3_; have f4_ := f1_.symm; have f5_ := f3_.symm; clear f1_ f2_ f3_; subst f4_; subst f5_))
    refine hK.out _ _ ⟨(blk_cell BK673.out 0).trans rfl, (blk_cell BK673.out 1).trans rfl⟩ (fun hHeld => ?_)
    clear hK K
    refine norm_ (a' := ?_) ?_ ?_
    rotate_left
    ·show Act.put _ (some 3) _ = _
     simp only [Act.put, List.setIfInBounds_toArray, List.set_cons_zero, List.set_cons_succ, i64_w, i32_w]
     rfl
    refine one_ (i := 3) (N := some 9) #[true, true, true, true, true, false] rfl rfl (by kernel_rfl) (by decide) (fun K hK => ?_)
    refine goes_ Try.func46 (by kernel_rfl) rfl #[.agg #[.slice A0_0 l0_0.length c0_0, .slice A0_1 l0_1.length c0_1], .slice Ao9 t675.length co9] (by rfl) rfl rfl (by (try simp only [List.map_toArray, List.map_cons, List.map_nil]); first | done | rfl | (simp only [List.length_drop, List.length_take]; rfl)) ?_
    with_reducible refine (impl_renamed.calls k _ _ l0_0 _ _ l0_1 _ _ t675 t678 t681 _ ?side1 ?side2 ?side3 ?side4 ?side5 ?side6 A3.out).mono ?_
    (case side1 => exact cB HR0_0 HB)
    (case side2 => exact HC0_0.out)
    (case side3 => exact cB HR0_1 HB)
    (case side4 => exact HC0_1.out)
    (case side5 => exact cP (Kd.R_reads' HO677.out).2.2)
    (case side6 => exact (Kd.R_reads' HO677.out).2.1)
    rintro e w10 ⟨v679, v682, rfl, ho0, ho1, hb⟩
    refine ⟨_, rfl, ?_⟩
    have n0_ := Aside0.mk (Kd.R_mono (Kd.R_told (Kd.R_told (Kd.R_old (rP HO677) hb) (Kd.R_base ho0)) (Kd.R_base ho1)) (fun _ h_ => h_.1))
    have n1_ := Aside0.mk (Kd.R_lower (Kd.R_new' ho0 (Kd.R_lt (rP HO677))) (below_size (bP HB)))
    have n2_ := Aside0.mk (Kd.R_lower (Kd.R_new' ho1 (Kd.R_lt (rP HO677))) (below_size (bP HB)))
    have n3_ := kB BK673 hb
    have n4_ := kB BK674 hb
    have n5_ := kB BK684 hb
    have n6_ := bS HB hb
    clear HO677
    clear BK673
    clear BK674
    clear BK684
    clear HB
    have HO677 := n0_
    have HO680 := n1_
    have HO683 := n2_
    have BK673 := n3_
    have BK674 := n4_
    have BK684 := n5_
    have HB := n6_
    clear n0_ n1_ n2_ n3_ n4_ n5_ n6_
    (try clear hb)
    (try clear hb2)
    (try clear hk)
    (try clear hi)
    (try clear ho0)
    (try clear ho1)
    refine hK.out _ _ ⟨(blk_cell BK673.out 0).trans rfl, (blk_cell BK673.out 1).trans rfl⟩ (fun hHeld => ?_)
    clear hK K
    refine norm_ (a' := ?_) ?_ ?_
    rotate_left
    ·show Act.put _ (some 9) _ = _
     simp only [Act.put, List.setIfInBounds_toArray, List.set_cons_zero, List.set_cons_succ, i64_w, i32_w]
     rfl
    exact norm_ (by simp only [putAll, Act.put, List.setIfInBounds_toArray, List.set_cons_zero, List.set_cons_succ]) (hCont (.slice Ao9 t675.length co9, v679, v682, gb684) _ ⟨hHeld, (by (with_reducible repeat (first | apply Kd.R_alloc | apply Kd.R_drewN | apply Kd.R_drew)); exact Kd.R_mono HO677.out (fun _ hk => ⟨hk.1.2, hk.2⟩)), (by (with_reducible repeat (first | apply Kd.R_alloc | apply Kd.R_drewN | apply Kd.R_drew)); exact Kd.R_mono HO680.out (fun _ hk => ⟨hk.2, hk.1⟩)), (by (with_reducible repeat (first | apply Kd.R_alloc | apply Kd.R_drewN | apply Kd.R_drew)); exact Kd.R_mono HO683.out (fun _ hk => ⟨hk.2, hk.1⟩)), (kP BK673), (kP BK674), (kP BK684), GW684.out, GE684.out, NB673_684.out, NB684_673.out, NB674_684.out, NB684_674.out, (bP HB)⟩)
  ·skip
   refine box_step ?hg (N := 3) ?hd (cs := #[.slice none 0 0, .slice none 0 0]) (t := 40) ?hr ?_; (case hd => rfl); (case hg => rfl); (case hr => first | (go_simp; done) | (go_simp; rfl))
   intro gb684 hg w7 hbox hb
   have n0_ := kB BK673 hb
   have n1_ := kB BK674 hb
   have n2_ := bS HB hb
   have n3_ := Aside0.mk (hbox)
   have n4_ := gS HB hg
   have n5_ := gS HB hg
   have n6_ := nL BK673 hg
   have n7_ := nG BK673 hg
   have n8_ := nL BK674 hg
   have n9_ := nG BK674 hg
   clear BK673
   clear BK674
   clear HB
   have BK673 := n0_
   have BK674 := n1_
   have HB := n2_
   have BK684 := n3_
   have GW684 := n4_
   have GE684 := n5_
   have NB673_684 := n6_
   have NB684_673 := n7_
   have NB674_684 := n8_
   have NB684_674 := n9_
   clear n0_ n1_ n2_ n3_ n4_ n5_ n6_ n7_ n8_ n9_
   clear hb hbox hg
   refine hK.out _ _ ⟨(blk_cell BK673.out 0).trans rfl, (blk_cell BK673.out 1).trans rfl⟩ (fun hHeld => ?_)
   clear hK K
   refine norm_ (a' := ?_) ?_ ?_
   rotate_left
   ·show Act.put _ (some 3) _ = _
    simp only [Act.put, List.setIfInBounds_toArray, List.set_cons_zero, List.set_cons_succ, i64_w, i32_w]
    rfl
   refine one_ (i := 2) (N := some 8) #[true, true, true, false, true, false] rfl rfl (by kernel_rfl) (by decide) (fun K hK => ?_)
   refine goes_ Try.func61 (by kernel_rfl) rfl #[.agg #[.slice A0_0 l0_0.length c0_0, .slice A0_1 l0_1.length c0_1], .int .i64 0] (by rfl) rfl rfl (by (try simp only [List.map_toArray, List.map_cons, List.map_nil]); first | done | rfl | (simp only [List.length_drop, List.length_take]; rfl)) ?_
   with_reducible refine (impl_namesFrom.calls k _ _ l0_0 _ _ l0_1 0 t675 _ ?side1 ?side2 ?side3 ?side4 A2.out).mono ?_
   (case side1 => exact cB HR0_0 HB)
   (case side2 => exact HC0_0.out)
   (case side3 => exact cB HR0_1 HB)
   (case side4 => exact HC0_1.out)
   rintro e w8 ⟨v676, rfl, ho0, hb⟩
   refine ⟨_, rfl, ?_⟩
   have n0_ := rL ho0 HB
   have n1_ := kB BK673 hb
   have n2_ := kB BK674 hb
   have n3_ := kB BK684 hb
   have n4_ := bS HB hb
   clear BK673
   clear BK674
   clear BK684
   clear HB
   have HO677 := n0_
   have BK673 := n1_
   have BK674 := n2_
   have BK684 := n3_
   have HB := n4_
   clear n0_ n1_ n2_ n3_ n4_
   (try clear hb)
   (try clear hb2)
   (try clear hk)
   (try clear hi)
   (try clear ho0)
   obtain ⟨Ao9, co9, eo9⟩ := Kd.R_slice HO677.out
   (first | subst eo9 | (injection eo9 with f1_ f2_ f3_; have f4_ := f1_.symm; have f5_ := f3_.symm; clear f1_ f2_ f3_; subst f4_; subst f5_))
   refine hK.out _ _ ⟨(blk_cell BK673.out 0).trans rfl, (blk_cell BK673.out 1).trans rfl⟩ (fun hHeld => ?_)
   clear hK K
   refine norm_ (a' := ?_) ?_ ?_
   rotate_left
   ·show Act.put _ (some 8) _ = _
    simp only [Act.put, List.setIfInBounds_toArray, List.set_cons_zero, List.set_cons_succ, i64_w, i32_w]
    rfl
   refine one_ (i := 3) (N := some 9) #[true, true, true, true, true, false] rfl rfl (by kernel_rfl) (by decide) (fun K hK => ?_)
   refine goes_ Try.func46 (by kernel_rfl) rfl #[.agg #[.slice A0_0 l0_0.length c0_0, .slice A0_1 l0_1.length c0_1], .slice Ao9 t675.length co9] (by rfl) rfl rfl (by (try simp only [List.map_toArray, List.map_cons, List.map_nil]); first | done | rfl | (simp only [List.length_drop, List.length_take]; rfl)) ?_
   with_reducible refine (impl_renamed.calls k _ _ l0_0 _ _ l0_1 _ _ t675 t678 t681 _ ?side1 ?side2 ?side3 ?side4 ?side5 ?side6 A3.out).mono ?_
   (case side1 => exact cB HR0_0 HB)
   (case side2 => exact HC0_0.out)
   (case side3 => exact cB HR0_1 HB)
   (case side4 => exact HC0_1.out)
   (case side5 => exact cP (Kd.R_reads' HO677.out).2.2)
   (case side6 => exact (Kd.R_reads' HO677.out).2.1)
   rintro e w10 ⟨v679, v682, rfl, ho0, ho1, hb⟩
   refine ⟨_, rfl, ?_⟩
   have n0_ := Aside0.mk (Kd.R_mono (Kd.R_told (Kd.R_told (Kd.R_old (rP HO677) hb) (Kd.R_base ho0)) (Kd.R_base ho1)) (fun _ h_ => h_.1))
   have n1_ := Aside0.mk (Kd.R_lower (Kd.R_new' ho0 (Kd.R_lt (rP HO677))) (below_size (bP HB)))
   have n2_ := Aside0.mk (Kd.R_lower (Kd.R_new' ho1 (Kd.R_lt (rP HO677))) (below_size (bP HB)))
   have n3_ := kB BK673 hb
   have n4_ := kB BK674 hb
   have n5_ := kB BK684 hb
   have n6_ := bS HB hb
   clear HO677
   clear BK673
   clear BK674
   clear BK684
   clear HB
   have HO677 := n0_
   have HO680 := n1_
   have HO683 := n2_
   have BK673 := n3_
   have BK674 := n4_
   have BK684 := n5_
   have HB := n6_
   clear n0_ n1_ n2_ n3_ n4_ n5_ n6_
   (try clear hb)
   (try clear hb2)
   (try clear hk)
   (try clear hi)
   (try clear ho0)
   (try clear ho1)
   refine hK.out _ _ ⟨(blk_cell BK673.out 0).trans rfl, (blk_cell BK673.out 1).trans rfl⟩ (fun hHeld => ?_)
   clear hK K
   refine norm_ (a' := ?_) ?_ ?_
   rotate_left
   ·show Act.put _ (some 9) _ = _
    simp only [Act.put, List.setIfInBounds_toArray, List.set_cons_zero, List.set_cons_succ, i64_w, i32_w]
    rfl
   exact norm_ (by simp only [putAll, Act.put, List.setIfInBounds_toArray, List.set_cons_zero, List.set_cons_succ]) (hCont (.slice Ao9 t675.length co9, v679, v682, gb684) _ ⟨hHeld, (by (with_reducible repeat (first | apply Kd.R_alloc | apply Kd.R_drewN | apply Kd.R_drew)); exact Kd.R_mono HO677.out (fun _ hk => ⟨hk.1.2, hk.2⟩)), (by (with_reducible repeat (first | apply Kd.R_alloc | apply Kd.R_drewN | apply Kd.R_drew)); exact Kd.R_mono HO680.out (fun _ hk => ⟨hk.2, hk.1⟩)), (by (with_reducible repeat (first | apply Kd.R_alloc | apply Kd.R_drewN | apply Kd.R_drew)); exact Kd.R_mono HO683.out (fun _ hk => ⟨hk.2, hk.1⟩)), (kP BK673), (kP BK674), (kP BK684), GW684.out, GE684.out, NB673_684.out, NB684_673.out, NB674_684.out, NB684_674.out, (bP HB)⟩)
 rintro ⟨v676, v679, v682, gb684⟩ w11 ⟨hS_, h0_, h1_, h2_, h3_, h4_, h5_, h6_, h7_, h8_, h9_, h10_, h11_, h12_⟩
 have n0_ : Aside0 (Kd.R (Kd.int .i64) 3 w11 w.heap.size (fun k_ => some k_ ≠ (v679 : Value).ownBlock ∧ some k_ ≠ (v682 : Value).ownBlock) v676 t675) := ⟨h0_⟩
 have n1_ : Aside0 (Kd.R (Kd.int .i64) 3 w11 w.heap.size (fun k_ => some k_ ≠ (v676 : Value).ownBlock ∧ some k_ ≠ (v682 : Value).ownBlock) v679 t678) := ⟨h1_⟩
 have n2_ : Aside0 (Kd.R (Kd.int .i64) 3 w11 w.heap.size (fun k_ => some k_ ≠ (v676 : Value).ownBlock ∧ some k_ ≠ (v679 : Value).ownBlock) v682 t681) := ⟨h2_⟩
 have n3_ : Aside0 (w11.heap[gb673]? = some (.cells #[.slice A0_0 l0_0.length c0_0, .slice A0_1 l0_1.length c0_1] 40 (0, 0))) := ⟨h3_⟩
 have n4_ : Aside0 (w11.heap[gb674]? = some (.cells #[.slice none 0 0, .slice none 0 0] 40 (0, 0))) := ⟨h4_⟩
 have n5_ : Aside0 (w11.heap[gb684]? = some (.cells #[.slice none 0 0, .slice none 0 0] 40 (0, 0))) := ⟨h5_⟩
 have n6_ : Aside0 (w.heap.size ≤ gb684) := ⟨h6_⟩
 have n7_ : Aside0 (w.heap.size ≤ gb684) := ⟨h7_⟩
 have n8_ : Aside0 (gb673 ≠ gb684) := ⟨h8_⟩
 have n9_ : Aside0 (gb684 ≠ gb673) := ⟨h9_⟩
 have n10_ : Aside0 (gb674 ≠ gb684) := ⟨h10_⟩
 have n11_ : Aside0 (gb684 ≠ gb674) := ⟨h11_⟩
 have n12_ : Aside0 (Below w.heap.size w w11) := ⟨h12_⟩
 clear BK673
 clear BK674
 clear HB
 clear h0_ h1_ h2_ h3_ h4_ h5_ h6_ h7_ h8_ h9_ h10_ h11_ h12_
 have HO677 := n0_
 have HO680 := n1_
 have HO683 := n2_
 have BK673 := n3_
 have BK674 := n4_
 have BK684 := n5_
 have GW684 := n6_
 have GE684 := n7_
 have NB673_684 := n8_
 have NB684_673 := n9_
 have NB674_684 := n10_
 have NB684_674 := n11_
 have HB := n12_
 clear n0_ n1_ n2_ n3_ n4_ n5_ n6_ n7_ n8_ n9_ n10_ n11_ n12_
 have hHeld : w11.cell? ⟨gb673, 0, none⟩ = some (.slice A0_0 l0_0.length c0_0) ∧ w11.cell? ⟨gb673, 1, none⟩ = some (.slice A0_1 l0_1.length c0_1) := hS_
 obtain ⟨Ao12, co12, eo12⟩ := Kd.R_slice HO680.out
 (first | subst eo12 | (injection eo12 with f1_ f2_ f3_; have f4_ := f1_.symm; have f5_ := f3_.symm; clear f1_ f2_ f3_; subst f4_; subst f5_))
 obtain ⟨Ao14, co14, eo14⟩ := Kd.R_slice HO683.out
 (first | subst eo14 | (injection eo14 with f1_ f2_ f3_; have f4_ := f1_.symm; have f5_ := f3_.symm; clear f1_ f2_ f3_; subst f4_; subst f5_))
 refine norm_ (a' := ?_) ?_ ?_
 rotate_left
 ·simp only [putAll, Act.put, List.setIfInBounds_toArray, List.set_cons_zero, List.set_cons_succ]
  rfl
 refine one_ (i := 5) (N := none) #[true, true, true, true, true, true] rfl rfl (by kernel_rfl) (by decide) (fun K hK => ?_)
 have hs13 : w11.cell? ⟨gb684, 0, none⟩ = some (.slice none 0 0) := (blk_cell BK684.out 0).trans rfl
 have hfs13 := blk_frozen BK684.out 0
 have hns13_0 := NB673_684.out
 have hns13_1 := NB674_684.out
 have hms13_0 := NB684_673.out
 have hms13_1 := NB684_674.out
 have hs15 : w11.cell? ⟨gb684, 1, none⟩ = some (.slice none 0 0) := (blk_cell BK684.out 1).trans rfl
 have hfs15 := blk_frozen BK684.out 1
 have hns15_0 := NB673_684.out
 have hns15_1 := NB674_684.out
 have hms15_0 := NB684_673.out
 have hms15_1 := NB684_674.out
 refine skip_ (w1 := ?_) (by rfl) rfl ?_ ?_
 rotate_left
 ·go_simp
  rfl
 refine hK.out _ _ ⟨((cell_far (p := ⟨gb684, _, none⟩) NB673_684.out _).trans (((cell_far (p := ⟨gb684, _, none⟩) NB673_684.out _).trans (hHeld.1)))), ((cell_far (p := ⟨gb684, _, none⟩) NB673_684.out _).trans (((cell_far (p := ⟨gb684, _, none⟩) NB673_684.out _).trans (hHeld.2))))⟩ (fun hHeld => ?_)
 clear hK K
 refine done_ (by kernel_rfl) ?_
 have hnb16 := NB673_674.out
 have hnc16 := NB674_673.out
 have hnb17 := NB673_684.out
 have hnc17 := NB684_673.out
 have hcz18_0 := zc0 BK673
 have hcz18_1 := zc1 BK673
 have hfz18_0 := blk_frozen BK673.out 0
 have hfz18_1 := blk_frozen BK673.out 1
 try go_wp2
 go_loopg [13] k (fun kq v13 w' => ∃ (x13_1 : Int) (x685000_1 : List Int) (x685001_1 : List Int) (u685000 : Value) (u685001 : Value), v13 = .int .i64 x13_1 ∧ Aside0 (impl_leastForm.l0 kq (l0_0.length : Int) x13_1 l0_0 l0_1 x685000_1 x685001_1 = some (r1, r2)) ∧ Aside0 (kq ≤ k) ∧ Aside0 (Kd.R (Kd.int .i64) 3 w' w.heap.size (fun k_ => some k_ ≠ (u685001 : Value).ownBlock) u685000 x685000_1) ∧ Aside0 (Kd.R (Kd.int .i64) 3 w' w.heap.size (fun k_ => some k_ ≠ (u685000 : Value).ownBlock) u685001 x685001_1) ∧ Aside0 (w'.heap[gb673]? = some (.cells #[(.slice A0_0 l0_0.length c0_0), (.slice A0_1 l0_1.length c0_1)] 40 (0, 0))) ∧ Aside0 (w'.heap[gb674]? = some (.cells #[(.slice none 0 0), (.slice none 0 0)] 40 (0, 0))) ∧ Aside0 (w'.heap[gb684]? = some (.cells #[u685000, u685001] 40 (0, 0))) ∧ Aside0 (Below w.heap.size w w'))
 case atStart => exact ⟨(0), (t678), (t681), (.slice Ao12 t678.length co12), (.slice Ao14 t681.length co14), eS, H', ⟨Nat.le_refl _⟩, ⟨by (with_reducible repeat (first | apply Kd.R_alloc | apply Kd.R_drewN | apply Kd.R_drew)); exact Kd.R_mono (Kd.R_far (p := ⟨gb684, 1, none⟩) (Kd.R_far (p := ⟨gb684, 0, none⟩) (Kd.R_types HO680.out BK684.out (by decide)) (fun _ hk => hk.2) (.slice Ao12 t678.length co12)) (fun _ hk => hk.2) (.slice Ao14 t681.length co14)) (fun _ hk => hk.1.2)⟩, ⟨by (with_reducible repeat (first | apply Kd.R_alloc | apply Kd.R_drewN | apply Kd.R_drew)); exact Kd.R_mono (Kd.R_far (p := ⟨gb684, 1, none⟩) (Kd.R_far (p := ⟨gb684, 0, none⟩) (Kd.R_types HO683.out BK684.out (by decide)) (fun _ hk => hk.2) (.slice Ao12 t678.length co12)) (fun _ hk => hk.2) (.slice Ao14 t681.length co14)) (fun _ hk => hk.1.2)⟩, ⟨kF BK673⟩, ⟨kF BK674⟩, ⟨by (with_reducible repeat (first | refine blk_drewN ?_ _ | refine blk_drew ?_ | refine blk_alloc ?_ _)); refine blk_put (cs := #[.slice Ao12 t678.length co12, .slice none 0 0]) ?_ 1 _ rfl; (with_reducible repeat (first | refine blk_drewN ?_ _ | refine blk_drew ?_ | refine blk_alloc ?_ _)); refine blk_put (cs := #[.slice none 0 0, .slice none 0 0]) ?_ 0 _ rfl; (with_reducible repeat (first | refine blk_drewN ?_ _ | refine blk_drew ?_ | refine blk_alloc ?_ _)); exact BK684.out⟩, ⟨bP HB⟩⟩
 case round =>
  clear H'
  try clear c1
  try clear p2
  try clear c4
  try clear c6
  try clear c16
  try clear c17
  try clear hcz18_0
  try clear hcz18_1
  try clear hfz18_0
  try clear hfz18_1
  obtain ⟨x13_1, x685000_1, x685001_1, u685000, u685001, rfl, HA, HK1, HO_685000, HO_685001, BK673, BK674, BK684, HB⟩ := hrel
  cases gk with
  | zero => exact absurd HA.out (by simp [impl_leastForm.l0])
  | succ k1 =>
   have H := HA.out
   clear HA
   simp only [impl_leastForm.l0] at H
   by_cases c19 : x13_1 < (l0_0.length : Int)
   ·rw [if_pos c19] at H
    have c19b0 : decide (x13_1 < (l0_0.length : Int)) = true := decide_eq_true c19
    clear c19
    replace H := Option.bind_eq_some_iff.mp H
    obtain ⟨t685, A200, H⟩ := H
    replace H : ((impl_renamed.f k1 l0_0 l0_1 t685).bind fun bt688 => ((impl_compareMaps.f k1 bt688.1 bt688.2 x685000_1 x685001_1).bind fun t695 => (if t695 < 0 then (impl_leastForm.l0 k1 (l0_0.length : Int) (wrap64 (x13_1 + 1)) l0_0 l0_1 bt688.1 bt688.2) else (impl_leastForm.l0 k1 (l0_0.length : Int) (wrap64 (x13_1 + 1)) l0_0 l0_1 x685000_1 x685001_1)))) = some (r1, r2) := H
    have A20 := Aside0.mk A200
    clear A200
    replace H := Option.bind_eq_some_iff.mp H
    obtain ⟨⟨t688, t691⟩, A210, H⟩ := H
    replace H : ((impl_compareMaps.f k1 t688 t691 x685000_1 x685001_1).bind fun t695 => (if t695 < 0 then (impl_leastForm.l0 k1 (l0_0.length : Int) (wrap64 (x13_1 + 1)) l0_0 l0_1 t688 t691) else (impl_leastForm.l0 k1 (l0_0.length : Int) (wrap64 (x13_1 + 1)) l0_0 l0_1 x685000_1 x685001_1))) = some (r1, r2) := H
    have A21 := Aside0.mk A210
    clear A210
    replace H := Option.bind_eq_some_iff.mp H
    obtain ⟨t695, A220, H⟩ := H
    replace H : (if t695 < 0 then (impl_leastForm.l0 k1 (l0_0.length : Int) (wrap64 (x13_1 + 1)) l0_0 l0_1 t688 t691) else (impl_leastForm.l0 k1 (l0_0.length : Int) (wrap64 (x13_1 + 1)) l0_0 l0_1 x685000_1 x685001_1)) = some (r1, r2) := H
    have A22 := Aside0.mk A220
    clear A220
    by_cases c23 : t695 < 0
    ·rw [if_pos c23] at H
     have c23b0 : decide (t695 < 0) = true := decide_eq_true c23
     clear c23
     have H' := Aside0.mk H
     clear H
     try go_wp2
     have n0_ := Aside0.mk (Kd.R_drew HO_685000.out)
     have n1_ := Aside0.mk (Kd.R_drew HO_685001.out)
     have n2_ := Aside0.mk (blk_drew BK673.out)
     have n3_ := Aside0.mk (blk_drew BK674.out)
     have n4_ := Aside0.mk (blk_drew BK684.out)
     have n5_ := Aside0.mk (below_drew1 HB.out)
     clear HO_685000
     clear HO_685001
     clear BK673
     clear BK674
     clear BK684
     clear HB
     have HO_685000 := n0_
     have HO_685001 := n1_
     have BK673 := n2_
     have BK674 := n3_
     have BK684 := n4_
     have HB := n5_
     clear n0_ n1_ n2_ n3_ n4_ n5_
     refine start_ (n := 7) (S := fun w' => w'.cell? ⟨gb673, 0, none⟩ = some (.slice A0_0 l0_0.length c0_0) ∧ w'.cell? ⟨gb673, 1, none⟩ = some (.slice A0_1 l0_1.length c0_1)) (ds := []) #[false, false, false, false, false, false, false] (by kernel_rfl) rfl rfl ⟨(blk_cell BK673.out 0).trans rfl, (blk_cell BK673.out 1).trans rfl⟩ (fun hHeld => ?_)
     generalize wr.drew = w24 at HO_685000 HO_685001 BK673 BK674 BK684 HB hHeld ⊢
     refine pure_ (i := 2) (N := some 18) (v := ?_) (a' := ?_) #[false, false, true, false, false, false, false] rfl rfl (by kernel_rfl) (fun _ _ _ h => h) (Or.inl ⟨by rfl, ?_⟩) ?_ ?_
     rotate_left
     ·intro w'
      go_simp
      with_reducible rfl
     rotate_left
     ·simp only [Act.put, List.setIfInBounds_toArray, List.set_cons_zero, List.set_cons_succ, i64_w, i32_w]
      rfl
     refine take_ (i := 0) (N := some 16) (v := ?_) (a' := ?_) #[true, false, true, false, false, false, false] rfl rfl (by kernel_rfl) (fun _ _ _ h => h) (Or.inl ⟨by rfl, ?_⟩) hHeld ?_ ?_
     rotate_left
     ·rintro w' ⟨s0, s1⟩
      go_simp
      with_reducible rfl
     rotate_left
     ·simp only [Act.put, List.setIfInBounds_toArray, List.set_cons_zero, List.set_cons_succ, i64_w, i32_w]
      rfl
     refine take_ (i := 1) (N := some 17) (v := ?_) (a' := ?_) #[true, true, true, false, false, false, false] rfl rfl (by kernel_rfl) (fun _ _ _ h => h) (Or.inl ⟨by rfl, ?_⟩) hHeld ?_ ?_
     rotate_left
     ·rintro w' ⟨s0, s1⟩
      go_simp
      with_reducible rfl
     rotate_left
     ·simp only [Act.put, List.setIfInBounds_toArray, List.set_cons_zero, List.set_cons_succ, i64_w, i32_w]
      rfl
     refine join_ (σ := Value × Value × Value × Nat) 1 #[true, true, true, true, true, true, false] (fun s_ => [(19, s_.1), (20, .agg #[s_.2.1, s_.2.2.1]), (5, .pointer (some ⟨s_.2.2.2, 0, none⟩))]) (fun s_ w' => (w'.cell? ⟨gb673, 0, none⟩ = some (.slice A0_0 l0_0.length c0_0) ∧ w'.cell? ⟨gb673, 1, none⟩ = some (.slice A0_1 l0_1.length c0_1)) ∧ (Kd.R (Kd.int .i64) 3 w' w.heap.size (fun k_ => some k_ ≠ (s_.2.1 : Value).ownBlock ∧ some k_ ≠ (s_.2.2.1 : Value).ownBlock ∧ some k_ ≠ (u685000 : Value).ownBlock ∧ some k_ ≠ (u685001 : Value).ownBlock) s_.1 t685) ∧ (Kd.R (Kd.int .i64) 3 w' w.heap.size (fun k_ => some k_ ≠ (s_.1 : Value).ownBlock ∧ some k_ ≠ (s_.2.2.1 : Value).ownBlock ∧ some k_ ≠ (u685000 : Value).ownBlock ∧ some k_ ≠ (u685001 : Value).ownBlock) s_.2.1 t688) ∧ (Kd.R (Kd.int .i64) 3 w' w.heap.size (fun k_ => some k_ ≠ (s_.1 : Value).ownBlock ∧ some k_ ≠ (s_.2.1 : Value).ownBlock ∧ some k_ ≠ (u685000 : Value).ownBlock ∧ some k_ ≠ (u685001 : Value).ownBlock) s_.2.2.1 t691) ∧ (Kd.R (Kd.int .i64) 3 w' w.heap.size (fun k_ => some k_ ≠ (s_.1 : Value).ownBlock ∧ some k_ ≠ (s_.2.1 : Value).ownBlock ∧ some k_ ≠ (s_.2.2.1 : Value).ownBlock ∧ some k_ ≠ (u685001 : Value).ownBlock) u685000 x685000_1) ∧ (Kd.R (Kd.int .i64) 3 w' w.heap.size (fun k_ => some k_ ≠ (s_.1 : Value).ownBlock ∧ some k_ ≠ (s_.2.1 : Value).ownBlock ∧ some k_ ≠ (s_.2.2.1 : Value).ownBlock ∧ some k_ ≠ (u685000 : Value).ownBlock) u685001 x685001_1) ∧ (w'.heap[gb673]? = some (.cells #[.slice A0_0 l0_0.length c0_0, .slice A0_1 l0_1.length c0_1] 40 (0, 0))) ∧ (w'.heap[gb674]? = some (.cells #[.slice none 0 0, .slice none 0 0] 40 (0, 0))) ∧ (w'.heap[gb684]? = some (.cells #[u685000, u685001] 40 (0, 0))) ∧ (w'.heap[s_.2.2.2]? = some (.cells #[.slice none 0 0, .slice none 0 0] 40 (0, 0))) ∧ (w.heap.size ≤ s_.2.2.2) ∧ (w.heap.size ≤ s_.2.2.2) ∧ (gb673 ≠ s_.2.2.2) ∧ (s_.2.2.2 ≠ gb673) ∧ (gb674 ≠ s_.2.2.2) ∧ (s_.2.2.2 ≠ gb674) ∧ (gb684 ≠ s_.2.2.2) ∧ (s_.2.2.2 ≠ gb684) ∧ (Below w.heap.size w w')) ?_ ?_
     rotate_left
     ·intro hCont
      refine two_ (i := 3) (j := 5) (Ni := some 19) (Nj := some 5) #[true, true, true, true, false, false, false] #[true, true, true, false, false, true, false] rfl rfl rfl rfl (by kernel_rfl) (by decide) (by decide) (fun K hK => ?_) (fun K hK => ?_)
      ·skip
       refine goes_ Try.func61 (by kernel_rfl) rfl #[.agg #[.slice A0_0 l0_0.length c0_0, .slice A0_1 l0_1.length c0_1], .int .i64 x13_1] (by rfl) rfl rfl (by (try simp only [List.map_toArray, List.map_cons, List.map_nil]); first | done | rfl | (simp only [List.length_drop, List.length_take]; rfl)) ?_
       with_reducible refine (impl_namesFrom.calls k1 _ _ l0_0 _ _ l0_1 x13_1 t685 _ ?side1 ?side2 ?side3 ?side4 A20.out).mono ?_
       (case side1 => exact cB HR0_0 HB)
       (case side2 => exact HC0_0.out)
       (case side3 => exact cB HR0_1 HB)
       (case side4 => exact HC0_1.out)
       rintro e w25 ⟨v686, rfl, ho0, hb⟩
       refine ⟨_, rfl, ?_⟩
       have n0_ := Aside0.mk (Kd.R_elder' (rP HO_685000) (Kd.R_base ho0) hb)
       have n1_ := Aside0.mk (Kd.R_elder' (rP HO_685001) (Kd.R_base ho0) hb)
       have n2_ := Aside0.mk (Kd.R_lower (Kd.R_new' (Kd.R_new' ho0 (Kd.R_lt (rP HO_685000))) (Kd.R_lt (rP HO_685001))) (below_size (bP HB)))
       have n3_ := kB BK673 hb
       have n4_ := kB BK674 hb
       have n5_ := kB BK684 hb
       have n6_ := bS HB hb
       clear HO_685000
       clear HO_685001
       clear BK673
       clear BK674
       clear BK684
       clear HB
       have HO_685000 := n0_
       have HO_685001 := n1_
       have HO687 := n2_
       have BK673 := n3_
       have BK674 := n4_
       have BK684 := n5_
       have HB := n6_
       clear n0_ n1_ n2_ n3_ n4_ n5_ n6_
       (try clear hb)
       (try clear hb2)
       (try clear hk)
       (try clear hi)
       (try clear ho0)
       obtain ⟨Ao26, co26, eo26⟩ := Kd.R_slice HO687.out
       (first | subst eo26 | (injection eo26 with f1_ f2_ f3_; have f4_ := f1_.symm; have f5_ := f3_.symm; clear f1_ f2_ f3_; subst f4_; subst f5_))
       refine hK.out _ _ ⟨(blk_cell BK673.out 0).trans rfl, (blk_cell BK673.out 1).trans rfl⟩ (fun hHeld => ?_)
       clear hK K
       refine norm_ (a' := ?_) ?_ ?_
       rotate_left
       ·show Act.put _ (some 19) _ = _
        simp only [Act.put, List.setIfInBounds_toArray, List.set_cons_zero, List.set_cons_succ, i64_w, i32_w]
        rfl
       refine two_ (i := 4) (j := 5) (Ni := some 20) (Nj := some 5) #[true, true, true, true, true, false, false] #[true, true, true, true, false, true, false] rfl rfl rfl rfl (by kernel_rfl) (by decide) (by decide) (fun K hK => ?_) (fun K hK => ?_)
       ·skip
        refine goes_ Try.func46 (by kernel_rfl) rfl #[.agg #[.slice A0_0 l0_0.length c0_0, .slice A0_1 l0_1.length c0_1], .slice Ao26 t685.length co26] (by rfl) rfl rfl (by (try simp only [List.map_toArray, List.map_cons, List.map_nil]); first | done | rfl | (simp only [List.length_drop, List.length_take]; rfl)) ?_
        with_reducible refine (impl_renamed.calls k1 _ _ l0_0 _ _ l0_1 _ _ t685 t688 t691 _ ?side1 ?side2 ?side3 ?side4 ?side5 ?side6 A21.out).mono ?_
        (case side1 => exact cB HR0_0 HB)
        (case side2 => exact HC0_0.out)
        (case side3 => exact cB HR0_1 HB)
        (case side4 => exact HC0_1.out)
        (case side5 => exact cP (Kd.R_reads' HO687.out).2.2)
        (case side6 => exact (Kd.R_reads' HO687.out).2.1)
        rintro e w27 ⟨v689, v692, rfl, ho0, ho1, hb⟩
        refine ⟨_, rfl, ?_⟩
        have n0_ := Aside0.mk (Kd.R_mono (Kd.R_told (Kd.R_told (Kd.R_old (rP HO_685000) hb) (Kd.R_base ho0)) (Kd.R_base ho1)) (fun _ h_ => h_.1))
        have n1_ := Aside0.mk (Kd.R_mono (Kd.R_told (Kd.R_told (Kd.R_old (rP HO_685001) hb) (Kd.R_base ho0)) (Kd.R_base ho1)) (fun _ h_ => h_.1))
        have n2_ := Aside0.mk (Kd.R_mono (Kd.R_told (Kd.R_told (Kd.R_old (rP HO687) hb) (Kd.R_base ho0)) (Kd.R_base ho1)) (fun _ h_ => h_.1))
        have n3_ := Aside0.mk (Kd.R_lower (Kd.R_new' (Kd.R_new' (Kd.R_new' ho0 (Kd.R_lt (rP HO_685000))) (Kd.R_lt (rP HO_685001))) (Kd.R_lt (rP HO687))) (below_size (bP HB)))
        have n4_ := Aside0.mk (Kd.R_lower (Kd.R_new' (Kd.R_new' (Kd.R_new' ho1 (Kd.R_lt (rP HO_685000))) (Kd.R_lt (rP HO_685001))) (Kd.R_lt (rP HO687))) (below_size (bP HB)))
        have n5_ := kB BK673 hb
        have n6_ := kB BK674 hb
        have n7_ := kB BK684 hb
        have n8_ := bS HB hb
        clear HO_685000
        clear HO_685001
        clear HO687
        clear BK673
        clear BK674
        clear BK684
        clear HB
        have HO_685000 := n0_
        have HO_685001 := n1_
        have HO687 := n2_
        have HO690 := n3_
        have HO693 := n4_
        have BK673 := n5_
        have BK674 := n6_
        have BK684 := n7_
        have HB := n8_
        clear n0_ n1_ n2_ n3_ n4_ n5_ n6_ n7_ n8_
        (try clear hb)
        (try clear hb2)
        (try clear hk)
        (try clear hi)
        (try clear ho0)
        (try clear ho1)
        refine hK.out _ _ ⟨(blk_cell BK673.out 0).trans rfl, (blk_cell BK673.out 1).trans rfl⟩ (fun hHeld => ?_)
        clear hK K
        refine norm_ (a' := ?_) ?_ ?_
        rotate_left
        ·show Act.put _ (some 20) _ = _
         simp only [Act.put, List.setIfInBounds_toArray, List.set_cons_zero, List.set_cons_succ, i64_w, i32_w]
         rfl
        refine one_ (i := 5) (N := some 5) #[true, true, true, true, true, true, false] rfl rfl (by kernel_rfl) (by decide) (fun K hK => ?_)
        refine box_step ?hg (N := 5) ?hd (cs := #[.slice none 0 0, .slice none 0 0]) (t := 40) ?hr ?_; (case hd => rfl); (case hg => rfl); (case hr => first | (go_simp; done) | (go_simp; rfl))
        intro gb694 hg w28 hbox hb
        have n0_ := rB HO_685000 hb
        have n1_ := rB HO_685001 hb
        have n2_ := rB HO687 hb
        have n3_ := rB HO690 hb
        have n4_ := rB HO693 hb
        have n5_ := kB BK673 hb
        have n6_ := kB BK674 hb
        have n7_ := kB BK684 hb
        have n8_ := bS HB hb
        have n9_ := Aside0.mk (hbox)
        have n10_ := gS HB hg
        have n11_ := gS HB hg
        have n12_ := nL BK673 hg
        have n13_ := nG BK673 hg
        have n14_ := nL BK674 hg
        have n15_ := nG BK674 hg
        have n16_ := nL BK684 hg
        have n17_ := nG BK684 hg
        clear HO_685000
        clear HO_685001
        clear HO687
        clear HO690
        clear HO693
        clear BK673
        clear BK674
        clear BK684
        clear HB
        have HO_685000 := n0_
        have HO_685001 := n1_
        have HO687 := n2_
        have HO690 := n3_
        have HO693 := n4_
        have BK673 := n5_
        have BK674 := n6_
        have BK684 := n7_
        have HB := n8_
        have BK694 := n9_
        have GW694 := n10_
        have GE694 := n11_
        have NB673_694 := n12_
        have NB694_673 := n13_
        have NB674_694 := n14_
        have NB694_674 := n15_
        have NB684_694 := n16_
        have NB694_684 := n17_
        clear n0_ n1_ n2_ n3_ n4_ n5_ n6_ n7_ n8_ n9_ n10_ n11_ n12_ n13_ n14_ n15_ n16_ n17_
        clear hb hbox hg
        refine hK.out _ _ ⟨(blk_cell BK673.out 0).trans rfl, (blk_cell BK673.out 1).trans rfl⟩ (fun hHeld => ?_)
        clear hK K
        refine norm_ (a' := ?_) ?_ ?_
        rotate_left
        ·show Act.put _ (some 5) _ = _
         simp only [Act.put, List.setIfInBounds_toArray, List.set_cons_zero, List.set_cons_succ, i64_w, i32_w]
         rfl
        exact norm_ (by simp only [putAll, Act.put, List.setIfInBounds_toArray, List.set_cons_zero, List.set_cons_succ]) (hCont (.slice Ao26 t685.length co26, v689, v692, gb694) _ ⟨hHeld, (by (with_reducible repeat (first | apply Kd.R_alloc | apply Kd.R_drewN | apply Kd.R_drew)); exact Kd.R_mono HO687.out (fun _ hk => ⟨hk.1.2, ⟨hk.2, ⟨hk.1.1.1.2, hk.1.1.2⟩⟩⟩)), (by (with_reducible repeat (first | apply Kd.R_alloc | apply Kd.R_drewN | apply Kd.R_drew)); exact Kd.R_mono HO690.out (fun _ hk => ⟨hk.2, ⟨hk.1.1.1, ⟨hk.1.1.2, hk.1.2⟩⟩⟩)), (by (with_reducible repeat (first | apply Kd.R_alloc | apply Kd.R_drewN | apply Kd.R_drew)); exact Kd.R_mono HO693.out (fun _ hk => ⟨hk.2, ⟨hk.1.1.1, ⟨hk.1.1.2, hk.1.2⟩⟩⟩)), (by (with_reducible repeat (first | apply Kd.R_alloc | apply Kd.R_drewN | apply Kd.R_drew)); exact Kd.R_mono HO_685000.out (fun _ hk => ⟨hk.1.1.2, ⟨hk.1.2, ⟨hk.2, hk.1.1.1⟩⟩⟩)), (by (with_reducible repeat (first | apply Kd.R_alloc | apply Kd.R_drewN | apply Kd.R_drew)); exact Kd.R_mono HO_685001.out (fun _ hk => ⟨hk.1.1.2, ⟨hk.1.2, ⟨hk.2, hk.1.1.1⟩⟩⟩)), (kP BK673), (kP BK674), (kP BK684), (kP BK694), GW694.out, GE694.out, NB673_694.out, NB694_673.out, NB674_694.out, NB694_674.out, NB684_694.out, NB694_684.out, (bP HB)⟩)
       ·skip
        refine box_step ?hg (N := 5) ?hd (cs := #[.slice none 0 0, .slice none 0 0]) (t := 40) ?hr ?_; (case hd => rfl); (case hg => rfl); (case hr => first | (go_simp; done) | (go_simp; rfl))
        intro gb694 hg w26 hbox hb
        have n0_ := rB HO_685000 hb
        have n1_ := rB HO_685001 hb
        have n2_ := rB HO687 hb
        have n3_ := kB BK673 hb
        have n4_ := kB BK674 hb
        have n5_ := kB BK684 hb
        have n6_ := bS HB hb
        have n7_ := Aside0.mk (hbox)
        have n8_ := gS HB hg
        have n9_ := gS HB hg
        have n10_ := nL BK673 hg
        have n11_ := nG BK673 hg
        have n12_ := nL BK674 hg
        have n13_ := nG BK674 hg
        have n14_ := nL BK684 hg
        have n15_ := nG BK684 hg
        clear HO_685000
        clear HO_685001
        clear HO687
        clear BK673
        clear BK674
        clear BK684
        clear HB
        have HO_685000 := n0_
        have HO_685001 := n1_
        have HO687 := n2_
        have BK673 := n3_
        have BK674 := n4_
        have BK684 := n5_
        have HB := n6_
        have BK694 := n7_
        have GW694 := n8_
        have GE694 := n9_
        have NB673_694 := n10_
        have NB694_673 := n11_
        have NB674_694 := n12_
        have NB694_674 := n13_
        have NB684_694 := n14_
        have NB694_684 := n15_
        clear n0_ n1_ n2_ n3_ n4_ n5_ n6_ n7_ n8_ n9_ n10_ n11_ n12_ n13_ n14_ n15_
        clear hb hbox hg
        obtain ⟨Ao27, co27, eo27⟩ := Kd.R_slice HO687.out
        (first | subst eo27 | (injection eo27 with f1_ f2_ f3_; have f4_ := f1_.symm; have f5_ := f3_.symm; clear f1_ f2_ f3_; subst f4_; subst f5_))
        refine hK.out _ _ ⟨(blk_cell BK673.out 0).trans rfl, (blk_cell BK673.out 1).trans rfl⟩ (fun hHeld => ?_)
        clear hK K
        refine norm_ (a' := ?_) ?_ ?_
        rotate_left
        ·show Act.put _ (some 5) _ = _
         simp only [Act.put, List.setIfInBounds_toArray, List.set_cons_zero, List.set_cons_succ, i64_w, i32_w]
         rfl
        refine one_ (i := 4) (N := some 20) #[true, true, true, true, true, true, false] rfl rfl (by kernel_rfl) (by decide) (fun K hK => ?_)
        refine goes_ Try.func46 (by kernel_rfl) rfl #[.agg #[.slice A0_0 l0_0.length c0_0, .slice A0_1 l0_1.length c0_1], .slice Ao27 t685.length co27] (by rfl) rfl rfl (by (try simp only [List.map_toArray, List.map_cons, List.map_nil]); first | done | rfl | (simp only [List.length_drop, List.length_take]; rfl)) ?_
        with_reducible refine (impl_renamed.calls k1 _ _ l0_0 _ _ l0_1 _ _ t685 t688 t691 _ ?side1 ?side2 ?side3 ?side4 ?side5 ?side6 A21.out).mono ?_
        (case side1 => exact cB HR0_0 HB)
        (case side2 => exact HC0_0.out)
        (case side3 => exact cB HR0_1 HB)
        (case side4 => exact HC0_1.out)
        (case side5 => exact cP (Kd.R_reads' HO687.out).2.2)
        (case side6 => exact (Kd.R_reads' HO687.out).2.1)
        rintro e w28 ⟨v689, v692, rfl, ho0, ho1, hb⟩
        refine ⟨_, rfl, ?_⟩
        have n0_ := Aside0.mk (Kd.R_mono (Kd.R_told (Kd.R_told (Kd.R_old (rP HO_685000) hb) (Kd.R_base ho0)) (Kd.R_base ho1)) (fun _ h_ => h_.1))
        have n1_ := Aside0.mk (Kd.R_mono (Kd.R_told (Kd.R_told (Kd.R_old (rP HO_685001) hb) (Kd.R_base ho0)) (Kd.R_base ho1)) (fun _ h_ => h_.1))
        have n2_ := Aside0.mk (Kd.R_mono (Kd.R_told (Kd.R_told (Kd.R_old (rP HO687) hb) (Kd.R_base ho0)) (Kd.R_base ho1)) (fun _ h_ => h_.1))
        have n3_ := Aside0.mk (Kd.R_lower (Kd.R_new' (Kd.R_new' (Kd.R_new' ho0 (Kd.R_lt (rP HO_685000))) (Kd.R_lt (rP HO_685001))) (Kd.R_lt (rP HO687))) (below_size (bP HB)))
        have n4_ := Aside0.mk (Kd.R_lower (Kd.R_new' (Kd.R_new' (Kd.R_new' ho1 (Kd.R_lt (rP HO_685000))) (Kd.R_lt (rP HO_685001))) (Kd.R_lt (rP HO687))) (below_size (bP HB)))
        have n5_ := kB BK673 hb
        have n6_ := kB BK674 hb
        have n7_ := kB BK684 hb
        have n8_ := kB BK694 hb
        have n9_ := bS HB hb
        clear HO_685000
        clear HO_685001
        clear HO687
        clear BK673
        clear BK674
        clear BK684
        clear BK694
        clear HB
        have HO_685000 := n0_
        have HO_685001 := n1_
        have HO687 := n2_
        have HO690 := n3_
        have HO693 := n4_
        have BK673 := n5_
        have BK674 := n6_
        have BK684 := n7_
        have BK694 := n8_
        have HB := n9_
        clear n0_ n1_ n2_ n3_ n4_ n5_ n6_ n7_ n8_ n9_
        (try clear hb)
        (try clear hb2)
        (try clear hk)
        (try clear hi)
        (try clear ho0)
        (try clear ho1)
        refine hK.out _ _ ⟨(blk_cell BK673.out 0).trans rfl, (blk_cell BK673.out 1).trans rfl⟩ (fun hHeld => ?_)
        clear hK K
        refine norm_ (a' := ?_) ?_ ?_
        rotate_left
        ·show Act.put _ (some 20) _ = _
         simp only [Act.put, List.setIfInBounds_toArray, List.set_cons_zero, List.set_cons_succ, i64_w, i32_w]
         rfl
        exact norm_ (by simp only [putAll, Act.put, List.setIfInBounds_toArray, List.set_cons_zero, List.set_cons_succ]) (hCont (.slice Ao27 t685.length co27, v689, v692, gb694) _ ⟨hHeld, (by (with_reducible repeat (first | apply Kd.R_alloc | apply Kd.R_drewN | apply Kd.R_drew)); exact Kd.R_mono HO687.out (fun _ hk => ⟨hk.1.2, ⟨hk.2, ⟨hk.1.1.1.2, hk.1.1.2⟩⟩⟩)), (by (with_reducible repeat (first | apply Kd.R_alloc | apply Kd.R_drewN | apply Kd.R_drew)); exact Kd.R_mono HO690.out (fun _ hk => ⟨hk.2, ⟨hk.1.1.1, ⟨hk.1.1.2, hk.1.2⟩⟩⟩)), (by (with_reducible repeat (first | apply Kd.R_alloc | apply Kd.R_drewN | apply Kd.R_drew)); exact Kd.R_mono HO693.out (fun _ hk => ⟨hk.2, ⟨hk.1.1.1, ⟨hk.1.1.2, hk.1.2⟩⟩⟩)), (by (with_reducible repeat (first | apply Kd.R_alloc | apply Kd.R_drewN | apply Kd.R_drew)); exact Kd.R_mono HO_685000.out (fun _ hk => ⟨hk.1.1.2, ⟨hk.1.2, ⟨hk.2, hk.1.1.1⟩⟩⟩)), (by (with_reducible repeat (first | apply Kd.R_alloc | apply Kd.R_drewN | apply Kd.R_drew)); exact Kd.R_mono HO_685001.out (fun _ hk => ⟨hk.1.1.2, ⟨hk.1.2, ⟨hk.2, hk.1.1.1⟩⟩⟩)), (kP BK673), (kP BK674), (kP BK684), (kP BK694), GW694.out, GE694.out, NB673_694.out, NB694_673.out, NB674_694.out, NB694_674.out, NB684_694.out, NB694_684.out, (bP HB)⟩)
      ·skip
       refine box_step ?hg (N := 5) ?hd (cs := #[.slice none 0 0, .slice none 0 0]) (t := 40) ?hr ?_; (case hd => rfl); (case hg => rfl); (case hr => first | (go_simp; done) | (go_simp; rfl))
       intro gb694 hg w25 hbox hb
       have n0_ := rB HO_685000 hb
       have n1_ := rB HO_685001 hb
       have n2_ := kB BK673 hb
       have n3_ := kB BK674 hb
       have n4_ := kB BK684 hb
       have n5_ := bS HB hb
       have n6_ := Aside0.mk (hbox)
       have n7_ := gS HB hg
       have n8_ := gS HB hg
       have n9_ := nL BK673 hg
       have n10_ := nG BK673 hg
       have n11_ := nL BK674 hg
       have n12_ := nG BK674 hg
       have n13_ := nL BK684 hg
       have n14_ := nG BK684 hg
       clear HO_685000
       clear HO_685001
       clear BK673
       clear BK674
       clear BK684
       clear HB
       have HO_685000 := n0_
       have HO_685001 := n1_
       have BK673 := n2_
       have BK674 := n3_
       have BK684 := n4_
       have HB := n5_
       have BK694 := n6_
       have GW694 := n7_
       have GE694 := n8_
       have NB673_694 := n9_
       have NB694_673 := n10_
       have NB674_694 := n11_
       have NB694_674 := n12_
       have NB684_694 := n13_
       have NB694_684 := n14_
       clear n0_ n1_ n2_ n3_ n4_ n5_ n6_ n7_ n8_ n9_ n10_ n11_ n12_ n13_ n14_
       clear hb hbox hg
       refine hK.out _ _ ⟨(blk_cell BK673.out 0).trans rfl, (blk_cell BK673.out 1).trans rfl⟩ (fun hHeld => ?_)
       clear hK K
       refine norm_ (a' := ?_) ?_ ?_
       rotate_left
       ·show Act.put _ (some 5) _ = _
        simp only [Act.put, List.setIfInBounds_toArray, List.set_cons_zero, List.set_cons_succ, i64_w, i32_w]
        rfl
       refine one_ (i := 3) (N := some 19) #[true, true, true, true, false, true, false] rfl rfl (by kernel_rfl) (by decide) (fun K hK => ?_)
       refine goes_ Try.func61 (by kernel_rfl) rfl #[.agg #[.slice A0_0 l0_0.length c0_0, .slice A0_1 l0_1.length c0_1], .int .i64 x13_1] (by rfl) rfl rfl (by (try simp only [List.map_toArray, List.map_cons, List.map_nil]); first | done | rfl | (simp only [List.length_drop, List.length_take]; rfl)) ?_
       with_reducible refine (impl_namesFrom.calls k1 _ _ l0_0 _ _ l0_1 x13_1 t685 _ ?side1 ?side2 ?side3 ?side4 A20.out).mono ?_
       (case side1 => exact cB HR0_0 HB)
       (case side2 => exact HC0_0.out)
       (case side3 => exact cB HR0_1 HB)
       (case side4 => exact HC0_1.out)
       rintro e w26 ⟨v686, rfl, ho0, hb⟩
       refine ⟨_, rfl, ?_⟩
       have n0_ := Aside0.mk (Kd.R_elder' (rP HO_685000) (Kd.R_base ho0) hb)
       have n1_ := Aside0.mk (Kd.R_elder' (rP HO_685001) (Kd.R_base ho0) hb)
       have n2_ := Aside0.mk (Kd.R_lower (Kd.R_new' (Kd.R_new' ho0 (Kd.R_lt (rP HO_685000))) (Kd.R_lt (rP HO_685001))) (below_size (bP HB)))
       have n3_ := kB BK673 hb
       have n4_ := kB BK674 hb
       have n5_ := kB BK684 hb
       have n6_ := kB BK694 hb
       have n7_ := bS HB hb
       clear HO_685000
       clear HO_685001
       clear BK673
       clear BK674
       clear BK684
       clear BK694
       clear HB
       have HO_685000 := n0_
       have HO_685001 := n1_
       have HO687 := n2_
       have BK673 := n3_
       have BK674 := n4_
       have BK684 := n5_
       have BK694 := n6_
       have HB := n7_
       clear n0_ n1_ n2_ n3_ n4_ n5_ n6_ n7_
       (try clear hb)
       (try clear hb2)
       (try clear hk)
       (try clear hi)
       (try clear ho0)
       obtain ⟨Ao27, co27, eo27⟩ := Kd.R_slice HO687.out
       (first | subst eo27 | (injection eo27 with f1_ f2_ f3_; have f4_ := f1_.symm; have f5_ := f3_.symm; clear f1_ f2_ f3_; subst f4_; subst f5_))
       refine hK.out _ _ ⟨(blk_cell BK673.out 0).trans rfl, (blk_cell BK673.out 1).trans rfl⟩ (fun hHeld => ?_)
       clear hK K
       refine norm_ (a' := ?_) ?_ ?_
       rotate_left
       ·show Act.put _ (some 19) _ = _
        simp only [Act.put, List.setIfInBounds_toArray, List.set_cons_zero, List.set_cons_succ, i64_w, i32_w]
        rfl
       refine one_ (i := 4) (N := some 20) #[true, true, true, true, true, true, false] rfl rfl (by kernel_rfl) (by decide) (fun K hK => ?_)
       refine goes_ Try.func46 (by kernel_rfl) rfl #[.agg #[.slice A0_0 l0_0.length c0_0, .slice A0_1 l0_1.length c0_1], .slice Ao27 t685.length co27] (by rfl) rfl rfl (by (try simp only [List.map_toArray, List.map_cons, List.map_nil]); first | done | rfl | (simp only [List.length_drop, List.length_take]; rfl)) ?_
       with_reducible refine (impl_renamed.calls k1 _ _ l0_0 _ _ l0_1 _ _ t685 t688 t691 _ ?side1 ?side2 ?side3 ?side4 ?side5 ?side6 A21.out).mono ?_
       (case side1 => exact cB HR0_0 HB)
       (case side2 => exact HC0_0.out)
       (case side3 => exact cB HR0_1 HB)
       (case side4 => exact HC0_1.out)
       (case side5 => exact cP (Kd.R_reads' HO687.out).2.2)
       (case side6 => exact (Kd.R_reads' HO687.out).2.1)
       rintro e w28 ⟨v689, v692, rfl, ho0, ho1, hb⟩
       refine ⟨_, rfl, ?_⟩
       have n0_ := Aside0.mk (Kd.R_mono (Kd.R_told (Kd.R_told (Kd.R_old (rP HO_685000) hb) (Kd.R_base ho0)) (Kd.R_base ho1)) (fun _ h_ => h_.1))
       have n1_ := Aside0.mk (Kd.R_mono (Kd.R_told (Kd.R_told (Kd.R_old (rP HO_685001) hb) (Kd.R_base ho0)) (Kd.R_base ho1)) (fun _ h_ => h_.1))
       have n2_ := Aside0.mk (Kd.R_mono (Kd.R_told (Kd.R_told (Kd.R_old (rP HO687) hb) (Kd.R_base ho0)) (Kd.R_base ho1)) (fun _ h_ => h_.1))
       have n3_ := Aside0.mk (Kd.R_lower (Kd.R_new' (Kd.R_new' (Kd.R_new' ho0 (Kd.R_lt (rP HO_685000))) (Kd.R_lt (rP HO_685001))) (Kd.R_lt (rP HO687))) (below_size (bP HB)))
       have n4_ := Aside0.mk (Kd.R_lower (Kd.R_new' (Kd.R_new' (Kd.R_new' ho1 (Kd.R_lt (rP HO_685000))) (Kd.R_lt (rP HO_685001))) (Kd.R_lt (rP HO687))) (below_size (bP HB)))
       have n5_ := kB BK673 hb
       have n6_ := kB BK674 hb
       have n7_ := kB BK684 hb
       have n8_ := kB BK694 hb
       have n9_ := bS HB hb
       clear HO_685000
       clear HO_685001
       clear HO687
       clear BK673
       clear BK674
       clear BK684
       clear BK694
       clear HB
       have HO_685000 := n0_
       have HO_685001 := n1_
       have HO687 := n2_
       have HO690 := n3_
       have HO693 := n4_
       have BK673 := n5_
       have BK674 := n6_
       have BK684 := n7_
       have BK694 := n8_
       have HB := n9_
       clear n0_ n1_ n2_ n3_ n4_ n5_ n6_ n7_ n8_ n9_
       (try clear hb)
       (try clear hb2)
       (try clear hk)
       (try clear hi)
       (try clear ho0)
       (try clear ho1)
       refine hK.out _ _ ⟨(blk_cell BK673.out 0).trans rfl, (blk_cell BK673.out 1).trans rfl⟩ (fun hHeld => ?_)
       clear hK K
       refine norm_ (a' := ?_) ?_ ?_
       rotate_left
       ·show Act.put _ (some 20) _ = _
        simp only [Act.put, List.setIfInBounds_toArray, List.set_cons_zero, List.set_cons_succ, i64_w, i32_w]
        rfl
       exact norm_ (by simp only [putAll, Act.put, List.setIfInBounds_toArray, List.set_cons_zero, List.set_cons_succ]) (hCont (.slice Ao27 t685.length co27, v689, v692, gb694) _ ⟨hHeld, (by (with_reducible repeat (first | apply Kd.R_alloc | apply Kd.R_drewN | apply Kd.R_drew)); exact Kd.R_mono HO687.out (fun _ hk => ⟨hk.1.2, ⟨hk.2, ⟨hk.1.1.1.2, hk.1.1.2⟩⟩⟩)), (by (with_reducible repeat (first | apply Kd.R_alloc | apply Kd.R_drewN | apply Kd.R_drew)); exact Kd.R_mono HO690.out (fun _ hk => ⟨hk.2, ⟨hk.1.1.1, ⟨hk.1.1.2, hk.1.2⟩⟩⟩)), (by (with_reducible repeat (first | apply Kd.R_alloc | apply Kd.R_drewN | apply Kd.R_drew)); exact Kd.R_mono HO693.out (fun _ hk => ⟨hk.2, ⟨hk.1.1.1, ⟨hk.1.1.2, hk.1.2⟩⟩⟩)), (by (with_reducible repeat (first | apply Kd.R_alloc | apply Kd.R_drewN | apply Kd.R_drew)); exact Kd.R_mono HO_685000.out (fun _ hk => ⟨hk.1.1.2, ⟨hk.1.2, ⟨hk.2, hk.1.1.1⟩⟩⟩)), (by (with_reducible repeat (first | apply Kd.R_alloc | apply Kd.R_drewN | apply Kd.R_drew)); exact Kd.R_mono HO_685001.out (fun _ hk => ⟨hk.1.1.2, ⟨hk.1.2, ⟨hk.2, hk.1.1.1⟩⟩⟩)), (kP BK673), (kP BK674), (kP BK684), (kP BK694), GW694.out, GE694.out, NB673_694.out, NB694_673.out, NB674_694.out, NB694_674.out, NB684_694.out, NB694_684.out, (bP HB)⟩)
     rintro ⟨v686, v689, v692, gb694⟩ w29 ⟨hS_, h0_, h1_, h2_, h3_, h4_, h5_, h6_, h7_, h8_, h9_, h10_, h11_, h12_, h13_, h14_, h15_, h16_, h17_⟩
     have n0_ : Aside0 (Kd.R (Kd.int .i64) 3 w29 w.heap.size (fun k_ => some k_ ≠ (v689 : Value).ownBlock ∧ some k_ ≠ (v692 : Value).ownBlock ∧ some k_ ≠ (u685000 : Value).ownBlock ∧ some k_ ≠ (u685001 : Value).ownBlock) v686 t685) := ⟨h0_⟩
     have n1_ : Aside0 (Kd.R (Kd.int .i64) 3 w29 w.heap.size (fun k_ => some k_ ≠ (v686 : Value).ownBlock ∧ some k_ ≠ (v692 : Value).ownBlock ∧ some k_ ≠ (u685000 : Value).ownBlock ∧ some k_ ≠ (u685001 : Value).ownBlock) v689 t688) := ⟨h1_⟩
     have n2_ : Aside0 (Kd.R (Kd.int .i64) 3 w29 w.heap.size (fun k_ => some k_ ≠ (v686 : Value).ownBlock ∧ some k_ ≠ (v689 : Value).ownBlock ∧ some k_ ≠ (u685000 : Value).ownBlock ∧ some k_ ≠ (u685001 : Value).ownBlock) v692 t691) := ⟨h2_⟩
     have n3_ : Aside0 (Kd.R (Kd.int .i64) 3 w29 w.heap.size (fun k_ => some k_ ≠ (v686 : Value).ownBlock ∧ some k_ ≠ (v689 : Value).ownBlock ∧ some k_ ≠ (v692 : Value).ownBlock ∧ some k_ ≠ (u685001 : Value).ownBlock) u685000 x685000_1) := ⟨h3_⟩
     have n4_ : Aside0 (Kd.R (Kd.int .i64) 3 w29 w.heap.size (fun k_ => some k_ ≠ (v686 : Value).ownBlock ∧ some k_ ≠ (v689 : Value).ownBlock ∧ some k_ ≠ (v692 : Value).ownBlock ∧ some k_ ≠ (u685000 : Value).ownBlock) u685001 x685001_1) := ⟨h4_⟩
     have n5_ : Aside0 (w29.heap[gb673]? = some (.cells #[.slice A0_0 l0_0.length c0_0, .slice A0_1 l0_1.length c0_1] 40 (0, 0))) := ⟨h5_⟩
     have n6_ : Aside0 (w29.heap[gb674]? = some (.cells #[.slice none 0 0, .slice none 0 0] 40 (0, 0))) := ⟨h6_⟩
     have n7_ : Aside0 (w29.heap[gb684]? = some (.cells #[u685000, u685001] 40 (0, 0))) := ⟨h7_⟩
     have n8_ : Aside0 (w29.heap[gb694]? = some (.cells #[.slice none 0 0, .slice none 0 0] 40 (0, 0))) := ⟨h8_⟩
     have n9_ : Aside0 (w.heap.size ≤ gb694) := ⟨h9_⟩
     have n10_ : Aside0 (w.heap.size ≤ gb694) := ⟨h10_⟩
     have n11_ : Aside0 (gb673 ≠ gb694) := ⟨h11_⟩
     have n12_ : Aside0 (gb694 ≠ gb673) := ⟨h12_⟩
     have n13_ : Aside0 (gb674 ≠ gb694) := ⟨h13_⟩
     have n14_ : Aside0 (gb694 ≠ gb674) := ⟨h14_⟩
     have n15_ : Aside0 (gb684 ≠ gb694) := ⟨h15_⟩
     have n16_ : Aside0 (gb694 ≠ gb684) := ⟨h16_⟩
     have n17_ : Aside0 (Below w.heap.size w w29) := ⟨h17_⟩
     clear HO_685000
     clear HO_685001
     clear BK673
     clear BK674
     clear BK684
     clear HB
     clear h0_ h1_ h2_ h3_ h4_ h5_ h6_ h7_ h8_ h9_ h10_ h11_ h12_ h13_ h14_ h15_ h16_ h17_
     have HO687 := n0_
     have HO690 := n1_
     have HO693 := n2_
     have HO_685000 := n3_
     have HO_685001 := n4_
     have BK673 := n5_
     have BK674 := n6_
     have BK684 := n7_
     have BK694 := n8_
     have GW694 := n9_
     have GE694 := n10_
     have NB673_694 := n11_
     have NB694_673 := n12_
     have NB674_694 := n13_
     have NB694_674 := n14_
     have NB684_694 := n15_
     have NB694_684 := n16_
     have HB := n17_
     clear n0_ n1_ n2_ n3_ n4_ n5_ n6_ n7_ n8_ n9_ n10_ n11_ n12_ n13_ n14_ n15_ n16_ n17_
     have hHeld : w29.cell? ⟨gb673, 0, none⟩ = some (.slice A0_0 l0_0.length c0_0) ∧ w29.cell? ⟨gb673, 1, none⟩ = some (.slice A0_1 l0_1.length c0_1) := hS_
     obtain ⟨Ao30, co30, eo30⟩ := Kd.R_slice HO690.out
     (first | subst eo30 | (injection eo30 with f1_ f2_ f3_; have f4_ := f1_.symm; have f5_ := f3_.symm; clear f1_ f2_ f3_; subst f4_; subst f5_))
     obtain ⟨Ao32, co32, eo32⟩ := Kd.R_slice HO693.out
     (first | subst eo32 | (injection eo32 with f1_ f2_ f3_; have f4_ := f1_.symm; have f5_ := f3_.symm; clear f1_ f2_ f3_; subst f4_; subst f5_))
     refine norm_ (a' := ?_) ?_ ?_
     rotate_left
     ·simp only [putAll, Act.put, List.setIfInBounds_toArray, List.set_cons_zero, List.set_cons_succ]
      rfl
     refine one_ (i := 6) (N := none) #[true, true, true, true, true, true, true] rfl rfl (by kernel_rfl) (by decide) (fun K hK => ?_)
     have hs31 : w29.cell? ⟨gb694, 0, none⟩ = some (.slice none 0 0) := (blk_cell BK694.out 0).trans rfl
     have hfs31 := blk_frozen BK694.out 0
     have hns31_0 := NB673_694.out
     have hns31_1 := NB674_694.out
     have hns31_2 := NB684_694.out
     have hms31_0 := NB694_673.out
     have hms31_1 := NB694_674.out
     have hms31_2 := NB694_684.out
     have hs33 : w29.cell? ⟨gb694, 1, none⟩ = some (.slice none 0 0) := (blk_cell BK694.out 1).trans rfl
     have hfs33 := blk_frozen BK694.out 1
     have hns33_0 := NB673_694.out
     have hns33_1 := NB674_694.out
     have hns33_2 := NB684_694.out
     have hms33_0 := NB694_673.out
     have hms33_1 := NB694_674.out
     have hms33_2 := NB694_684.out
     refine skip_ (w1 := ?_) (by rfl) rfl ?_ ?_
     rotate_left
     ·go_simp
      rfl
     refine hK.out _ _ ⟨((cell_far (p := ⟨gb694, _, none⟩) NB673_694.out _).trans (((cell_far (p := ⟨gb694, _, none⟩) NB673_694.out _).trans (hHeld.1)))), ((cell_far (p := ⟨gb694, _, none⟩) NB673_694.out _).trans (((cell_far (p := ⟨gb694, _, none⟩) NB673_694.out _).trans (hHeld.2))))⟩ (fun hHeld => ?_)
     clear hK K
     refine done_ (by kernel_rfl) ?_
     have hnb34 := NB694_673.out
     have hnc34 := NB673_694.out
     have hnb35 := NB694_674.out
     have hnc35 := NB674_694.out
     have hnb36 := NB694_684.out
     have hnc36 := NB684_694.out
     have hcz37_0 := zc0 BK694
     have hcz37_1 := zc1 BK694
     have hfz37_0 := blk_frozen BK694.out 0
     have hfz37_1 := blk_frozen BK694.out 1
     have hnb38 := NB684_673.out
     have hnc38 := NB673_684.out
     have hnb39 := NB684_674.out
     have hnc39 := NB674_684.out
     have hcz40_0 := zc0 BK684
     have hcz40_1 := zc1 BK684
     have hfz40_0 := blk_frozen BK684.out 0
     have hfz40_1 := blk_frozen BK684.out 1
     obtain ⟨Ao41, co41, eo41⟩ := Kd.R_slice HO_685000.out
     subst eo41
     obtain ⟨Ao42, co42, eo42⟩ := Kd.R_slice HO_685001.out
     subst eo42
     try go_wp2_with (first | ((with_reducible refine gate_callee (f := 62) rfl ?_); refine gL (some 23) Try.func62 #[.agg #[.slice Ao30 t688.length co30, .slice Ao32 t691.length co32], .agg #[.slice Ao41 x685000_1.length co41, .slice Ao42 x685001_1.length co42]] ?_; (with_reducible refine (impl_compareMaps.calls k1 _ _ t688 _ _ t691 _ _ x685000_1 _ _ x685001_1 t695 _ ?side1 ?side2 ?side3 ?side4 ?side5 ?side6 ?side7 ?side8 A22.out).mono ?_); (case side1 => refine (Kd.R_reads' (e := 3) (base := w.heap.size) (ok := fun k_ => (some k_ ≠ (v686 : Value).ownBlock ∧ (some k_ ≠ (.slice Ao32 t691.length co32 : Value).ownBlock ∧ (some k_ ≠ (.slice Ao41 x685000_1.length co41 : Value).ownBlock ∧ some k_ ≠ (.slice Ao42 x685001_1.length co42 : Value).ownBlock)))) (n := t688.length) (c := co30) ?_).2.2; exact (rT (Kd.R_mono (Kd.R_far (p := ⟨gb694, 1, none⟩) (Kd.R_far (p := ⟨gb694, 0, none⟩) (Kd.R_types HO690.out BK694.out (by decide)) (fun _ hk => hk.2) (.slice Ao30 t688.length co30)) (fun _ hk => hk.2) (.slice Ao32 t691.length co32)) (fun _ h_ => h_.1)))); (case side2 => exact (Kd.R_reads' HO690.out).2.1); (case side3 => refine (Kd.R_reads' (e := 3) (base := w.heap.size) (ok := fun k_ => (some k_ ≠ (v686 : Value).ownBlock ∧ (some k_ ≠ (.slice Ao30 t688.length co30 : Value).ownBlock ∧ (some k_ ≠ (.slice Ao41 x685000_1.length co41 : Value).ownBlock ∧ some k_ ≠ (.slice Ao42 x685001_1.length co42 : Value).ownBlock)))) (n := t691.length) (c := co32) ?_).2.2; exact (rT (Kd.R_mono (Kd.R_far (p := ⟨gb694, 1, none⟩) (Kd.R_far (p := ⟨gb694, 0, none⟩) (Kd.R_types HO693.out BK694.out (by decide)) (fun _ hk => hk.2) (.slice Ao30 t688.length co30)) (fun _ hk => hk.2) (.slice Ao32 t691.length co32)) (fun _ h_ => h_.1)))); (case side4 => exact (Kd.R_reads' HO693.out).2.1); (case side5 => refine (Kd.R_reads' (e := 3) (base := w.heap.size) (ok := fun k_ => (some k_ ≠ (v686 : Value).ownBlock ∧ (some k_ ≠ (.slice Ao30 t688.length co30 : Value).ownBlock ∧ (some k_ ≠ (.slice Ao32 t691.length co32 : Value).ownBlock ∧ some k_ ≠ (.slice Ao42 x685001_1.length co42 : Value).ownBlock)))) (n := x685000_1.length) (c := co41) ?_).2.2; exact (rT (Kd.R_mono (Kd.R_far (p := ⟨gb694, 1, none⟩) (Kd.R_far (p := ⟨gb694, 0, none⟩) (Kd.R_types HO_685000.out BK694.out (by decide)) (fun _ hk => hk.2) (.slice Ao30 t688.length co30)) (fun _ hk => hk.2) (.slice Ao32 t691.length co32)) (fun _ h_ => h_.1)))); (case side6 => exact (Kd.R_reads' HO_685000.out).2.1); (case side7 => refine (Kd.R_reads' (e := 3) (base := w.heap.size) (ok := fun k_ => (some k_ ≠ (v686 : Value).ownBlock ∧ (some k_ ≠ (.slice Ao30 t688.length co30 : Value).ownBlock ∧ (some k_ ≠ (.slice Ao32 t691.length co32 : Value).ownBlock ∧ some k_ ≠ (.slice Ao41 x685000_1.length co41 : Value).ownBlock)))) (n := x685001_1.length) (c := co42) ?_).2.2; exact (rT (Kd.R_mono (Kd.R_far (p := ⟨gb694, 1, none⟩) (Kd.R_far (p := ⟨gb694, 0, none⟩) (Kd.R_types HO_685001.out BK694.out (by decide)) (fun _ hk => hk.2) (.slice Ao30 t688.length co30)) (fun _ hk => hk.2) (.slice Ao32 t691.length co32)) (fun _ h_ => h_.1)))); (case side8 => exact (Kd.R_reads' HO_685001.out).2.1); rintro e w43 ⟨rfl, hb⟩; refine ⟨_, rfl, ?_⟩; replace HO_685000 := Aside0.mk (Kd.R_below (rT (Kd.R_mono (Kd.R_far (p := ⟨gb694, 1, none⟩) (Kd.R_far (p := ⟨gb694, 0, none⟩) (Kd.R_types HO_685000.out BK694.out (by decide)) (fun _ hk => hk.2) (.slice Ao30 t688.length co30)) (fun _ hk => hk.2) (.slice Ao32 t691.length co32)) (fun _ h_ => h_.1))) hb); replace HO_685001 := Aside0.mk (Kd.R_below (rT (Kd.R_mono (Kd.R_far (p := ⟨gb694, 1, none⟩) (Kd.R_far (p := ⟨gb694, 0, none⟩) (Kd.R_types HO_685001.out BK694.out (by decide)) (fun _ hk => hk.2) (.slice Ao30 t688.length co30)) (fun _ hk => hk.2) (.slice Ao32 t691.length co32)) (fun _ h_ => h_.1))) hb); replace HO687 := Aside0.mk (Kd.R_below (rT (Kd.R_mono (Kd.R_far (p := ⟨gb694, 1, none⟩) (Kd.R_far (p := ⟨gb694, 0, none⟩) (Kd.R_types HO687.out BK694.out (by decide)) (fun _ hk => hk.2) (.slice Ao30 t688.length co30)) (fun _ hk => hk.2) (.slice Ao32 t691.length co32)) (fun _ h_ => h_.1))) hb); replace HO690 := Aside0.mk (Kd.R_below (rT (Kd.R_mono (Kd.R_far (p := ⟨gb694, 1, none⟩) (Kd.R_far (p := ⟨gb694, 0, none⟩) (Kd.R_types HO690.out BK694.out (by decide)) (fun _ hk => hk.2) (.slice Ao30 t688.length co30)) (fun _ hk => hk.2) (.slice Ao32 t691.length co32)) (fun _ h_ => h_.1))) hb); replace HO693 := Aside0.mk (Kd.R_below (rT (Kd.R_mono (Kd.R_far (p := ⟨gb694, 1, none⟩) (Kd.R_far (p := ⟨gb694, 0, none⟩) (Kd.R_types HO693.out BK694.out (by decide)) (fun _ hk => hk.2) (.slice Ao30 t688.length co30)) (fun _ hk => hk.2) (.slice Ao32 t691.length co32)) (fun _ h_ => h_.1))) hb); replace BK673 := kG BK673 hb; replace BK674 := kG BK674 hb; replace BK684 := kG BK684 hb; replace BK694 := Aside0.mk (blk_below (g := gb694) (o := .cells #[.slice Ao30 t688.length co30, .slice Ao32 t691.length co32] 40 (0, 0)) (by (with_reducible repeat (first | refine blk_drewN ?_ _ | refine blk_drew ?_ | refine blk_alloc ?_ _)); refine blk_put (cs := #[.slice Ao30 t688.length co30, .slice none 0 0]) ?_ 1 _ rfl; (with_reducible repeat (first | refine blk_drewN ?_ _ | refine blk_drew ?_ | refine blk_alloc ?_ _)); refine blk_put (cs := #[.slice none 0 0, .slice none 0 0]) ?_ 0 _ rfl; (with_reducible repeat (first | refine blk_drewN ?_ _ | refine blk_drew ?_ | refine blk_alloc ?_ _)); exact BK694.out) hb); replace HB := bS HB hb; (try clear hb); (try clear hb2); (try clear hk); (try clear hi); have hcz44_0 := zc0 BK694; have hcz44_1 := zc1 BK694; have hfz44_0 := blk_frozen BK694.out 0; have hfz44_1 := blk_frozen BK694.out 1; have hcz45_0 := zc0 BK684; have hcz45_1 := zc1 BK684; have hfz45_0 := blk_frozen BK684.out 0; have hfz45_1 := blk_frozen BK684.out 1))
     go_roundg k1
     case measure => have := HK1.out; omega
     case rel => exact ⟨(wrap64 (x13_1 + 1)), (t688), (t691), (.slice Ao30 t688.length co30), (.slice Ao32 t691.length co32), eS, H', ⟨by have := HK1.out; omega⟩, ⟨by (with_reducible repeat (first | apply Kd.R_alloc | apply Kd.R_drewN | apply Kd.R_drew)); exact Kd.R_mono (Kd.R_far (p := ⟨gb684, 1, none⟩) (Kd.R_far (p := ⟨gb684, 0, none⟩) (Kd.R_types HO690.out BK684.out (by decide)) (fun _ hk => hk.2) (.slice Ao30 t688.length co30)) (fun _ hk => hk.2) (.slice Ao32 t691.length co32)) (fun _ hk => hk.1.2.1)⟩, ⟨by (with_reducible repeat (first | apply Kd.R_alloc | apply Kd.R_drewN | apply Kd.R_drew)); exact Kd.R_mono (Kd.R_far (p := ⟨gb684, 1, none⟩) (Kd.R_far (p := ⟨gb684, 0, none⟩) (Kd.R_types HO693.out BK684.out (by decide)) (fun _ hk => hk.2) (.slice Ao30 t688.length co30)) (fun _ hk => hk.2) (.slice Ao32 t691.length co32)) (fun _ hk => hk.1.2.1)⟩, ⟨kF BK673⟩, ⟨kF BK674⟩, ⟨by (with_reducible repeat (first | refine blk_drewN ?_ _ | refine blk_drew ?_ | refine blk_alloc ?_ _)); refine blk_put (cs := #[.slice Ao30 t688.length co30, .slice Ao42 x685001_1.length co42]) ?_ 1 _ rfl; (with_reducible repeat (first | refine blk_drewN ?_ _ | refine blk_drew ?_ | refine blk_alloc ?_ _)); refine blk_put (cs := #[.slice Ao41 x685000_1.length co41, .slice Ao42 x685001_1.length co42]) ?_ 0 _ rfl; (with_reducible repeat (first | refine blk_drewN ?_ _ | refine blk_drew ?_ | refine blk_alloc ?_ _)); exact BK684.out⟩, ⟨bP HB⟩⟩
    ·rw [if_neg c23] at H
     have c23b0 : decide (t695 < 0) = false := decide_eq_false c23
     clear c23
     have H' := Aside0.mk H
     clear H
     try go_wp2
     have n0_ := Aside0.mk (Kd.R_drew HO_685000.out)
     have n1_ := Aside0.mk (Kd.R_drew HO_685001.out)
     have n2_ := Aside0.mk (blk_drew BK673.out)
     have n3_ := Aside0.mk (blk_drew BK674.out)
     have n4_ := Aside0.mk (blk_drew BK684.out)
     have n5_ := Aside0.mk (below_drew1 HB.out)
     clear HO_685000
     clear HO_685001
     clear BK673
     clear BK674
     clear BK684
     clear HB
     have HO_685000 := n0_
     have HO_685001 := n1_
     have BK673 := n2_
     have BK674 := n3_
     have BK684 := n4_
     have HB := n5_
     clear n0_ n1_ n2_ n3_ n4_ n5_
     refine start_ (n := 7) (S := fun w' => w'.cell? ⟨gb673, 0, none⟩ = some (.slice A0_0 l0_0.length c0_0) ∧ w'.cell? ⟨gb673, 1, none⟩ = some (.slice A0_1 l0_1.length c0_1)) (ds := []) #[false, false, false, false, false, false, false] (by kernel_rfl) rfl rfl ⟨(blk_cell BK673.out 0).trans rfl, (blk_cell BK673.out 1).trans rfl⟩ (fun hHeld => ?_)
     generalize wr.drew = w46 at HO_685000 HO_685001 BK673 BK674 BK684 HB hHeld ⊢
     refine pure_ (i := 2) (N := some 18) (v := ?_) (a' := ?_) #[false, false, true, false, false, false, false] rfl rfl (by kernel_rfl) (fun _ _ _ h => h) (Or.inl ⟨by rfl, ?_⟩) ?_ ?_
     rotate_left
     ·intro w'
      go_simp
      with_reducible rfl
     rotate_left
     ·simp only [Act.put, List.setIfInBounds_toArray, List.set_cons_zero, List.set_cons_succ, i64_w, i32_w]
      rfl
     refine take_ (i := 0) (N := some 16) (v := ?_) (a' := ?_) #[true, false, true, false, false, false, false] rfl rfl (by kernel_rfl) (fun _ _ _ h => h) (Or.inl ⟨by rfl, ?_⟩) hHeld ?_ ?_
     rotate_left
     ·rintro w' ⟨s0, s1⟩
      go_simp
      with_reducible rfl
     rotate_left
     ·simp only [Act.put, List.setIfInBounds_toArray, List.set_cons_zero, List.set_cons_succ, i64_w, i32_w]
      rfl
     refine take_ (i := 1) (N := some 17) (v := ?_) (a' := ?_) #[true, true, true, false, false, false, false] rfl rfl (by kernel_rfl) (fun _ _ _ h => h) (Or.inl ⟨by rfl, ?_⟩) hHeld ?_ ?_
     rotate_left
     ·rintro w' ⟨s0, s1⟩
      go_simp
      with_reducible rfl
     rotate_left
     ·simp only [Act.put, List.setIfInBounds_toArray, List.set_cons_zero, List.set_cons_succ, i64_w, i32_w]
      rfl
     refine join_ (σ := Value × Value × Value × Nat) 1 #[true, true, true, true, true, true, false] (fun s_ => [(19, s_.1), (20, .agg #[s_.2.1, s_.2.2.1]), (5, .pointer (some ⟨s_.2.2.2, 0, none⟩))]) (fun s_ w' => (w'.cell? ⟨gb673, 0, none⟩ = some (.slice A0_0 l0_0.length c0_0) ∧ w'.cell? ⟨gb673, 1, none⟩ = some (.slice A0_1 l0_1.length c0_1)) ∧ (Kd.R (Kd.int .i64) 3 w' w.heap.size (fun k_ => some k_ ≠ (s_.2.1 : Value).ownBlock ∧ some k_ ≠ (s_.2.2.1 : Value).ownBlock ∧ some k_ ≠ (u685000 : Value).ownBlock ∧ some k_ ≠ (u685001 : Value).ownBlock) s_.1 t685) ∧ (Kd.R (Kd.int .i64) 3 w' w.heap.size (fun k_ => some k_ ≠ (s_.1 : Value).ownBlock ∧ some k_ ≠ (s_.2.2.1 : Value).ownBlock ∧ some k_ ≠ (u685000 : Value).ownBlock ∧ some k_ ≠ (u685001 : Value).ownBlock) s_.2.1 t688) ∧ (Kd.R (Kd.int .i64) 3 w' w.heap.size (fun k_ => some k_ ≠ (s_.1 : Value).ownBlock ∧ some k_ ≠ (s_.2.1 : Value).ownBlock ∧ some k_ ≠ (u685000 : Value).ownBlock ∧ some k_ ≠ (u685001 : Value).ownBlock) s_.2.2.1 t691) ∧ (Kd.R (Kd.int .i64) 3 w' w.heap.size (fun k_ => some k_ ≠ (s_.1 : Value).ownBlock ∧ some k_ ≠ (s_.2.1 : Value).ownBlock ∧ some k_ ≠ (s_.2.2.1 : Value).ownBlock ∧ some k_ ≠ (u685001 : Value).ownBlock) u685000 x685000_1) ∧ (Kd.R (Kd.int .i64) 3 w' w.heap.size (fun k_ => some k_ ≠ (s_.1 : Value).ownBlock ∧ some k_ ≠ (s_.2.1 : Value).ownBlock ∧ some k_ ≠ (s_.2.2.1 : Value).ownBlock ∧ some k_ ≠ (u685000 : Value).ownBlock) u685001 x685001_1) ∧ (w'.heap[gb673]? = some (.cells #[.slice A0_0 l0_0.length c0_0, .slice A0_1 l0_1.length c0_1] 40 (0, 0))) ∧ (w'.heap[gb674]? = some (.cells #[.slice none 0 0, .slice none 0 0] 40 (0, 0))) ∧ (w'.heap[gb684]? = some (.cells #[u685000, u685001] 40 (0, 0))) ∧ (w'.heap[s_.2.2.2]? = some (.cells #[.slice none 0 0, .slice none 0 0] 40 (0, 0))) ∧ (w.heap.size ≤ s_.2.2.2) ∧ (w.heap.size ≤ s_.2.2.2) ∧ (gb673 ≠ s_.2.2.2) ∧ (s_.2.2.2 ≠ gb673) ∧ (gb674 ≠ s_.2.2.2) ∧ (s_.2.2.2 ≠ gb674) ∧ (gb684 ≠ s_.2.2.2) ∧ (s_.2.2.2 ≠ gb684) ∧ (Below w.heap.size w w')) ?_ ?_
     rotate_left
     ·intro hCont
      refine two_ (i := 3) (j := 5) (Ni := some 19) (Nj := some 5) #[true, true, true, true, false, false, false] #[true, true, true, false, false, true, false] rfl rfl rfl rfl (by kernel_rfl) (by decide) (by decide) (fun K hK => ?_) (fun K hK => ?_)
      ·skip
       refine goes_ Try.func61 (by kernel_rfl) rfl #[.agg #[.slice A0_0 l0_0.length c0_0, .slice A0_1 l0_1.length c0_1], .int .i64 x13_1] (by rfl) rfl rfl (by (try simp only [List.map_toArray, List.map_cons, List.map_nil]); first | done | rfl | (simp only [List.length_drop, List.length_take]; rfl)) ?_
       with_reducible refine (impl_namesFrom.calls k1 _ _ l0_0 _ _ l0_1 x13_1 t685 _ ?side1 ?side2 ?side3 ?side4 A20.out).mono ?_
       (case side1 => exact cB HR0_0 HB)
       (case side2 => exact HC0_0.out)
       (case side3 => exact cB HR0_1 HB)
       (case side4 => exact HC0_1.out)
       rintro e w47 ⟨v686, rfl, ho0, hb⟩
       refine ⟨_, rfl, ?_⟩
       have n0_ := Aside0.mk (Kd.R_elder' (rP HO_685000) (Kd.R_base ho0) hb)
       have n1_ := Aside0.mk (Kd.R_elder' (rP HO_685001) (Kd.R_base ho0) hb)
       have n2_ := Aside0.mk (Kd.R_lower (Kd.R_new' (Kd.R_new' ho0 (Kd.R_lt (rP HO_685000))) (Kd.R_lt (rP HO_685001))) (below_size (bP HB)))
       have n3_ := kB BK673 hb
       have n4_ := kB BK674 hb
       have n5_ := kB BK684 hb
       have n6_ := bS HB hb
       clear HO_685000
       clear HO_685001
       clear BK673
       clear BK674
       clear BK684
       clear HB
       have HO_685000 := n0_
       have HO_685001 := n1_
       have HO687 := n2_
       have BK673 := n3_
       have BK674 := n4_
       have BK684 := n5_
       have HB := n6_
       clear n0_ n1_ n2_ n3_ n4_ n5_ n6_
       (try clear hb)
       (try clear hb2)
       (try clear hk)
       (try clear hi)
       (try clear ho0)
       obtain ⟨Ao48, co48, eo48⟩ := Kd.R_slice HO687.out
       (first | subst eo48 | (injection eo48 with f1_ f2_ f3_; have f4_ := f1_.symm; have f5_ := f3_.symm; clear f1_ f2_ f3_; subst f4_; subst f5_))
       refine hK.out _ _ ⟨(blk_cell BK673.out 0).trans rfl, (blk_cell BK673.out 1).trans rfl⟩ (fun hHeld => ?_)
       clear hK K
       refine norm_ (a' := ?_) ?_ ?_
       rotate_left
       ·show Act.put _ (some 19) _ = _
        simp only [Act.put, List.setIfInBounds_toArray, List.set_cons_zero, List.set_cons_succ, i64_w, i32_w]
        rfl
       refine two_ (i := 4) (j := 5) (Ni := some 20) (Nj := some 5) #[true, true, true, true, true, false, false] #[true, true, true, true, false, true, false] rfl rfl rfl rfl (by kernel_rfl) (by decide) (by decide) (fun K hK => ?_) (fun K hK => ?_)
       ·skip
        refine goes_ Try.func46 (by kernel_rfl) rfl #[.agg #[.slice A0_0 l0_0.length c0_0, .slice A0_1 l0_1.length c0_1], .slice Ao48 t685.length co48] (by rfl) rfl rfl (by (try simp only [List.map_toArray, List.map_cons, List.map_nil]); first | done | rfl | (simp only [List.length_drop, List.length_take]; rfl)) ?_
        with_reducible refine (impl_renamed.calls k1 _ _ l0_0 _ _ l0_1 _ _ t685 t688 t691 _ ?side1 ?side2 ?side3 ?side4 ?side5 ?side6 A21.out).mono ?_
        (case side1 => exact cB HR0_0 HB)
        (case side2 => exact HC0_0.out)
        (case side3 => exact cB HR0_1 HB)
        (case side4 => exact HC0_1.out)
        (case side5 => exact cP (Kd.R_reads' HO687.out).2.2)
        (case side6 => exact (Kd.R_reads' HO687.out).2.1)
        rintro e w49 ⟨v689, v692, rfl, ho0, ho1, hb⟩
        refine ⟨_, rfl, ?_⟩
        have n0_ := Aside0.mk (Kd.R_mono (Kd.R_told (Kd.R_told (Kd.R_old (rP HO_685000) hb) (Kd.R_base ho0)) (Kd.R_base ho1)) (fun _ h_ => h_.1))
        have n1_ := Aside0.mk (Kd.R_mono (Kd.R_told (Kd.R_told (Kd.R_old (rP HO_685001) hb) (Kd.R_base ho0)) (Kd.R_base ho1)) (fun _ h_ => h_.1))
        have n2_ := Aside0.mk (Kd.R_mono (Kd.R_told (Kd.R_told (Kd.R_old (rP HO687) hb) (Kd.R_base ho0)) (Kd.R_base ho1)) (fun _ h_ => h_.1))
        have n3_ := Aside0.mk (Kd.R_lower (Kd.R_new' (Kd.R_new' (Kd.R_new' ho0 (Kd.R_lt (rP HO_685000))) (Kd.R_lt (rP HO_685001))) (Kd.R_lt (rP HO687))) (below_size (bP HB)))
        have n4_ := Aside0.mk (Kd.R_lower (Kd.R_new' (Kd.R_new' (Kd.R_new' ho1 (Kd.R_lt (rP HO_685000))) (Kd.R_lt (rP HO_685001))) (Kd.R_lt (rP HO687))) (below_size (bP HB)))
        have n5_ := kB BK673 hb
        have n6_ := kB BK674 hb
        have n7_ := kB BK684 hb
        have n8_ := bS HB hb
        clear HO_685000
        clear HO_685001
        clear HO687
        clear BK673
        clear BK674
        clear BK684
        clear HB
        have HO_685000 := n0_
        have HO_685001 := n1_
        have HO687 := n2_
        have HO690 := n3_
        have HO693 := n4_
        have BK673 := n5_
        have BK674 := n6_
        have BK684 := n7_
        have HB := n8_
        clear n0_ n1_ n2_ n3_ n4_ n5_ n6_ n7_ n8_
        (try clear hb)
        (try clear hb2)
        (try clear hk)
        (try clear hi)
        (try clear ho0)
        (try clear ho1)
        refine hK.out _ _ ⟨(blk_cell BK673.out 0).trans rfl, (blk_cell BK673.out 1).trans rfl⟩ (fun hHeld => ?_)
        clear hK K
        refine norm_ (a' := ?_) ?_ ?_
        rotate_left
        ·show Act.put _ (some 20) _ = _
         simp only [Act.put, List.setIfInBounds_toArray, List.set_cons_zero, List.set_cons_succ, i64_w, i32_w]
         rfl
        refine one_ (i := 5) (N := some 5) #[true, true, true, true, true, true, false] rfl rfl (by kernel_rfl) (by decide) (fun K hK => ?_)
        refine box_step ?hg (N := 5) ?hd (cs := #[.slice none 0 0, .slice none 0 0]) (t := 40) ?hr ?_; (case hd => rfl); (case hg => rfl); (case hr => first | (go_simp; done) | (go_simp; rfl))
        intro gb694 hg w50 hbox hb
        have n0_ := rB HO_685000 hb
        have n1_ := rB HO_685001 hb
        have n2_ := rB HO687 hb
        have n3_ := rB HO690 hb
        have n4_ := rB HO693 hb
        have n5_ := kB BK673 hb
        have n6_ := kB BK674 hb
        have n7_ := kB BK684 hb
        have n8_ := bS HB hb
        have n9_ := Aside0.mk (hbox)
        have n10_ := gS HB hg
        have n11_ := gS HB hg
        have n12_ := nL BK673 hg
        have n13_ := nG BK673 hg
        have n14_ := nL BK674 hg
        have n15_ := nG BK674 hg
        have n16_ := nL BK684 hg
        have n17_ := nG BK684 hg
        clear HO_685000
        clear HO_685001
        clear HO687
        clear HO690
        clear HO693
        clear BK673
        clear BK674
        clear BK684
        clear HB
        have HO_685000 := n0_
        have HO_685001 := n1_
        have HO687 := n2_
        have HO690 := n3_
        have HO693 := n4_
        have BK673 := n5_
        have BK674 := n6_
        have BK684 := n7_
        have HB := n8_
        have BK694 := n9_
        have GW694 := n10_
        have GE694 := n11_
        have NB673_694 := n12_
        have NB694_673 := n13_
        have NB674_694 := n14_
        have NB694_674 := n15_
        have NB684_694 := n16_
        have NB694_684 := n17_
        clear n0_ n1_ n2_ n3_ n4_ n5_ n6_ n7_ n8_ n9_ n10_ n11_ n12_ n13_ n14_ n15_ n16_ n17_
        clear hb hbox hg
        refine hK.out _ _ ⟨(blk_cell BK673.out 0).trans rfl, (blk_cell BK673.out 1).trans rfl⟩ (fun hHeld => ?_)
        clear hK K
        refine norm_ (a' := ?_) ?_ ?_
        rotate_left
        ·show Act.put _ (some 5) _ = _
         simp only [Act.put, List.setIfInBounds_toArray, List.set_cons_zero, List.set_cons_succ, i64_w, i32_w]
         rfl
        exact norm_ (by simp only [putAll, Act.put, List.setIfInBounds_toArray, List.set_cons_zero, List.set_cons_succ]) (hCont (.slice Ao48 t685.length co48, v689, v692, gb694) _ ⟨hHeld, (by (with_reducible repeat (first | apply Kd.R_alloc | apply Kd.R_drewN | apply Kd.R_drew)); exact Kd.R_mono HO687.out (fun _ hk => ⟨hk.1.2, ⟨hk.2, ⟨hk.1.1.1.2, hk.1.1.2⟩⟩⟩)), (by (with_reducible repeat (first | apply Kd.R_alloc | apply Kd.R_drewN | apply Kd.R_drew)); exact Kd.R_mono HO690.out (fun _ hk => ⟨hk.2, ⟨hk.1.1.1, ⟨hk.1.1.2, hk.1.2⟩⟩⟩)), (by (with_reducible repeat (first | apply Kd.R_alloc | apply Kd.R_drewN | apply Kd.R_drew)); exact Kd.R_mono HO693.out (fun _ hk => ⟨hk.2, ⟨hk.1.1.1, ⟨hk.1.1.2, hk.1.2⟩⟩⟩)), (by (with_reducible repeat (first | apply Kd.R_alloc | apply Kd.R_drewN | apply Kd.R_drew)); exact Kd.R_mono HO_685000.out (fun _ hk => ⟨hk.1.1.2, ⟨hk.1.2, ⟨hk.2, hk.1.1.1⟩⟩⟩)), (by (with_reducible repeat (first | apply Kd.R_alloc | apply Kd.R_drewN | apply Kd.R_drew)); exact Kd.R_mono HO_685001.out (fun _ hk => ⟨hk.1.1.2, ⟨hk.1.2, ⟨hk.2, hk.1.1.1⟩⟩⟩)), (kP BK673), (kP BK674), (kP BK684), (kP BK694), GW694.out, GE694.out, NB673_694.out, NB694_673.out, NB674_694.out, NB694_674.out, NB684_694.out, NB694_684.out, (bP HB)⟩)
       ·skip
        refine box_step ?hg (N := 5) ?hd (cs := #[.slice none 0 0, .slice none 0 0]) (t := 40) ?hr ?_; (case hd => rfl); (case hg => rfl); (case hr => first | (go_simp; done) | (go_simp; rfl))
        intro gb694 hg w48 hbox hb
        have n0_ := rB HO_685000 hb
        have n1_ := rB HO_685001 hb
        have n2_ := rB HO687 hb
        have n3_ := kB BK673 hb
        have n4_ := kB BK674 hb
        have n5_ := kB BK684 hb
        have n6_ := bS HB hb
        have n7_ := Aside0.mk (hbox)
        have n8_ := gS HB hg
        have n9_ := gS HB hg
        have n10_ := nL BK673 hg
        have n11_ := nG BK673 hg
        have n12_ := nL BK674 hg
        have n13_ := nG BK674 hg
        have n14_ := nL BK684 hg
        have n15_ := nG BK684 hg
        clear HO_685000
        clear HO_685001
        clear HO687
        clear BK673
        clear BK674
        clear BK684
        clear HB
        have HO_685000 := n0_
        have HO_685001 := n1_
        have HO687 := n2_
        have BK673 := n3_
        have BK674 := n4_
        have BK684 := n5_
        have HB := n6_
        have BK694 := n7_
        have GW694 := n8_
        have GE694 := n9_
        have NB673_694 := n10_
        have NB694_673 := n11_
        have NB674_694 := n12_
        have NB694_674 := n13_
        have NB684_694 := n14_
        have NB694_684 := n15_
        clear n0_ n1_ n2_ n3_ n4_ n5_ n6_ n7_ n8_ n9_ n10_ n11_ n12_ n13_ n14_ n15_
        clear hb hbox hg
        obtain ⟨Ao49, co49, eo49⟩ := Kd.R_slice HO687.out
        (first | subst eo49 | (injection eo49 with f1_ f2_ f3_; have f4_ := f1_.symm; have f5_ := f3_.symm; clear f1_ f2_ f3_; subst f4_; subst f5_))
        refine hK.out _ _ ⟨(blk_cell BK673.out 0).trans rfl, (blk_cell BK673.out 1).trans rfl⟩ (fun hHeld => ?_)
        clear hK K
        refine norm_ (a' := ?_) ?_ ?_
        rotate_left
        ·show Act.put _ (some 5) _ = _
         simp only [Act.put, List.setIfInBounds_toArray, List.set_cons_zero, List.set_cons_succ, i64_w, i32_w]
         rfl
        refine one_ (i := 4) (N := some 20) #[true, true, true, true, true, true, false] rfl rfl (by kernel_rfl) (by decide) (fun K hK => ?_)
        refine goes_ Try.func46 (by kernel_rfl) rfl #[.agg #[.slice A0_0 l0_0.length c0_0, .slice A0_1 l0_1.length c0_1], .slice Ao49 t685.length co49] (by rfl) rfl rfl (by (try simp only [List.map_toArray, List.map_cons, List.map_nil]); first | done | rfl | (simp only [List.length_drop, List.length_take]; rfl)) ?_
        with_reducible refine (impl_renamed.calls k1 _ _ l0_0 _ _ l0_1 _ _ t685 t688 t691 _ ?side1 ?side2 ?side3 ?side4 ?side5 ?side6 A21.out).mono ?_
        (case side1 => exact cB HR0_0 HB)
        (case side2 => exact HC0_0.out)
        (case side3 => exact cB HR0_1 HB)
        (case side4 => exact HC0_1.out)
        (case side5 => exact cP (Kd.R_reads' HO687.out).2.2)
        (case side6 => exact (Kd.R_reads' HO687.out).2.1)
        rintro e w50 ⟨v689, v692, rfl, ho0, ho1, hb⟩
        refine ⟨_, rfl, ?_⟩
        have n0_ := Aside0.mk (Kd.R_mono (Kd.R_told (Kd.R_told (Kd.R_old (rP HO_685000) hb) (Kd.R_base ho0)) (Kd.R_base ho1)) (fun _ h_ => h_.1))
        have n1_ := Aside0.mk (Kd.R_mono (Kd.R_told (Kd.R_told (Kd.R_old (rP HO_685001) hb) (Kd.R_base ho0)) (Kd.R_base ho1)) (fun _ h_ => h_.1))
        have n2_ := Aside0.mk (Kd.R_mono (Kd.R_told (Kd.R_told (Kd.R_old (rP HO687) hb) (Kd.R_base ho0)) (Kd.R_base ho1)) (fun _ h_ => h_.1))
        have n3_ := Aside0.mk (Kd.R_lower (Kd.R_new' (Kd.R_new' (Kd.R_new' ho0 (Kd.R_lt (rP HO_685000))) (Kd.R_lt (rP HO_685001))) (Kd.R_lt (rP HO687))) (below_size (bP HB)))
        have n4_ := Aside0.mk (Kd.R_lower (Kd.R_new' (Kd.R_new' (Kd.R_new' ho1 (Kd.R_lt (rP HO_685000))) (Kd.R_lt (rP HO_685001))) (Kd.R_lt (rP HO687))) (below_size (bP HB)))
        have n5_ := kB BK673 hb
        have n6_ := kB BK674 hb
        have n7_ := kB BK684 hb
        have n8_ := kB BK694 hb
        have n9_ := bS HB hb
        clear HO_685000
        clear HO_685001
        clear HO687
        clear BK673
        clear BK674
        clear BK684
        clear BK694
        clear HB
        have HO_685000 := n0_
        have HO_685001 := n1_
        have HO687 := n2_
        have HO690 := n3_
        have HO693 := n4_
        have BK673 := n5_
        have BK674 := n6_
        have BK684 := n7_
        have BK694 := n8_
        have HB := n9_
        clear n0_ n1_ n2_ n3_ n4_ n5_ n6_ n7_ n8_ n9_
        (try clear hb)
        (try clear hb2)
        (try clear hk)
        (try clear hi)
        (try clear ho0)
        (try clear ho1)
        refine hK.out _ _ ⟨(blk_cell BK673.out 0).trans rfl, (blk_cell BK673.out 1).trans rfl⟩ (fun hHeld => ?_)
        clear hK K
        refine norm_ (a' := ?_) ?_ ?_
        rotate_left
        ·show Act.put _ (some 20) _ = _
         simp only [Act.put, List.setIfInBounds_toArray, List.set_cons_zero, List.set_cons_succ, i64_w, i32_w]
         rfl
        exact norm_ (by simp only [putAll, Act.put, List.setIfInBounds_toArray, List.set_cons_zero, List.set_cons_succ]) (hCont (.slice Ao49 t685.length co49, v689, v692, gb694) _ ⟨hHeld, (by (with_reducible repeat (first | apply Kd.R_alloc | apply Kd.R_drewN | apply Kd.R_drew)); exact Kd.R_mono HO687.out (fun _ hk => ⟨hk.1.2, ⟨hk.2, ⟨hk.1.1.1.2, hk.1.1.2⟩⟩⟩)), (by (with_reducible repeat (first | apply Kd.R_alloc | apply Kd.R_drewN | apply Kd.R_drew)); exact Kd.R_mono HO690.out (fun _ hk => ⟨hk.2, ⟨hk.1.1.1, ⟨hk.1.1.2, hk.1.2⟩⟩⟩)), (by (with_reducible repeat (first | apply Kd.R_alloc | apply Kd.R_drewN | apply Kd.R_drew)); exact Kd.R_mono HO693.out (fun _ hk => ⟨hk.2, ⟨hk.1.1.1, ⟨hk.1.1.2, hk.1.2⟩⟩⟩)), (by (with_reducible repeat (first | apply Kd.R_alloc | apply Kd.R_drewN | apply Kd.R_drew)); exact Kd.R_mono HO_685000.out (fun _ hk => ⟨hk.1.1.2, ⟨hk.1.2, ⟨hk.2, hk.1.1.1⟩⟩⟩)), (by (with_reducible repeat (first | apply Kd.R_alloc | apply Kd.R_drewN | apply Kd.R_drew)); exact Kd.R_mono HO_685001.out (fun _ hk => ⟨hk.1.1.2, ⟨hk.1.2, ⟨hk.2, hk.1.1.1⟩⟩⟩)), (kP BK673), (kP BK674), (kP BK684), (kP BK694), GW694.out, GE694.out, NB673_694.out, NB694_673.out, NB674_694.out, NB694_674.out, NB684_694.out, NB694_684.out, (bP HB)⟩)
      ·skip
       refine box_step ?hg (N := 5) ?hd (cs := #[.slice none 0 0, .slice none 0 0]) (t := 40) ?hr ?_; (case hd => rfl); (case hg => rfl); (case hr => first | (go_simp; done) | (go_simp; rfl))
       intro gb694 hg w47 hbox hb
       have n0_ := rB HO_685000 hb
       have n1_ := rB HO_685001 hb
       have n2_ := kB BK673 hb
       have n3_ := kB BK674 hb
       have n4_ := kB BK684 hb
       have n5_ := bS HB hb
       have n6_ := Aside0.mk (hbox)
       have n7_ := gS HB hg
       have n8_ := gS HB hg
       have n9_ := nL BK673 hg
       have n10_ := nG BK673 hg
       have n11_ := nL BK674 hg
       have n12_ := nG BK674 hg
       have n13_ := nL BK684 hg
       have n14_ := nG BK684 hg
       clear HO_685000
       clear HO_685001
       clear BK673
       clear BK674
       clear BK684
       clear HB
       have HO_685000 := n0_
       have HO_685001 := n1_
       have BK673 := n2_
       have BK674 := n3_
       have BK684 := n4_
       have HB := n5_
       have BK694 := n6_
       have GW694 := n7_
       have GE694 := n8_
       have NB673_694 := n9_
       have NB694_673 := n10_
       have NB674_694 := n11_
       have NB694_674 := n12_
       have NB684_694 := n13_
       have NB694_684 := n14_
       clear n0_ n1_ n2_ n3_ n4_ n5_ n6_ n7_ n8_ n9_ n10_ n11_ n12_ n13_ n14_
       clear hb hbox hg
       refine hK.out _ _ ⟨(blk_cell BK673.out 0).trans rfl, (blk_cell BK673.out 1).trans rfl⟩ (fun hHeld => ?_)
       clear hK K
       refine norm_ (a' := ?_) ?_ ?_
       rotate_left
       ·show Act.put _ (some 5) _ = _
        simp only [Act.put, List.setIfInBounds_toArray, List.set_cons_zero, List.set_cons_succ, i64_w, i32_w]
        rfl
       refine one_ (i := 3) (N := some 19) #[true, true, true, true, false, true, false] rfl rfl (by kernel_rfl) (by decide) (fun K hK => ?_)
       refine goes_ Try.func61 (by kernel_rfl) rfl #[.agg #[.slice A0_0 l0_0.length c0_0, .slice A0_1 l0_1.length c0_1], .int .i64 x13_1] (by rfl) rfl rfl (by (try simp only [List.map_toArray, List.map_cons, List.map_nil]); first | done | rfl | (simp only [List.length_drop, List.length_take]; rfl)) ?_
       with_reducible refine (impl_namesFrom.calls k1 _ _ l0_0 _ _ l0_1 x13_1 t685 _ ?side1 ?side2 ?side3 ?side4 A20.out).mono ?_
       (case side1 => exact cB HR0_0 HB)
       (case side2 => exact HC0_0.out)
       (case side3 => exact cB HR0_1 HB)
       (case side4 => exact HC0_1.out)
       rintro e w48 ⟨v686, rfl, ho0, hb⟩
       refine ⟨_, rfl, ?_⟩
       have n0_ := Aside0.mk (Kd.R_elder' (rP HO_685000) (Kd.R_base ho0) hb)
       have n1_ := Aside0.mk (Kd.R_elder' (rP HO_685001) (Kd.R_base ho0) hb)
       have n2_ := Aside0.mk (Kd.R_lower (Kd.R_new' (Kd.R_new' ho0 (Kd.R_lt (rP HO_685000))) (Kd.R_lt (rP HO_685001))) (below_size (bP HB)))
       have n3_ := kB BK673 hb
       have n4_ := kB BK674 hb
       have n5_ := kB BK684 hb
       have n6_ := kB BK694 hb
       have n7_ := bS HB hb
       clear HO_685000
       clear HO_685001
       clear BK673
       clear BK674
       clear BK684
       clear BK694
       clear HB
       have HO_685000 := n0_
       have HO_685001 := n1_
       have HO687 := n2_
       have BK673 := n3_
       have BK674 := n4_
       have BK684 := n5_
       have BK694 := n6_
       have HB := n7_
       clear n0_ n1_ n2_ n3_ n4_ n5_ n6_ n7_
       (try clear hb)
       (try clear hb2)
       (try clear hk)
       (try clear hi)
       (try clear ho0)
       obtain ⟨Ao49, co49, eo49⟩ := Kd.R_slice HO687.out
       (first | subst eo49 | (injection eo49 with f1_ f2_ f3_; have f4_ := f1_.symm; have f5_ := f3_.symm; clear f1_ f2_ f3_; subst f4_; subst f5_))
       refine hK.out _ _ ⟨(blk_cell BK673.out 0).trans rfl, (blk_cell BK673.out 1).trans rfl⟩ (fun hHeld => ?_)
       clear hK K
       refine norm_ (a' := ?_) ?_ ?_
       rotate_left
       ·show Act.put _ (some 19) _ = _
        simp only [Act.put, List.setIfInBounds_toArray, List.set_cons_zero, List.set_cons_succ, i64_w, i32_w]
        rfl
       refine one_ (i := 4) (N := some 20) #[true, true, true, true, true, true, false] rfl rfl (by kernel_rfl) (by decide) (fun K hK => ?_)
       refine goes_ Try.func46 (by kernel_rfl) rfl #[.agg #[.slice A0_0 l0_0.length c0_0, .slice A0_1 l0_1.length c0_1], .slice Ao49 t685.length co49] (by rfl) rfl rfl (by (try simp only [List.map_toArray, List.map_cons, List.map_nil]); first | done | rfl | (simp only [List.length_drop, List.length_take]; rfl)) ?_
       with_reducible refine (impl_renamed.calls k1 _ _ l0_0 _ _ l0_1 _ _ t685 t688 t691 _ ?side1 ?side2 ?side3 ?side4 ?side5 ?side6 A21.out).mono ?_
       (case side1 => exact cB HR0_0 HB)
       (case side2 => exact HC0_0.out)
       (case side3 => exact cB HR0_1 HB)
       (case side4 => exact HC0_1.out)
       (case side5 => exact cP (Kd.R_reads' HO687.out).2.2)
       (case side6 => exact (Kd.R_reads' HO687.out).2.1)
       rintro e w50 ⟨v689, v692, rfl, ho0, ho1, hb⟩
       refine ⟨_, rfl, ?_⟩
       have n0_ := Aside0.mk (Kd.R_mono (Kd.R_told (Kd.R_told (Kd.R_old (rP HO_685000) hb) (Kd.R_base ho0)) (Kd.R_base ho1)) (fun _ h_ => h_.1))
       have n1_ := Aside0.mk (Kd.R_mono (Kd.R_told (Kd.R_told (Kd.R_old (rP HO_685001) hb) (Kd.R_base ho0)) (Kd.R_base ho1)) (fun _ h_ => h_.1))
       have n2_ := Aside0.mk (Kd.R_mono (Kd.R_told (Kd.R_told (Kd.R_old (rP HO687) hb) (Kd.R_base ho0)) (Kd.R_base ho1)) (fun _ h_ => h_.1))
       have n3_ := Aside0.mk (Kd.R_lower (Kd.R_new' (Kd.R_new' (Kd.R_new' ho0 (Kd.R_lt (rP HO_685000))) (Kd.R_lt (rP HO_685001))) (Kd.R_lt (rP HO687))) (below_size (bP HB)))
       have n4_ := Aside0.mk (Kd.R_lower (Kd.R_new' (Kd.R_new' (Kd.R_new' ho1 (Kd.R_lt (rP HO_685000))) (Kd.R_lt (rP HO_685001))) (Kd.R_lt (rP HO687))) (below_size (bP HB)))
       have n5_ := kB BK673 hb
       have n6_ := kB BK674 hb
       have n7_ := kB BK684 hb
       have n8_ := kB BK694 hb
       have n9_ := bS HB hb
       clear HO_685000
       clear HO_685001
       clear HO687
       clear BK673
       clear BK674
       clear BK684
       clear BK694
       clear HB
       have HO_685000 := n0_
       have HO_685001 := n1_
       have HO687 := n2_
       have HO690 := n3_
       have HO693 := n4_
       have BK673 := n5_
       have BK674 := n6_
       have BK684 := n7_
       have BK694 := n8_
       have HB := n9_
       clear n0_ n1_ n2_ n3_ n4_ n5_ n6_ n7_ n8_ n9_
       (try clear hb)
       (try clear hb2)
       (try clear hk)
       (try clear hi)
       (try clear ho0)
       (try clear ho1)
       refine hK.out _ _ ⟨(blk_cell BK673.out 0).trans rfl, (blk_cell BK673.out 1).trans rfl⟩ (fun hHeld => ?_)
       clear hK K
       refine norm_ (a' := ?_) ?_ ?_
       rotate_left
       ·show Act.put _ (some 20) _ = _
        simp only [Act.put, List.setIfInBounds_toArray, List.set_cons_zero, List.set_cons_succ, i64_w, i32_w]
        rfl
       exact norm_ (by simp only [putAll, Act.put, List.setIfInBounds_toArray, List.set_cons_zero, List.set_cons_succ]) (hCont (.slice Ao49 t685.length co49, v689, v692, gb694) _ ⟨hHeld, (by (with_reducible repeat (first | apply Kd.R_alloc | apply Kd.R_drewN | apply Kd.R_drew)); exact Kd.R_mono HO687.out (fun _ hk => ⟨hk.1.2, ⟨hk.2, ⟨hk.1.1.1.2, hk.1.1.2⟩⟩⟩)), (by (with_reducible repeat (first | apply Kd.R_alloc | apply Kd.R_drewN | apply Kd.R_drew)); exact Kd.R_mono HO690.out (fun _ hk => ⟨hk.2, ⟨hk.1.1.1, ⟨hk.1.1.2, hk.1.2⟩⟩⟩)), (by (with_reducible repeat (first | apply Kd.R_alloc | apply Kd.R_drewN | apply Kd.R_drew)); exact Kd.R_mono HO693.out (fun _ hk => ⟨hk.2, ⟨hk.1.1.1, ⟨hk.1.1.2, hk.1.2⟩⟩⟩)), (by (with_reducible repeat (first | apply Kd.R_alloc | apply Kd.R_drewN | apply Kd.R_drew)); exact Kd.R_mono HO_685000.out (fun _ hk => ⟨hk.1.1.2, ⟨hk.1.2, ⟨hk.2, hk.1.1.1⟩⟩⟩)), (by (with_reducible repeat (first | apply Kd.R_alloc | apply Kd.R_drewN | apply Kd.R_drew)); exact Kd.R_mono HO_685001.out (fun _ hk => ⟨hk.1.1.2, ⟨hk.1.2, ⟨hk.2, hk.1.1.1⟩⟩⟩)), (kP BK673), (kP BK674), (kP BK684), (kP BK694), GW694.out, GE694.out, NB673_694.out, NB694_673.out, NB674_694.out, NB694_674.out, NB684_694.out, NB694_684.out, (bP HB)⟩)
     rintro ⟨v686, v689, v692, gb694⟩ w51 ⟨hS_, h0_, h1_, h2_, h3_, h4_, h5_, h6_, h7_, h8_, h9_, h10_, h11_, h12_, h13_, h14_, h15_, h16_, h17_⟩
     have n0_ : Aside0 (Kd.R (Kd.int .i64) 3 w51 w.heap.size (fun k_ => some k_ ≠ (v689 : Value).ownBlock ∧ some k_ ≠ (v692 : Value).ownBlock ∧ some k_ ≠ (u685000 : Value).ownBlock ∧ some k_ ≠ (u685001 : Value).ownBlock) v686 t685) := ⟨h0_⟩
     have n1_ : Aside0 (Kd.R (Kd.int .i64) 3 w51 w.heap.size (fun k_ => some k_ ≠ (v686 : Value).ownBlock ∧ some k_ ≠ (v692 : Value).ownBlock ∧ some k_ ≠ (u685000 : Value).ownBlock ∧ some k_ ≠ (u685001 : Value).ownBlock) v689 t688) := ⟨h1_⟩
     have n2_ : Aside0 (Kd.R (Kd.int .i64) 3 w51 w.heap.size (fun k_ => some k_ ≠ (v686 : Value).ownBlock ∧ some k_ ≠ (v689 : Value).ownBlock ∧ some k_ ≠ (u685000 : Value).ownBlock ∧ some k_ ≠ (u685001 : Value).ownBlock) v692 t691) := ⟨h2_⟩
     have n3_ : Aside0 (Kd.R (Kd.int .i64) 3 w51 w.heap.size (fun k_ => some k_ ≠ (v686 : Value).ownBlock ∧ some k_ ≠ (v689 : Value).ownBlock ∧ some k_ ≠ (v692 : Value).ownBlock ∧ some k_ ≠ (u685001 : Value).ownBlock) u685000 x685000_1) := ⟨h3_⟩
     have n4_ : Aside0 (Kd.R (Kd.int .i64) 3 w51 w.heap.size (fun k_ => some k_ ≠ (v686 : Value).ownBlock ∧ some k_ ≠ (v689 : Value).ownBlock ∧ some k_ ≠ (v692 : Value).ownBlock ∧ some k_ ≠ (u685000 : Value).ownBlock) u685001 x685001_1) := ⟨h4_⟩
     have n5_ : Aside0 (w51.heap[gb673]? = some (.cells #[.slice A0_0 l0_0.length c0_0, .slice A0_1 l0_1.length c0_1] 40 (0, 0))) := ⟨h5_⟩
     have n6_ : Aside0 (w51.heap[gb674]? = some (.cells #[.slice none 0 0, .slice none 0 0] 40 (0, 0))) := ⟨h6_⟩
     have n7_ : Aside0 (w51.heap[gb684]? = some (.cells #[u685000, u685001] 40 (0, 0))) := ⟨h7_⟩
     have n8_ : Aside0 (w51.heap[gb694]? = some (.cells #[.slice none 0 0, .slice none 0 0] 40 (0, 0))) := ⟨h8_⟩
     have n9_ : Aside0 (w.heap.size ≤ gb694) := ⟨h9_⟩
     have n10_ : Aside0 (w.heap.size ≤ gb694) := ⟨h10_⟩
     have n11_ : Aside0 (gb673 ≠ gb694) := ⟨h11_⟩
     have n12_ : Aside0 (gb694 ≠ gb673) := ⟨h12_⟩
     have n13_ : Aside0 (gb674 ≠ gb694) := ⟨h13_⟩
     have n14_ : Aside0 (gb694 ≠ gb674) := ⟨h14_⟩
     have n15_ : Aside0 (gb684 ≠ gb694) := ⟨h15_⟩
     have n16_ : Aside0 (gb694 ≠ gb684) := ⟨h16_⟩
     have n17_ : Aside0 (Below w.heap.size w w51) := ⟨h17_⟩
     clear HO_685000
     clear HO_685001
     clear BK673
     clear BK674
     clear BK684
     clear HB
     clear h0_ h1_ h2_ h3_ h4_ h5_ h6_ h7_ h8_ h9_ h10_ h11_ h12_ h13_ h14_ h15_ h16_ h17_
     have HO687 := n0_
     have HO690 := n1_
     have HO693 := n2_
     have HO_685000 := n3_
     have HO_685001 := n4_
     have BK673 := n5_
     have BK674 := n6_
     have BK684 := n7_
     have BK694 := n8_
     have GW694 := n9_
     have GE694 := n10_
     have NB673_694 := n11_
     have NB694_673 := n12_
     have NB674_694 := n13_
     have NB694_674 := n14_
     have NB684_694 := n15_
     have NB694_684 := n16_
     have HB := n17_
     clear n0_ n1_ n2_ n3_ n4_ n5_ n6_ n7_ n8_ n9_ n10_ n11_ n12_ n13_ n14_ n15_ n16_ n17_
     have hHeld : w51.cell? ⟨gb673, 0, none⟩ = some (.slice A0_0 l0_0.length c0_0) ∧ w51.cell? ⟨gb673, 1, none⟩ = some (.slice A0_1 l0_1.length c0_1) := hS_
     obtain ⟨Ao52, co52, eo52⟩ := Kd.R_slice HO690.out
     (first | subst eo52 | (injection eo52 with f1_ f2_ f3_; have f4_ := f1_.symm; have f5_ := f3_.symm; clear f1_ f2_ f3_; subst f4_; subst f5_))
     obtain ⟨Ao54, co54, eo54⟩ := Kd.R_slice HO693.out
     (first | subst eo54 | (injection eo54 with f1_ f2_ f3_; have f4_ := f1_.symm; have f5_ := f3_.symm; clear f1_ f2_ f3_; subst f4_; subst f5_))
     refine norm_ (a' := ?_) ?_ ?_
     rotate_left
     ·simp only [putAll, Act.put, List.setIfInBounds_toArray, List.set_cons_zero, List.set_cons_succ]
      rfl
     refine one_ (i := 6) (N := none) #[true, true, true, true, true, true, true] rfl rfl (by kernel_rfl) (by decide) (fun K hK => ?_)
     have hs53 : w51.cell? ⟨gb694, 0, none⟩ = some (.slice none 0 0) := (blk_cell BK694.out 0).trans rfl
     have hfs53 := blk_frozen BK694.out 0
     have hns53_0 := NB673_694.out
     have hns53_1 := NB674_694.out
     have hns53_2 := NB684_694.out
     have hms53_0 := NB694_673.out
     have hms53_1 := NB694_674.out
     have hms53_2 := NB694_684.out
     have hs55 : w51.cell? ⟨gb694, 1, none⟩ = some (.slice none 0 0) := (blk_cell BK694.out 1).trans rfl
     have hfs55 := blk_frozen BK694.out 1
     have hns55_0 := NB673_694.out
     have hns55_1 := NB674_694.out
     have hns55_2 := NB684_694.out
     have hms55_0 := NB694_673.out
     have hms55_1 := NB694_674.out
     have hms55_2 := NB694_684.out
     refine skip_ (w1 := ?_) (by rfl) rfl ?_ ?_
     rotate_left
     ·go_simp
      rfl
     refine hK.out _ _ ⟨((cell_far (p := ⟨gb694, _, none⟩) NB673_694.out _).trans (((cell_far (p := ⟨gb694, _, none⟩) NB673_694.out _).trans (hHeld.1)))), ((cell_far (p := ⟨gb694, _, none⟩) NB673_694.out _).trans (((cell_far (p := ⟨gb694, _, none⟩) NB673_694.out _).trans (hHeld.2))))⟩ (fun hHeld => ?_)
     clear hK K
     refine done_ (by kernel_rfl) ?_
     have hnb56 := NB694_673.out
     have hnc56 := NB673_694.out
     have hnb57 := NB694_674.out
     have hnc57 := NB674_694.out
     have hnb58 := NB694_684.out
     have hnc58 := NB684_694.out
     have hcz59_0 := zc0 BK694
     have hcz59_1 := zc1 BK694
     have hfz59_0 := blk_frozen BK694.out 0
     have hfz59_1 := blk_frozen BK694.out 1
     have hnb60 := NB684_673.out
     have hnc60 := NB673_684.out
     have hnb61 := NB684_674.out
     have hnc61 := NB674_684.out
     have hcz62_0 := zc0 BK684
     have hcz62_1 := zc1 BK684
     have hfz62_0 := blk_frozen BK684.out 0
     have hfz62_1 := blk_frozen BK684.out 1
     obtain ⟨Ao63, co63, eo63⟩ := Kd.R_slice HO_685000.out
     subst eo63
     obtain ⟨Ao64, co64, eo64⟩ := Kd.R_slice HO_685001.out
     subst eo64
     try go_wp2_with (first | ((with_reducible refine gate_callee (f := 62) rfl ?_); refine gL (some 23) Try.func62 #[.agg #[.slice Ao52 t688.length co52, .slice Ao54 t691.length co54], .agg #[.slice Ao63 x685000_1.length co63, .slice Ao64 x685001_1.length co64]] ?_; (with_reducible refine (impl_compareMaps.calls k1 _ _ t688 _ _ t691 _ _ x685000_1 _ _ x685001_1 t695 _ ?side1 ?side2 ?side3 ?side4 ?side5 ?side6 ?side7 ?side8 A22.out).mono ?_); (case side1 => refine (Kd.R_reads' (e := 3) (base := w.heap.size) (ok := fun k_ => (some k_ ≠ (v686 : Value).ownBlock ∧ (some k_ ≠ (.slice Ao54 t691.length co54 : Value).ownBlock ∧ (some k_ ≠ (.slice Ao63 x685000_1.length co63 : Value).ownBlock ∧ some k_ ≠ (.slice Ao64 x685001_1.length co64 : Value).ownBlock)))) (n := t688.length) (c := co52) ?_).2.2; exact (rT (Kd.R_mono (Kd.R_far (p := ⟨gb694, 1, none⟩) (Kd.R_far (p := ⟨gb694, 0, none⟩) (Kd.R_types HO690.out BK694.out (by decide)) (fun _ hk => hk.2) (.slice Ao52 t688.length co52)) (fun _ hk => hk.2) (.slice Ao54 t691.length co54)) (fun _ h_ => h_.1)))); (case side2 => exact (Kd.R_reads' HO690.out).2.1); (case side3 => refine (Kd.R_reads' (e := 3) (base := w.heap.size) (ok := fun k_ => (some k_ ≠ (v686 : Value).ownBlock ∧ (some k_ ≠ (.slice Ao52 t688.length co52 : Value).ownBlock ∧ (some k_ ≠ (.slice Ao63 x685000_1.length co63 : Value).ownBlock ∧ some k_ ≠ (.slice Ao64 x685001_1.length co64 : Value).ownBlock)))) (n := t691.length) (c := co54) ?_).2.2; exact (rT (Kd.R_mono (Kd.R_far (p := ⟨gb694, 1, none⟩) (Kd.R_far (p := ⟨gb694, 0, none⟩) (Kd.R_types HO693.out BK694.out (by decide)) (fun _ hk => hk.2) (.slice Ao52 t688.length co52)) (fun _ hk => hk.2) (.slice Ao54 t691.length co54)) (fun _ h_ => h_.1)))); (case side4 => exact (Kd.R_reads' HO693.out).2.1); (case side5 => refine (Kd.R_reads' (e := 3) (base := w.heap.size) (ok := fun k_ => (some k_ ≠ (v686 : Value).ownBlock ∧ (some k_ ≠ (.slice Ao52 t688.length co52 : Value).ownBlock ∧ (some k_ ≠ (.slice Ao54 t691.length co54 : Value).ownBlock ∧ some k_ ≠ (.slice Ao64 x685001_1.length co64 : Value).ownBlock)))) (n := x685000_1.length) (c := co63) ?_).2.2; exact (rT (Kd.R_mono (Kd.R_far (p := ⟨gb694, 1, none⟩) (Kd.R_far (p := ⟨gb694, 0, none⟩) (Kd.R_types HO_685000.out BK694.out (by decide)) (fun _ hk => hk.2) (.slice Ao52 t688.length co52)) (fun _ hk => hk.2) (.slice Ao54 t691.length co54)) (fun _ h_ => h_.1)))); (case side6 => exact (Kd.R_reads' HO_685000.out).2.1); (case side7 => refine (Kd.R_reads' (e := 3) (base := w.heap.size) (ok := fun k_ => (some k_ ≠ (v686 : Value).ownBlock ∧ (some k_ ≠ (.slice Ao52 t688.length co52 : Value).ownBlock ∧ (some k_ ≠ (.slice Ao54 t691.length co54 : Value).ownBlock ∧ some k_ ≠ (.slice Ao63 x685000_1.length co63 : Value).ownBlock)))) (n := x685001_1.length) (c := co64) ?_).2.2; exact (rT (Kd.R_mono (Kd.R_far (p := ⟨gb694, 1, none⟩) (Kd.R_far (p := ⟨gb694, 0, none⟩) (Kd.R_types HO_685001.out BK694.out (by decide)) (fun _ hk => hk.2) (.slice Ao52 t688.length co52)) (fun _ hk => hk.2) (.slice Ao54 t691.length co54)) (fun _ h_ => h_.1)))); (case side8 => exact (Kd.R_reads' HO_685001.out).2.1); rintro e w65 ⟨rfl, hb⟩; refine ⟨_, rfl, ?_⟩; replace HO_685000 := Aside0.mk (Kd.R_below (rT (Kd.R_mono (Kd.R_far (p := ⟨gb694, 1, none⟩) (Kd.R_far (p := ⟨gb694, 0, none⟩) (Kd.R_types HO_685000.out BK694.out (by decide)) (fun _ hk => hk.2) (.slice Ao52 t688.length co52)) (fun _ hk => hk.2) (.slice Ao54 t691.length co54)) (fun _ h_ => h_.1))) hb); replace HO_685001 := Aside0.mk (Kd.R_below (rT (Kd.R_mono (Kd.R_far (p := ⟨gb694, 1, none⟩) (Kd.R_far (p := ⟨gb694, 0, none⟩) (Kd.R_types HO_685001.out BK694.out (by decide)) (fun _ hk => hk.2) (.slice Ao52 t688.length co52)) (fun _ hk => hk.2) (.slice Ao54 t691.length co54)) (fun _ h_ => h_.1))) hb); replace HO687 := Aside0.mk (Kd.R_below (rT (Kd.R_mono (Kd.R_far (p := ⟨gb694, 1, none⟩) (Kd.R_far (p := ⟨gb694, 0, none⟩) (Kd.R_types HO687.out BK694.out (by decide)) (fun _ hk => hk.2) (.slice Ao52 t688.length co52)) (fun _ hk => hk.2) (.slice Ao54 t691.length co54)) (fun _ h_ => h_.1))) hb); replace HO690 := Aside0.mk (Kd.R_below (rT (Kd.R_mono (Kd.R_far (p := ⟨gb694, 1, none⟩) (Kd.R_far (p := ⟨gb694, 0, none⟩) (Kd.R_types HO690.out BK694.out (by decide)) (fun _ hk => hk.2) (.slice Ao52 t688.length co52)) (fun _ hk => hk.2) (.slice Ao54 t691.length co54)) (fun _ h_ => h_.1))) hb); replace HO693 := Aside0.mk (Kd.R_below (rT (Kd.R_mono (Kd.R_far (p := ⟨gb694, 1, none⟩) (Kd.R_far (p := ⟨gb694, 0, none⟩) (Kd.R_types HO693.out BK694.out (by decide)) (fun _ hk => hk.2) (.slice Ao52 t688.length co52)) (fun _ hk => hk.2) (.slice Ao54 t691.length co54)) (fun _ h_ => h_.1))) hb); replace BK673 := kG BK673 hb; replace BK674 := kG BK674 hb; replace BK684 := kG BK684 hb; replace BK694 := Aside0.mk (blk_below (g := gb694) (o := .cells #[.slice Ao52 t688.length co52, .slice Ao54 t691.length co54] 40 (0, 0)) (by (with_reducible repeat (first | refine blk_drewN ?_ _ | refine blk_drew ?_ | refine blk_alloc ?_ _)); refine blk_put (cs := #[.slice Ao52 t688.length co52, .slice none 0 0]) ?_ 1 _ rfl; (with_reducible repeat (first | refine blk_drewN ?_ _ | refine blk_drew ?_ | refine blk_alloc ?_ _)); refine blk_put (cs := #[.slice none 0 0, .slice none 0 0]) ?_ 0 _ rfl; (with_reducible repeat (first | refine blk_drewN ?_ _ | refine blk_drew ?_ | refine blk_alloc ?_ _)); exact BK694.out) hb); replace HB := bS HB hb; (try clear hb); (try clear hb2); (try clear hk); (try clear hi)))
     go_roundg k1
     case measure => have := HK1.out; omega
     case rel => exact ⟨(wrap64 (x13_1 + 1)), (x685000_1), (x685001_1), (.slice Ao63 x685000_1.length co63), (.slice Ao64 x685001_1.length co64), eS, H', ⟨by have := HK1.out; omega⟩, ⟨by (with_reducible repeat (first | apply Kd.R_alloc | apply Kd.R_drewN | apply Kd.R_drew)); exact Kd.R_mono HO_685000.out (fun _ hk => hk.2.2.2)⟩, ⟨by (with_reducible repeat (first | apply Kd.R_alloc | apply Kd.R_drewN | apply Kd.R_drew)); exact Kd.R_mono HO_685001.out (fun _ hk => hk.2.2.2)⟩, ⟨kP BK673⟩, ⟨kP BK674⟩, ⟨kP BK684⟩, ⟨bP HB⟩⟩
   ·rw [if_neg c19] at H
    have c19b0 : decide (x13_1 < (l0_0.length : Int)) = false := decide_eq_false c19
    clear c19
    simp only [Option.some.injEq, Prod.mk.injEq] at H
    obtain ⟨rfl, rfl⟩ := H
    have hnb66 := NB684_673.out
    have hnc66 := NB673_684.out
    have hnb67 := NB684_674.out
    have hnc67 := NB674_684.out
    have hcz68_0 := zc0 BK684
    have hcz68_1 := zc1 BK684
    have hfz68_0 := blk_frozen BK684.out 0
    have hfz68_1 := blk_frozen BK684.out 1
    obtain ⟨Ao69, co69, eo69⟩ := Kd.R_slice HO_685000.out
    subst eo69
    have hnb70 := NB674_673.out
    have hnc70 := NB673_674.out
    have hcz71_0 := zc0 BK674
    have hcz71_1 := zc1 BK674
    have hfz71_0 := blk_frozen BK674.out 0
    have hfz71_1 := blk_frozen BK674.out 1
    obtain ⟨Ao72, co72, eo72⟩ := Kd.R_slice HO_685001.out
    subst eo72
    go_wp2
    refine bodyPost_ret (results_cell_row rfl _ _ gb674 40 #[.slice Ao69 x685000_1.length co69, .slice Ao72 x685001_1.length co72] (0, 0) _ rfl (by (with_reducible repeat (first | refine blk_drewN ?_ _ | refine blk_drew ?_ | refine blk_alloc ?_ _)); refine blk_put (cs := #[.slice Ao69 x685000_1.length co69, .slice none 0 0]) ?_ 1 _ rfl; (with_reducible repeat (first | refine blk_drewN ?_ _ | refine blk_drew ?_ | refine blk_alloc ?_ _)); refine blk_put (cs := #[.slice none 0 0, .slice none 0 0]) ?_ 0 _ rfl; (with_reducible repeat (first | refine blk_drewN ?_ _ | refine blk_drew ?_ | refine blk_alloc ?_ _)); exact BK674.out) Try.underlying40 rfl (by kernel_rfl)) rfl ?_
    exact ⟨_, _, eR, by (with_reducible repeat (first | apply Kd.R_alloc | apply Kd.R_drewN | apply Kd.R_drew)); exact Kd.R_mono (Kd.R_far (p := ⟨gb674, 1, none⟩) (Kd.R_far (p := ⟨gb674, 0, none⟩) (Kd.R_types HO_685000.out BK674.out (by decide)) (fun _ hk => hk.2) (.slice Ao69 x685000_1.length co69)) (fun _ hk => hk.2) (.slice Ao72 x685001_1.length co72)) (fun _ hk => hk.1), by (with_reducible repeat (first | apply Kd.R_alloc | apply Kd.R_drewN | apply Kd.R_drew)); exact Kd.R_mono (Kd.R_far (p := ⟨gb674, 1, none⟩) (Kd.R_far (p := ⟨gb674, 0, none⟩) (Kd.R_types HO_685001.out BK674.out (by decide)) (fun _ hk => hk.2) (.slice Ao69 x685000_1.length co69)) (fun _ hk => hk.2) (.slice Ao72 x685001_1.length co72)) (fun _ hk => hk.1), bP HB⟩

end Go.Proofs.Ytajmkjeiegdpcaa.F
