/- Contracts: what these Go functions return. -/
import Derived.Test.YtmjdmahgkidocaaF0
import Derived.Test.YtmjdmahgkidocaaF21
import Derived.Test.YtmjdmahgkidocaaF24
import Derived.Test.YtmjdmahgkidocaaF25
namespace Go.Proofs.Ytmjdmahgkidocaa.F
open Go.RowKit Go.Proofs.YtmjdmahgkidocaaW.PrintWords Go.Proofs.YtmjdmahgkidocaaW.PrintLast Go.Proofs.YtmjdmahgkidocaaW.PrintMore
attribute [local go_sem] max2_int min2_int max_two min_two max_three min_three max_four min_four
set_option linter.unusedVariables false
set_option linter.unusedSimpArgs false

/-! ### impl_leastForm: function 36 -/
def impl_leastForm.l0 : Nat → Int → Int → List Int → List Int → List Int → List Int → Option (List Int × List Int)
 | 0, _, _, _, _, _, _ => none
 | k + 1, x12, x13, x360000, x360001, x371000, x371001 => if x13 < x12 then ((impl_namesFrom.f k x360000 x360001 x13).bind fun t371 => ((impl_renamed.f k x360000 x360001 t371).bind fun bt374 => ((impl_compareMaps.f k bt374.1 bt374.2 x371000 x371001).bind fun t381 => (if t381 < 0 then (impl_leastForm.l0 k x12 (wrap64 (x13 + 1)) x360000 x360001 bt374.1 bt374.2) else (impl_leastForm.l0 k x12 (wrap64 (x13 + 1)) x360000 x360001 x371000 x371001))))) else (some (x371000, x371001))
def impl_leastForm.f (k : Nat) (l0_0 : List Int) (l0_1 : List Int) : Option (List Int × List Int) := (impl_namesFrom.f k l0_0 l0_1 0).bind fun t361 => ((impl_renamed.f k l0_0 l0_1 t361).bind fun bt364 => (impl_leastForm.l0 k (l0_0.length : Int) 0 l0_0 l0_1 bt364.1 bt364.2))
set_option maxHeartbeats 8000000 in
set_option maxRecDepth 100000 in
theorem impl_leastForm.calls (k : Nat) (A0_0 : Option Addr) (c0_0 : Nat) (l0_0 : List Int) (A0_1 : Option Addr) (c0_1 : Nat) (l0_1 : List Int) (r1 : List Int) (r2 : List Int) (w : World) (hr0_0 : Kd.C (Kd.int .i64) w A0_0 l0_0.length l0_0) (hc0_0 : l0_0.length ≤ c0_0) (hr0_1 : Kd.C (Kd.int .i64) w A0_1 l0_1.length l0_1) (hc0_1 : l0_1.length ≤ c0_1) (h : impl_leastForm.f k l0_0 l0_1 = some (r1, r2)) :
 Calls Try.prog 36 #[.agg #[.slice A0_0 l0_0.length c0_0, .slice A0_1 l0_1.length c0_1]] w fun e w' => ∃ v0_ v1_ : Value, e = .returned (.agg #[v0_, v1_]) ∧ Kd.R (Kd.int .i64) 3 w' w.heap.size (fun k_ => some k_ ≠ (v1_ : Value).ownBlock) v0_ r1 ∧ Kd.R (Kd.int .i64) 3 w' w.heap.size (fun k_ => some k_ ≠ (v0_ : Value).ownBlock) v1_ r2 ∧ Below w.heap.size w w' := by
 have hu24 := Try.underlying24
 have HR0_0 := Aside0.mk hr0_0
 have HC0_0 := Aside0.mk hc0_0
 clear hr0_0 hc0_0
 have HR0_1 := Aside0.mk hr0_1
 have HC0_1 := Aside0.mk hc0_1
 clear hr0_1 hc0_1
 have HB := Aside0.mk (Below.refl w.heap.size w)
 have H : ((impl_namesFrom.f k l0_0 l0_1 0).bind fun t361 => ((impl_renamed.f k l0_0 l0_1 t361).bind fun bt364 => (impl_leastForm.l0 k (l0_0.length : Int) 0 l0_0 l0_1 bt364.1 bt364.2))) = some (r1, r2) := h
 clear h
 obtain ⟨t361, A20, H⟩ := Option.bind_eq_some_iff.mp H
 have A2 := Aside0.mk A20
 clear A20
 obtain ⟨⟨t364, t367⟩, A30, H⟩ := Option.bind_eq_some_iff.mp H
 dsimp only at H
 have A3 := Aside0.mk A30
 clear A30
 have H' := Aside0.mk H
 clear H
 go_enter Try.func36, Try.ntmps36
 try go_wp2_with (first | ((with_reducible refine gate_dst (N := 1) rfl ?_); refine bE 1 #[.slice A0_0 l0_0.length c0_0, .slice A0_1 l0_1.length c0_1] 24 ?_; intro gb359 hg w4 hbox hb; have BK359 := Aside0.mk (hbox); have GW359 := gS HB hg; have GE359 := gS HB hg; replace HB := bS HB hb; clear hb hbox hg) | ((with_reducible refine gate_dst (N := 2) rfl ?_); refine bE 2 #[.slice none 0 0, .slice none 0 0] 24 ?_; intro gb360 hg w5 hbox hb; have BK360 := Aside0.mk (hbox); have GW360 := gS HB hg; have GE360 := gS HB hg; replace HB := bS HB hb; have NB359_360 := nL BK359 hg; have NB360_359 := nG BK359 hg; replace BK359 := kB BK359 hb; clear hb hbox hg))
 replace BK359 := Aside0.mk (blk_drew BK359.out)
 replace BK360 := Aside0.mk (blk_drew BK360.out)
 replace HB := Aside0.mk (below_drew1 HB.out)
 refine start_ (n := 6) (S := fun w' => w'.cell? ⟨gb359, 0, none⟩ = some (.slice A0_0 l0_0.length c0_0) ∧ w'.cell? ⟨gb359, 1, none⟩ = some (.slice A0_1 l0_1.length c0_1)) (ds := []) (tf 0 6) (by kernel_rfl) rfl rfl ⟨(blk_cell BK359.out 0).trans rfl, (blk_cell BK359.out 1).trans rfl⟩ (fun hHeld => ?_)
 generalize w5.drew = w6 at BK359 BK360 HB hHeld ⊢
 refine tK 0 6 (tf 1 5) hHeld ?_
 refine tK 1 7 (tf 2 4) hHeld ?_
 refine join_ (σ := Value × Value × Value × Nat) 1 (tf 5 1) (fun s_ => [(8, s_.1), (9, .agg #[s_.2.1, s_.2.2.1]), (3, .pointer (some ⟨s_.2.2.2, 0, none⟩))]) (fun s_ w' => (w'.cell? ⟨gb359, 0, none⟩ = some (.slice A0_0 l0_0.length c0_0) ∧ w'.cell? ⟨gb359, 1, none⟩ = some (.slice A0_1 l0_1.length c0_1)) ∧ (Kd.R (Kd.int .i64) 3 w' w.heap.size (fun k_ => some k_ ≠ (s_.2.1 : Value).ownBlock ∧ some k_ ≠ (s_.2.2.1 : Value).ownBlock) s_.1 t361) ∧ (Kd.R (Kd.int .i64) 3 w' w.heap.size (fun k_ => some k_ ≠ (s_.1 : Value).ownBlock ∧ some k_ ≠ (s_.2.2.1 : Value).ownBlock) s_.2.1 t364) ∧ (Kd.R (Kd.int .i64) 3 w' w.heap.size (fun k_ => some k_ ≠ (s_.1 : Value).ownBlock ∧ some k_ ≠ (s_.2.1 : Value).ownBlock) s_.2.2.1 t367) ∧ (w'.heap[gb359]? = some (.cells #[.slice A0_0 l0_0.length c0_0, .slice A0_1 l0_1.length c0_1] 24 (0, 0))) ∧ (w'.heap[gb360]? = some (.cells #[.slice none 0 0, .slice none 0 0] 24 (0, 0))) ∧ (w'.heap[s_.2.2.2]? = some (.cells #[.slice none 0 0, .slice none 0 0] 24 (0, 0))) ∧ (w.heap.size ≤ s_.2.2.2) ∧ (w.heap.size ≤ s_.2.2.2) ∧ (gb359 ≠ s_.2.2.2) ∧ (s_.2.2.2 ≠ gb359) ∧ (gb360 ≠ s_.2.2.2) ∧ (s_.2.2.2 ≠ gb360) ∧ (Below w.heap.size w w')) ?_ ?_
 rotate_left
 ·intro hCont
  refine two_ (i := 2) (j := 4) (Ni := some 8) (Nj := some 3) (tf 3 3) (tB 6 19) rfl rfl rfl rfl (by kernel_rfl) (by decide) (by decide) (fun K hK => ?_) (fun K hK => ?_)
  ·skip
   refine goes_ Try.func38 (by kernel_rfl) rfl #[.agg #[.slice A0_0 l0_0.length c0_0, .slice A0_1 l0_1.length c0_1], .int .i64 0] (by rfl) rfl rfl (by (try simp only [List.map_toArray, List.map_cons, List.map_nil]); first | done | rfl | (simp only [List.length_drop, List.length_take]; rfl)) ?_
   with_reducible refine (impl_namesFrom.calls k _ _ l0_0 _ _ l0_1 0 t361 _ ?side1 ?side2 ?side3 ?side4 A2.out).mono ?_
   (case side1 => exact cB HR0_0 HB)
   (case side2 => exact HC0_0.out)
   (case side3 => exact cB HR0_1 HB)
   (case side4 => exact HC0_1.out)
   rintro e w7 ⟨v362, rfl, ho0, hb⟩
   refine ⟨_, rfl, ?_⟩
   have HO363 := rL ho0 HB
   replace BK359 := kB BK359 hb
   replace BK360 := kB BK360 hb
   replace HB := bS HB hb
   (try clear hb)
   (try clear hb2)
   (try clear hk)
   (try clear hi)
   (try clear ho0)
   obtain ⟨Ao8, co8, eo8⟩ := Kd.R_slice HO363.out
   (first | subst eo8 | (injection eo8 with f1_ f2_ f3_; have f4_ := f1_.symm; have f5_ := f3_.symm; clear f1_ f2_ f3_; subst f4_; subst f5_))
   refine hK.out _ _ ⟨(blk_cell BK359.out 0).trans rfl, (blk_cell BK359.out 1).trans rfl⟩ (fun hHeld => ?_)
   clear hK K
   refine norm_ (a' := ?_) ?_ ?_
   rotate_left
   ·show Act.put _ (some 8) _ = _
    simp only [Act.put, List.setIfInBounds_toArray, List.set_cons_zero, List.set_cons_succ, i64_w, i32_w]
    rfl
   refine two_ (i := 3) (j := 4) (Ni := some 9) (Nj := some 3) (tf 4 2) (tB 6 23) rfl rfl rfl rfl (by kernel_rfl) (by decide) (by decide) (fun K hK => ?_) (fun K hK => ?_)
   ·skip
    refine goes_ Try.func35 (by kernel_rfl) rfl #[.agg #[.slice A0_0 l0_0.length c0_0, .slice A0_1 l0_1.length c0_1], .slice Ao8 t361.length co8] (by rfl) rfl rfl (by (try simp only [List.map_toArray, List.map_cons, List.map_nil]); first | done | rfl | (simp only [List.length_drop, List.length_take]; rfl)) ?_
    with_reducible refine (impl_renamed.calls k _ _ l0_0 _ _ l0_1 _ _ t361 t364 t367 _ ?side1 ?side2 ?side3 ?side4 ?side5 ?side6 A3.out).mono ?_
    (case side1 => exact cB HR0_0 HB)
    (case side2 => exact HC0_0.out)
    (case side3 => exact cB HR0_1 HB)
    (case side4 => exact HC0_1.out)
    (case side5 => exact cP (Kd.R_reads' HO363.out).2.2)
    (case side6 => exact (Kd.R_reads' HO363.out).2.1)
    rintro e w9 ⟨v365, v368, rfl, ho0, ho1, hb⟩
    refine ⟨_, rfl, ?_⟩
    have HO366 := Aside0.mk (Kd.R_lower (Kd.R_new' ho0 (Kd.R_lt (rP HO363))) (below_size (bP HB)))
    have HO369 := Aside0.mk (Kd.R_lower (Kd.R_new' ho1 (Kd.R_lt (rP HO363))) (below_size (bP HB)))
    replace HO363 := Aside0.mk (Kd.R_mono (Kd.R_told (Kd.R_told (Kd.R_old (rP HO363) hb) (Kd.R_base ho0)) (Kd.R_base ho1)) (fun _ h_ => h_.1))
    replace BK359 := kB BK359 hb
    replace BK360 := kB BK360 hb
    replace HB := bS HB hb
    (try clear hb)
    (try clear hb2)
    (try clear hk)
    (try clear hi)
    (try clear ho0)
    (try clear ho1)
    refine hK.out _ _ ⟨(blk_cell BK359.out 0).trans rfl, (blk_cell BK359.out 1).trans rfl⟩ (fun hHeld => ?_)
    clear hK K
    refine norm_ (a' := ?_) ?_ ?_
    rotate_left
    ·show Act.put _ (some 9) _ = _
     simp only [Act.put, List.setIfInBounds_toArray, List.set_cons_zero, List.set_cons_succ, i64_w, i32_w]
     rfl
    refine one_ (i := 4) (N := some 3) (tf 5 1) rfl rfl (by kernel_rfl) (by decide) (fun K hK => ?_)
    refine box_step ?hg (N := 3) ?hd (cs := #[.slice none 0 0, .slice none 0 0]) (t := 24) ?hr ?_; (case hd => rfl); (case hg => rfl); (case hr => first | (go_simp; done) | (go_simp; rfl))
    intro gb370 hg w10 hbox hb
    replace HO363 := rB HO363 hb
    replace HO366 := rB HO366 hb
    replace HO369 := rB HO369 hb
    have BK370 := Aside0.mk (hbox)
    have GW370 := gS HB hg
    have GE370 := gS HB hg
    replace HB := bS HB hb
    have NB359_370 := nL BK359 hg
    have NB370_359 := nG BK359 hg
    replace BK359 := kB BK359 hb
    have NB360_370 := nL BK360 hg
    have NB370_360 := nG BK360 hg
    replace BK360 := kB BK360 hb
    clear hb hbox hg
    refine hK.out _ _ ⟨(blk_cell BK359.out 0).trans rfl, (blk_cell BK359.out 1).trans rfl⟩ (fun hHeld => ?_)
    clear hK K
    refine norm_ (a' := ?_) ?_ ?_
    rotate_left
    ·show Act.put _ (some 3) _ = _
     simp only [Act.put, List.setIfInBounds_toArray, List.set_cons_zero, List.set_cons_succ, i64_w, i32_w]
     rfl
    exact norm_ (by simp only [putAll, Act.put, List.setIfInBounds_toArray, List.set_cons_zero, List.set_cons_succ]) (hCont (.slice Ao8 t361.length co8, v365, v368, gb370) _ ⟨hHeld, (rT (Kd.R_mono HO363.out (fun _ hk => ⟨hk.1.2, hk.2⟩))), (rT (Kd.R_mono HO366.out (fun _ hk => ⟨hk.2, hk.1⟩))), (rT (Kd.R_mono HO369.out (fun _ hk => ⟨hk.2, hk.1⟩))), (kP BK359), (kP BK360), (kP BK370), GW370.out, GE370.out, NB359_370.out, NB370_359.out, NB360_370.out, NB370_360.out, (bP HB)⟩)
   skip
   refine box_step ?hg (N := 3) ?hd (cs := #[.slice none 0 0, .slice none 0 0]) (t := 24) ?hr ?_; (case hd => rfl); (case hg => rfl); (case hr => first | (go_simp; done) | (go_simp; rfl))
   intro gb370 hg w8 hbox hb
   replace HO363 := rB HO363 hb
   have BK370 := Aside0.mk (hbox)
   have GW370 := gS HB hg
   have GE370 := gS HB hg
   replace HB := bS HB hb
   have NB359_370 := nL BK359 hg
   have NB370_359 := nG BK359 hg
   replace BK359 := kB BK359 hb
   have NB360_370 := nL BK360 hg
   have NB370_360 := nG BK360 hg
   replace BK360 := kB BK360 hb
   clear hb hbox hg
   obtain ⟨Ao9, co9, eo9⟩ := Kd.R_slice HO363.out
   (first | subst eo9 | (injection eo9 with f1_ f2_ f3_; have f4_ := f1_.symm; have f5_ := f3_.symm; clear f1_ f2_ f3_; subst f4_; subst f5_))
   refine hK.out _ _ ⟨(blk_cell BK359.out 0).trans rfl, (blk_cell BK359.out 1).trans rfl⟩ (fun hHeld => ?_)
   clear hK K
   refine norm_ (a' := ?_) ?_ ?_
   rotate_left
   ·show Act.put _ (some 3) _ = _
    simp only [Act.put, List.setIfInBounds_toArray, List.set_cons_zero, List.set_cons_succ, i64_w, i32_w]
    rfl
   refine one_ (i := 3) (N := some 9) (tf 5 1) rfl rfl (by kernel_rfl) (by decide) (fun K hK => ?_)
   refine goes_ Try.func35 (by kernel_rfl) rfl #[.agg #[.slice A0_0 l0_0.length c0_0, .slice A0_1 l0_1.length c0_1], .slice Ao9 t361.length co9] (by rfl) rfl rfl (by (try simp only [List.map_toArray, List.map_cons, List.map_nil]); first | done | rfl | (simp only [List.length_drop, List.length_take]; rfl)) ?_
   with_reducible refine (impl_renamed.calls k _ _ l0_0 _ _ l0_1 _ _ t361 t364 t367 _ ?side1 ?side2 ?side3 ?side4 ?side5 ?side6 A3.out).mono ?_
   (case side1 => exact cB HR0_0 HB)
   (case side2 => exact HC0_0.out)
   (case side3 => exact cB HR0_1 HB)
   (case side4 => exact HC0_1.out)
   (case side5 => exact cP (Kd.R_reads' HO363.out).2.2)
   (case side6 => exact (Kd.R_reads' HO363.out).2.1)
   rintro e w10 ⟨v365, v368, rfl, ho0, ho1, hb⟩
   refine ⟨_, rfl, ?_⟩
   have HO366 := Aside0.mk (Kd.R_lower (Kd.R_new' ho0 (Kd.R_lt (rP HO363))) (below_size (bP HB)))
   have HO369 := Aside0.mk (Kd.R_lower (Kd.R_new' ho1 (Kd.R_lt (rP HO363))) (below_size (bP HB)))
   replace HO363 := Aside0.mk (Kd.R_mono (Kd.R_told (Kd.R_told (Kd.R_old (rP HO363) hb) (Kd.R_base ho0)) (Kd.R_base ho1)) (fun _ h_ => h_.1))
   replace BK359 := kB BK359 hb
   replace BK360 := kB BK360 hb
   replace BK370 := kB BK370 hb
   replace HB := bS HB hb
   (try clear hb)
   (try clear hb2)
   (try clear hk)
   (try clear hi)
   (try clear ho0)
   (try clear ho1)
   refine hK.out _ _ ⟨(blk_cell BK359.out 0).trans rfl, (blk_cell BK359.out 1).trans rfl⟩ (fun hHeld => ?_)
   clear hK K
   refine norm_ (a' := ?_) ?_ ?_
   rotate_left
   ·show Act.put _ (some 9) _ = _
    simp only [Act.put, List.setIfInBounds_toArray, List.set_cons_zero, List.set_cons_succ, i64_w, i32_w]
    rfl
   exact norm_ (by simp only [putAll, Act.put, List.setIfInBounds_toArray, List.set_cons_zero, List.set_cons_succ]) (hCont (.slice Ao9 t361.length co9, v365, v368, gb370) _ ⟨hHeld, (rT (Kd.R_mono HO363.out (fun _ hk => ⟨hk.1.2, hk.2⟩))), (rT (Kd.R_mono HO366.out (fun _ hk => ⟨hk.2, hk.1⟩))), (rT (Kd.R_mono HO369.out (fun _ hk => ⟨hk.2, hk.1⟩))), (kP BK359), (kP BK360), (kP BK370), GW370.out, GE370.out, NB359_370.out, NB370_359.out, NB360_370.out, NB370_360.out, (bP HB)⟩)
  skip
  refine box_step ?hg (N := 3) ?hd (cs := #[.slice none 0 0, .slice none 0 0]) (t := 24) ?hr ?_; (case hd => rfl); (case hg => rfl); (case hr => first | (go_simp; done) | (go_simp; rfl))
  intro gb370 hg w7 hbox hb
  have BK370 := Aside0.mk (hbox)
  have GW370 := gS HB hg
  have GE370 := gS HB hg
  replace HB := bS HB hb
  have NB359_370 := nL BK359 hg
  have NB370_359 := nG BK359 hg
  replace BK359 := kB BK359 hb
  have NB360_370 := nL BK360 hg
  have NB370_360 := nG BK360 hg
  replace BK360 := kB BK360 hb
  clear hb hbox hg
  refine hK.out _ _ ⟨(blk_cell BK359.out 0).trans rfl, (blk_cell BK359.out 1).trans rfl⟩ (fun hHeld => ?_)
  clear hK K
  refine norm_ (a' := ?_) ?_ ?_
  rotate_left
  ·show Act.put _ (some 3) _ = _
   simp only [Act.put, List.setIfInBounds_toArray, List.set_cons_zero, List.set_cons_succ, i64_w, i32_w]
   rfl
  refine one_ (i := 2) (N := some 8) (tB 6 23) rfl rfl (by kernel_rfl) (by decide) (fun K hK => ?_)
  refine goes_ Try.func38 (by kernel_rfl) rfl #[.agg #[.slice A0_0 l0_0.length c0_0, .slice A0_1 l0_1.length c0_1], .int .i64 0] (by rfl) rfl rfl (by (try simp only [List.map_toArray, List.map_cons, List.map_nil]); first | done | rfl | (simp only [List.length_drop, List.length_take]; rfl)) ?_
  with_reducible refine (impl_namesFrom.calls k _ _ l0_0 _ _ l0_1 0 t361 _ ?side1 ?side2 ?side3 ?side4 A2.out).mono ?_
  (case side1 => exact cB HR0_0 HB)
  (case side2 => exact HC0_0.out)
  (case side3 => exact cB HR0_1 HB)
  (case side4 => exact HC0_1.out)
  rintro e w8 ⟨v362, rfl, ho0, hb⟩
  refine ⟨_, rfl, ?_⟩
  have HO363 := rL ho0 HB
  replace BK359 := kB BK359 hb
  replace BK360 := kB BK360 hb
  replace BK370 := kB BK370 hb
  replace HB := bS HB hb
  (try clear hb)
  (try clear hb2)
  (try clear hk)
  (try clear hi)
  (try clear ho0)
  obtain ⟨Ao9, co9, eo9⟩ := Kd.R_slice HO363.out
  (first | subst eo9 | (injection eo9 with f1_ f2_ f3_; have f4_ := f1_.symm; have f5_ := f3_.symm; clear f1_ f2_ f3_; subst f4_; subst f5_))
  refine hK.out _ _ ⟨(blk_cell BK359.out 0).trans rfl, (blk_cell BK359.out 1).trans rfl⟩ (fun hHeld => ?_)
  clear hK K
  refine norm_ (a' := ?_) ?_ ?_
  rotate_left
  ·show Act.put _ (some 8) _ = _
   simp only [Act.put, List.setIfInBounds_toArray, List.set_cons_zero, List.set_cons_succ, i64_w, i32_w]
   rfl
  refine one_ (i := 3) (N := some 9) (tf 5 1) rfl rfl (by kernel_rfl) (by decide) (fun K hK => ?_)
  refine goes_ Try.func35 (by kernel_rfl) rfl #[.agg #[.slice A0_0 l0_0.length c0_0, .slice A0_1 l0_1.length c0_1], .slice Ao9 t361.length co9] (by rfl) rfl rfl (by (try simp only [List.map_toArray, List.map_cons, List.map_nil]); first | done | rfl | (simp only [List.length_drop, List.length_take]; rfl)) ?_
  with_reducible refine (impl_renamed.calls k _ _ l0_0 _ _ l0_1 _ _ t361 t364 t367 _ ?side1 ?side2 ?side3 ?side4 ?side5 ?side6 A3.out).mono ?_
  (case side1 => exact cB HR0_0 HB)
  (case side2 => exact HC0_0.out)
  (case side3 => exact cB HR0_1 HB)
  (case side4 => exact HC0_1.out)
  (case side5 => exact cP (Kd.R_reads' HO363.out).2.2)
  (case side6 => exact (Kd.R_reads' HO363.out).2.1)
  rintro e w10 ⟨v365, v368, rfl, ho0, ho1, hb⟩
  refine ⟨_, rfl, ?_⟩
  have HO366 := Aside0.mk (Kd.R_lower (Kd.R_new' ho0 (Kd.R_lt (rP HO363))) (below_size (bP HB)))
  have HO369 := Aside0.mk (Kd.R_lower (Kd.R_new' ho1 (Kd.R_lt (rP HO363))) (below_size (bP HB)))
  replace HO363 := Aside0.mk (Kd.R_mono (Kd.R_told (Kd.R_told (Kd.R_old (rP HO363) hb) (Kd.R_base ho0)) (Kd.R_base ho1)) (fun _ h_ => h_.1))
  replace BK359 := kB BK359 hb
  replace BK360 := kB BK360 hb
  replace BK370 := kB BK370 hb
  replace HB := bS HB hb
  (try clear hb)
  (try clear hb2)
  (try clear hk)
  (try clear hi)
  (try clear ho0)
  (try clear ho1)
  refine hK.out _ _ ⟨(blk_cell BK359.out 0).trans rfl, (blk_cell BK359.out 1).trans rfl⟩ (fun hHeld => ?_)
  clear hK K
  refine norm_ (a' := ?_) ?_ ?_
  rotate_left
  ·show Act.put _ (some 9) _ = _
   simp only [Act.put, List.setIfInBounds_toArray, List.set_cons_zero, List.set_cons_succ, i64_w, i32_w]
   rfl
  exact norm_ (by simp only [putAll, Act.put, List.setIfInBounds_toArray, List.set_cons_zero, List.set_cons_succ]) (hCont (.slice Ao9 t361.length co9, v365, v368, gb370) _ ⟨hHeld, (rT (Kd.R_mono HO363.out (fun _ hk => ⟨hk.1.2, hk.2⟩))), (rT (Kd.R_mono HO366.out (fun _ hk => ⟨hk.2, hk.1⟩))), (rT (Kd.R_mono HO369.out (fun _ hk => ⟨hk.2, hk.1⟩))), (kP BK359), (kP BK360), (kP BK370), GW370.out, GE370.out, NB359_370.out, NB370_359.out, NB360_370.out, NB370_360.out, (bP HB)⟩)
 rintro ⟨v362, v365, v368, gb370⟩ w11 ⟨hS_, h0_, h1_, h2_, h3_, h4_, h5_, h6_, h7_, h8_, h9_, h10_, h11_, h12_⟩
 have n0_ : Aside0 (Kd.R (Kd.int .i64) 3 w11 w.heap.size (fun k_ => some k_ ≠ (v365 : Value).ownBlock ∧ some k_ ≠ (v368 : Value).ownBlock) v362 t361) := ⟨h0_⟩
 have n1_ : Aside0 (Kd.R (Kd.int .i64) 3 w11 w.heap.size (fun k_ => some k_ ≠ (v362 : Value).ownBlock ∧ some k_ ≠ (v368 : Value).ownBlock) v365 t364) := ⟨h1_⟩
 have n2_ : Aside0 (Kd.R (Kd.int .i64) 3 w11 w.heap.size (fun k_ => some k_ ≠ (v362 : Value).ownBlock ∧ some k_ ≠ (v365 : Value).ownBlock) v368 t367) := ⟨h2_⟩
 have n3_ : Aside0 (w11.heap[gb359]? = some (.cells #[.slice A0_0 l0_0.length c0_0, .slice A0_1 l0_1.length c0_1] 24 (0, 0))) := ⟨h3_⟩
 have n4_ : Aside0 (w11.heap[gb360]? = some (.cells #[.slice none 0 0, .slice none 0 0] 24 (0, 0))) := ⟨h4_⟩
 have n5_ : Aside0 (w11.heap[gb370]? = some (.cells #[.slice none 0 0, .slice none 0 0] 24 (0, 0))) := ⟨h5_⟩
 have n6_ : Aside0 (w.heap.size ≤ gb370) := ⟨h6_⟩
 have n7_ : Aside0 (w.heap.size ≤ gb370) := ⟨h7_⟩
 have n8_ : Aside0 (gb359 ≠ gb370) := ⟨h8_⟩
 have n9_ : Aside0 (gb370 ≠ gb359) := ⟨h9_⟩
 have n10_ : Aside0 (gb360 ≠ gb370) := ⟨h10_⟩
 have n11_ : Aside0 (gb370 ≠ gb360) := ⟨h11_⟩
 have n12_ : Aside0 (Below w.heap.size w w11) := ⟨h12_⟩
 clear BK359 BK360 HB h0_ h1_ h2_ h3_ h4_ h5_ h6_ h7_ h8_ h9_ h10_ h11_ h12_
 have HO363 := n0_
 have HO366 := n1_
 have HO369 := n2_
 have BK359 := n3_
 have BK360 := n4_
 have BK370 := n5_
 have GW370 := n6_
 have GE370 := n7_
 have NB359_370 := n8_
 have NB370_359 := n9_
 have NB360_370 := n10_
 have NB370_360 := n11_
 have HB := n12_
 clear n0_ n1_ n2_ n3_ n4_ n5_ n6_ n7_ n8_ n9_ n10_ n11_ n12_
 have hHeld : w11.cell? ⟨gb359, 0, none⟩ = some (.slice A0_0 l0_0.length c0_0) ∧ w11.cell? ⟨gb359, 1, none⟩ = some (.slice A0_1 l0_1.length c0_1) := hS_
 obtain ⟨Ao12, co12, eo12⟩ := Kd.R_slice HO366.out
 (first | subst eo12 | (injection eo12 with f1_ f2_ f3_; have f4_ := f1_.symm; have f5_ := f3_.symm; clear f1_ f2_ f3_; subst f4_; subst f5_))
 obtain ⟨Ao14, co14, eo14⟩ := Kd.R_slice HO369.out
 (first | subst eo14 | (injection eo14 with f1_ f2_ f3_; have f4_ := f1_.symm; have f5_ := f3_.symm; clear f1_ f2_ f3_; subst f4_; subst f5_))
 refine norm_ (a' := ?_) ?_ ?_
 rotate_left
 ·simp only [putAll, Act.put, List.setIfInBounds_toArray, List.set_cons_zero, List.set_cons_succ]
  rfl
 refine one_ (i := 5) (N := none) (tf 6 0) rfl rfl (by kernel_rfl) (by decide) (fun K hK => ?_)
 have hs13 : w11.cell? ⟨gb370, 0, none⟩ = some (.slice none 0 0) := (blk_cell BK370.out 0).trans rfl
 have hfs13 := blk_frozen BK370.out 0
 have hns13_0 := NB359_370.out
 have hns13_1 := NB360_370.out
 have hms13_0 := NB370_359.out
 have hms13_1 := NB370_360.out
 have hs15 : w11.cell? ⟨gb370, 1, none⟩ = some (.slice none 0 0) := (blk_cell BK370.out 1).trans rfl
 have hfs15 := blk_frozen BK370.out 1
 have hns15_0 := NB359_370.out
 have hns15_1 := NB360_370.out
 have hms15_0 := NB370_359.out
 have hms15_1 := NB370_360.out
 refine skip_ (w1 := ?_) (by rfl) rfl ?_ ?_
 rotate_left
 ·go_simp
  rfl
 refine hK.out _ _ ⟨((cell_far (p := ⟨gb370, _, none⟩) NB359_370.out _).trans (((cell_far (p := ⟨gb370, _, none⟩) NB359_370.out _).trans (hHeld.1)))), ((cell_far (p := ⟨gb370, _, none⟩) NB359_370.out _).trans (((cell_far (p := ⟨gb370, _, none⟩) NB359_370.out _).trans (hHeld.2))))⟩ (fun hHeld => ?_)
 clear hK K
 refine done_ (by kernel_rfl) ?_
 have hnb16 := NB359_360.out
 have hnc16 := NB360_359.out
 have hnb17 := NB359_370.out
 have hnc17 := NB370_359.out
 have hcz18_0 := zc0 BK359
 have hcz18_1 := zc1 BK359
 have hfz18_0 := blk_frozen BK359.out 0
 have hfz18_1 := blk_frozen BK359.out 1
 try go_wp2
 go_loopg [13] k (fun kq v13 w' => ∃ (x13_1 : Int) (x371000_1 : List Int) (x371001_1 : List Int) (u371000 : Value) (u371001 : Value), v13 = .int .i64 x13_1 ∧ Aside0 (impl_leastForm.l0 kq (l0_0.length : Int) x13_1 l0_0 l0_1 x371000_1 x371001_1 = some (r1, r2)) ∧ Aside0 (kq ≤ k) ∧ Aside0 (Kd.R (Kd.int .i64) 3 w' w.heap.size (fun k_ => some k_ ≠ (u371001 : Value).ownBlock) u371000 x371000_1) ∧ Aside0 (Kd.R (Kd.int .i64) 3 w' w.heap.size (fun k_ => some k_ ≠ (u371000 : Value).ownBlock) u371001 x371001_1) ∧ Aside0 (w'.heap[gb359]? = some (.cells #[(.slice A0_0 l0_0.length c0_0), (.slice A0_1 l0_1.length c0_1)] 24 (0, 0))) ∧ Aside0 (w'.heap[gb360]? = some (.cells #[(.slice none 0 0), (.slice none 0 0)] 24 (0, 0))) ∧ Aside0 (w'.heap[gb370]? = some (.cells #[u371000, u371001] 24 (0, 0))) ∧ Aside0 (Below w.heap.size w w'))
 case atStart => exact ⟨(0), (t364), (t367), (.slice Ao12 t364.length co12), (.slice Ao14 t367.length co14), eS, H', ⟨Nat.le_refl _⟩, ⟨rT (Kd.R_mono (rF gb370 1 (rF gb370 0 (rY HO366 BK370) (.slice Ao12 t364.length co12)) (.slice Ao14 t367.length co14)) (fun _ hk => hk.1.2))⟩, ⟨rT (Kd.R_mono (rF gb370 1 (rF gb370 0 (rY HO369 BK370) (.slice Ao12 t364.length co12)) (.slice Ao14 t367.length co14)) (fun _ hk => hk.1.2))⟩, ⟨kF BK359⟩, ⟨kF BK360⟩, ⟨by (with_reducible repeat (first | refine blk_drewN ?_ _ | refine blk_drew ?_ | refine blk_alloc ?_ _)); refine blk_put (cs := #[.slice Ao12 t364.length co12, .slice none 0 0]) ?_ 1 _ rfl; (with_reducible repeat (first | refine blk_drewN ?_ _ | refine blk_drew ?_ | refine blk_alloc ?_ _)); refine blk_put (cs := #[.slice none 0 0, .slice none 0 0]) ?_ 0 _ rfl; (with_reducible repeat (first | refine blk_drewN ?_ _ | refine blk_drew ?_ | refine blk_alloc ?_ _)); exact BK370.out⟩, ⟨bP HB⟩⟩
 case round =>
  clear H'
  try clear c1
  try clear p2
  try clear c3
  try clear c16
  try clear c17
  try clear hcz18_0
  try clear hcz18_1
  try clear hfz18_0
  try clear hfz18_1
  obtain ⟨x13_1, x371000_1, x371001_1, u371000, u371001, rfl, HA, HK1, HO_371000, HO_371001, BK359, BK360, BK370, HB⟩ := hrel
  cases gk with
  | zero => exact absurd HA.out (by simp [impl_leastForm.l0])
  | succ k1 =>
   have H := HA.out
   clear HA
   simp only [impl_leastForm.l0] at H
   by_cases c19 : x13_1 < (l0_0.length : Int)
   ·rw [if_pos c19] at H
    have c19b0 : decide (x13_1 < (l0_0.length : Int)) = true := decide_eq_true c19
    clear c19
    obtain ⟨t371, A200, H⟩ := Option.bind_eq_some_iff.mp H
    have A20 := Aside0.mk A200
    clear A200
    obtain ⟨⟨t374, t377⟩, A210, H⟩ := Option.bind_eq_some_iff.mp H
    dsimp only at H
    have A21 := Aside0.mk A210
    clear A210
    obtain ⟨t381, A220, H⟩ := Option.bind_eq_some_iff.mp H
    have A22 := Aside0.mk A220
    clear A220
    by_cases c23 : t381 < 0
    ·rw [if_pos c23] at H
     have c23b0 : decide (t381 < 0) = true := decide_eq_true c23
     clear c23
     have H' := Aside0.mk H
     clear H
     try go_wp2
     replace HO_371000 := Aside0.mk (Kd.R_drew HO_371000.out)
     replace HO_371001 := Aside0.mk (Kd.R_drew HO_371001.out)
     replace BK359 := Aside0.mk (blk_drew BK359.out)
     replace BK360 := Aside0.mk (blk_drew BK360.out)
     replace BK370 := Aside0.mk (blk_drew BK370.out)
     replace HB := Aside0.mk (below_drew1 HB.out)
     refine start_ (n := 7) (S := fun w' => w'.cell? ⟨gb359, 0, none⟩ = some (.slice A0_0 l0_0.length c0_0) ∧ w'.cell? ⟨gb359, 1, none⟩ = some (.slice A0_1 l0_1.length c0_1)) (ds := []) (tf 0 7) (by kernel_rfl) rfl rfl ⟨(blk_cell BK359.out 0).trans rfl, (blk_cell BK359.out 1).trans rfl⟩ (fun hHeld => ?_)
     generalize wr.drew = w24 at HO_371000 HO_371001 BK359 BK360 BK370 HB hHeld ⊢
     refine pK 2 18 (tB 7 4) ?_
     refine tK 0 16 (tB 7 5) hHeld ?_
     refine tK 1 17 (tf 3 4) hHeld ?_
     refine join_ (σ := Value × Value × Value × Nat) 1 (tf 6 1) (fun s_ => [(19, s_.1), (20, .agg #[s_.2.1, s_.2.2.1]), (5, .pointer (some ⟨s_.2.2.2, 0, none⟩))]) (fun s_ w' => (w'.cell? ⟨gb359, 0, none⟩ = some (.slice A0_0 l0_0.length c0_0) ∧ w'.cell? ⟨gb359, 1, none⟩ = some (.slice A0_1 l0_1.length c0_1)) ∧ (Kd.R (Kd.int .i64) 3 w' w.heap.size (fun k_ => some k_ ≠ (s_.2.1 : Value).ownBlock ∧ some k_ ≠ (s_.2.2.1 : Value).ownBlock ∧ some k_ ≠ (u371000 : Value).ownBlock ∧ some k_ ≠ (u371001 : Value).ownBlock) s_.1 t371) ∧ (Kd.R (Kd.int .i64) 3 w' w.heap.size (fun k_ => some k_ ≠ (s_.1 : Value).ownBlock ∧ some k_ ≠ (s_.2.2.1 : Value).ownBlock ∧ some k_ ≠ (u371000 : Value).ownBlock ∧ some k_ ≠ (u371001 : Value).ownBlock) s_.2.1 t374) ∧ (Kd.R (Kd.int .i64) 3 w' w.heap.size (fun k_ => some k_ ≠ (s_.1 : Value).ownBlock ∧ some k_ ≠ (s_.2.1 : Value).ownBlock ∧ some k_ ≠ (u371000 : Value).ownBlock ∧ some k_ ≠ (u371001 : Value).ownBlock) s_.2.2.1 t377) ∧ (Kd.R (Kd.int .i64) 3 w' w.heap.size (fun k_ => some k_ ≠ (s_.1 : Value).ownBlock ∧ some k_ ≠ (s_.2.1 : Value).ownBlock ∧ some k_ ≠ (s_.2.2.1 : Value).ownBlock ∧ some k_ ≠ (u371001 : Value).ownBlock) u371000 x371000_1) ∧ (Kd.R (Kd.int .i64) 3 w' w.heap.size (fun k_ => some k_ ≠ (s_.1 : Value).ownBlock ∧ some k_ ≠ (s_.2.1 : Value).ownBlock ∧ some k_ ≠ (s_.2.2.1 : Value).ownBlock ∧ some k_ ≠ (u371000 : Value).ownBlock) u371001 x371001_1) ∧ (w'.heap[gb359]? = some (.cells #[.slice A0_0 l0_0.length c0_0, .slice A0_1 l0_1.length c0_1] 24 (0, 0))) ∧ (w'.heap[gb360]? = some (.cells #[.slice none 0 0, .slice none 0 0] 24 (0, 0))) ∧ (w'.heap[gb370]? = some (.cells #[u371000, u371001] 24 (0, 0))) ∧ (w'.heap[s_.2.2.2]? = some (.cells #[.slice none 0 0, .slice none 0 0] 24 (0, 0))) ∧ (w.heap.size ≤ s_.2.2.2) ∧ (w.heap.size ≤ s_.2.2.2) ∧ (gb359 ≠ s_.2.2.2) ∧ (s_.2.2.2 ≠ gb359) ∧ (gb360 ≠ s_.2.2.2) ∧ (s_.2.2.2 ≠ gb360) ∧ (gb370 ≠ s_.2.2.2) ∧ (s_.2.2.2 ≠ gb370) ∧ (Below w.heap.size w w')) ?_ ?_
     rotate_left
     ·intro hCont
      refine two_ (i := 3) (j := 5) (Ni := some 19) (Nj := some 5) (tf 4 3) (tB 7 39) rfl rfl rfl rfl (by kernel_rfl) (by decide) (by decide) (fun K hK => ?_) (fun K hK => ?_)
      ·skip
       refine goes_ Try.func38 (by kernel_rfl) rfl #[.agg #[.slice A0_0 l0_0.length c0_0, .slice A0_1 l0_1.length c0_1], .int .i64 x13_1] (by rfl) rfl rfl (by (try simp only [List.map_toArray, List.map_cons, List.map_nil]); first | done | rfl | (simp only [List.length_drop, List.length_take]; rfl)) ?_
       with_reducible refine (impl_namesFrom.calls k1 _ _ l0_0 _ _ l0_1 x13_1 t371 _ ?side1 ?side2 ?side3 ?side4 A20.out).mono ?_
       (case side1 => exact cB HR0_0 HB)
       (case side2 => exact HC0_0.out)
       (case side3 => exact cB HR0_1 HB)
       (case side4 => exact HC0_1.out)
       rintro e w25 ⟨v372, rfl, ho0, hb⟩
       refine ⟨_, rfl, ?_⟩
       have HO373 := Aside0.mk (Kd.R_lower (Kd.R_new' (Kd.R_new' ho0 (Kd.R_lt (rP HO_371000))) (Kd.R_lt (rP HO_371001))) (below_size (bP HB)))
       replace HO_371000 := Aside0.mk (Kd.R_elder' (rP HO_371000) (Kd.R_base ho0) hb)
       replace HO_371001 := Aside0.mk (Kd.R_elder' (rP HO_371001) (Kd.R_base ho0) hb)
       replace BK359 := kB BK359 hb
       replace BK360 := kB BK360 hb
       replace BK370 := kB BK370 hb
       replace HB := bS HB hb
       (try clear hb)
       (try clear hb2)
       (try clear hk)
       (try clear hi)
       (try clear ho0)
       obtain ⟨Ao26, co26, eo26⟩ := Kd.R_slice HO373.out
       (first | subst eo26 | (injection eo26 with f1_ f2_ f3_; have f4_ := f1_.symm; have f5_ := f3_.symm; clear f1_ f2_ f3_; subst f4_; subst f5_))
       refine hK.out _ _ ⟨(blk_cell BK359.out 0).trans rfl, (blk_cell BK359.out 1).trans rfl⟩ (fun hHeld => ?_)
       clear hK K
       refine norm_ (a' := ?_) ?_ ?_
       rotate_left
       ·show Act.put _ (some 19) _ = _
        simp only [Act.put, List.setIfInBounds_toArray, List.set_cons_zero, List.set_cons_succ, i64_w, i32_w]
        rfl
       refine two_ (i := 4) (j := 5) (Ni := some 20) (Nj := some 5) (tf 5 2) (tB 7 47) rfl rfl rfl rfl (by kernel_rfl) (by decide) (by decide) (fun K hK => ?_) (fun K hK => ?_)
       ·skip
        refine goes_ Try.func35 (by kernel_rfl) rfl #[.agg #[.slice A0_0 l0_0.length c0_0, .slice A0_1 l0_1.length c0_1], .slice Ao26 t371.length co26] (by rfl) rfl rfl (by (try simp only [List.map_toArray, List.map_cons, List.map_nil]); first | done | rfl | (simp only [List.length_drop, List.length_take]; rfl)) ?_
        with_reducible refine (impl_renamed.calls k1 _ _ l0_0 _ _ l0_1 _ _ t371 t374 t377 _ ?side1 ?side2 ?side3 ?side4 ?side5 ?side6 A21.out).mono ?_
        (case side1 => exact cB HR0_0 HB)
        (case side2 => exact HC0_0.out)
        (case side3 => exact cB HR0_1 HB)
        (case side4 => exact HC0_1.out)
        (case side5 => exact cP (Kd.R_reads' HO373.out).2.2)
        (case side6 => exact (Kd.R_reads' HO373.out).2.1)
        rintro e w27 ⟨v375, v378, rfl, ho0, ho1, hb⟩
        refine ⟨_, rfl, ?_⟩
        have HO376 := Aside0.mk (Kd.R_lower (Kd.R_new' (Kd.R_new' (Kd.R_new' ho0 (Kd.R_lt (rP HO_371000))) (Kd.R_lt (rP HO_371001))) (Kd.R_lt (rP HO373))) (below_size (bP HB)))
        have HO379 := Aside0.mk (Kd.R_lower (Kd.R_new' (Kd.R_new' (Kd.R_new' ho1 (Kd.R_lt (rP HO_371000))) (Kd.R_lt (rP HO_371001))) (Kd.R_lt (rP HO373))) (below_size (bP HB)))
        replace HO_371000 := Aside0.mk (Kd.R_mono (Kd.R_told (Kd.R_told (Kd.R_old (rP HO_371000) hb) (Kd.R_base ho0)) (Kd.R_base ho1)) (fun _ h_ => h_.1))
        replace HO_371001 := Aside0.mk (Kd.R_mono (Kd.R_told (Kd.R_told (Kd.R_old (rP HO_371001) hb) (Kd.R_base ho0)) (Kd.R_base ho1)) (fun _ h_ => h_.1))
        replace HO373 := Aside0.mk (Kd.R_mono (Kd.R_told (Kd.R_told (Kd.R_old (rP HO373) hb) (Kd.R_base ho0)) (Kd.R_base ho1)) (fun _ h_ => h_.1))
        replace BK359 := kB BK359 hb
        replace BK360 := kB BK360 hb
        replace BK370 := kB BK370 hb
        replace HB := bS HB hb
        (try clear hb)
        (try clear hb2)
        (try clear hk)
        (try clear hi)
        (try clear ho0)
        (try clear ho1)
        refine hK.out _ _ ⟨(blk_cell BK359.out 0).trans rfl, (blk_cell BK359.out 1).trans rfl⟩ (fun hHeld => ?_)
        clear hK K
        refine norm_ (a' := ?_) ?_ ?_
        rotate_left
        ·show Act.put _ (some 20) _ = _
         simp only [Act.put, List.setIfInBounds_toArray, List.set_cons_zero, List.set_cons_succ, i64_w, i32_w]
         rfl
        refine one_ (i := 5) (N := some 5) (tf 6 1) rfl rfl (by kernel_rfl) (by decide) (fun K hK => ?_)
        refine box_step ?hg (N := 5) ?hd (cs := #[.slice none 0 0, .slice none 0 0]) (t := 24) ?hr ?_; (case hd => rfl); (case hg => rfl); (case hr => first | (go_simp; done) | (go_simp; rfl))
        intro gb380 hg w28 hbox hb
        replace HO_371000 := rB HO_371000 hb
        replace HO_371001 := rB HO_371001 hb
        replace HO373 := rB HO373 hb
        replace HO376 := rB HO376 hb
        replace HO379 := rB HO379 hb
        have BK380 := Aside0.mk (hbox)
        have GW380 := gS HB hg
        have GE380 := gS HB hg
        replace HB := bS HB hb
        have NB359_380 := nL BK359 hg
        have NB380_359 := nG BK359 hg
        replace BK359 := kB BK359 hb
        have NB360_380 := nL BK360 hg
        have NB380_360 := nG BK360 hg
        replace BK360 := kB BK360 hb
        have NB370_380 := nL BK370 hg
        have NB380_370 := nG BK370 hg
        replace BK370 := kB BK370 hb
        clear hb hbox hg
        refine hK.out _ _ ⟨(blk_cell BK359.out 0).trans rfl, (blk_cell BK359.out 1).trans rfl⟩ (fun hHeld => ?_)
        clear hK K
        refine norm_ (a' := ?_) ?_ ?_
        rotate_left
        ·show Act.put _ (some 5) _ = _
         simp only [Act.put, List.setIfInBounds_toArray, List.set_cons_zero, List.set_cons_succ, i64_w, i32_w]
         rfl
        exact norm_ (by simp only [putAll, Act.put, List.setIfInBounds_toArray, List.set_cons_zero, List.set_cons_succ]) (hCont (.slice Ao26 t371.length co26, v375, v378, gb380) _ ⟨hHeld, (rT (Kd.R_mono HO373.out (fun _ hk => ⟨hk.1.2, ⟨hk.2, ⟨hk.1.1.1.2, hk.1.1.2⟩⟩⟩))), (rT (Kd.R_mono HO376.out (fun _ hk => ⟨hk.2, ⟨hk.1.1.1, ⟨hk.1.1.2, hk.1.2⟩⟩⟩))), (rT (Kd.R_mono HO379.out (fun _ hk => ⟨hk.2, ⟨hk.1.1.1, ⟨hk.1.1.2, hk.1.2⟩⟩⟩))), (rT (Kd.R_mono HO_371000.out (fun _ hk => ⟨hk.1.1.2, ⟨hk.1.2, ⟨hk.2, hk.1.1.1⟩⟩⟩))), (rT (Kd.R_mono HO_371001.out (fun _ hk => ⟨hk.1.1.2, ⟨hk.1.2, ⟨hk.2, hk.1.1.1⟩⟩⟩))), (kP BK359), (kP BK360), (kP BK370), (kP BK380), GW380.out, GE380.out, NB359_380.out, NB380_359.out, NB360_380.out, NB380_360.out, NB370_380.out, NB380_370.out, (bP HB)⟩)
       skip
       refine box_step ?hg (N := 5) ?hd (cs := #[.slice none 0 0, .slice none 0 0]) (t := 24) ?hr ?_; (case hd => rfl); (case hg => rfl); (case hr => first | (go_simp; done) | (go_simp; rfl))
       intro gb380 hg w26 hbox hb
       replace HO_371000 := rB HO_371000 hb
       replace HO_371001 := rB HO_371001 hb
       replace HO373 := rB HO373 hb
       have BK380 := Aside0.mk (hbox)
       have GW380 := gS HB hg
       have GE380 := gS HB hg
       replace HB := bS HB hb
       have NB359_380 := nL BK359 hg
       have NB380_359 := nG BK359 hg
       replace BK359 := kB BK359 hb
       have NB360_380 := nL BK360 hg
       have NB380_360 := nG BK360 hg
       replace BK360 := kB BK360 hb
       have NB370_380 := nL BK370 hg
       have NB380_370 := nG BK370 hg
       replace BK370 := kB BK370 hb
       clear hb hbox hg
       obtain ⟨Ao27, co27, eo27⟩ := Kd.R_slice HO373.out
       (first | subst eo27 | (injection eo27 with f1_ f2_ f3_; have f4_ := f1_.symm; have f5_ := f3_.symm; clear f1_ f2_ f3_; subst f4_; subst f5_))
       refine hK.out _ _ ⟨(blk_cell BK359.out 0).trans rfl, (blk_cell BK359.out 1).trans rfl⟩ (fun hHeld => ?_)
       clear hK K
       refine norm_ (a' := ?_) ?_ ?_
       rotate_left
       ·show Act.put _ (some 5) _ = _
        simp only [Act.put, List.setIfInBounds_toArray, List.set_cons_zero, List.set_cons_succ, i64_w, i32_w]
        rfl
       refine one_ (i := 4) (N := some 20) (tf 6 1) rfl rfl (by kernel_rfl) (by decide) (fun K hK => ?_)
       refine goes_ Try.func35 (by kernel_rfl) rfl #[.agg #[.slice A0_0 l0_0.length c0_0, .slice A0_1 l0_1.length c0_1], .slice Ao27 t371.length co27] (by rfl) rfl rfl (by (try simp only [List.map_toArray, List.map_cons, List.map_nil]); first | done | rfl | (simp only [List.length_drop, List.length_take]; rfl)) ?_
       with_reducible refine (impl_renamed.calls k1 _ _ l0_0 _ _ l0_1 _ _ t371 t374 t377 _ ?side1 ?side2 ?side3 ?side4 ?side5 ?side6 A21.out).mono ?_
       (case side1 => exact cB HR0_0 HB)
       (case side2 => exact HC0_0.out)
       (case side3 => exact cB HR0_1 HB)
       (case side4 => exact HC0_1.out)
       (case side5 => exact cP (Kd.R_reads' HO373.out).2.2)
       (case side6 => exact (Kd.R_reads' HO373.out).2.1)
       rintro e w28 ⟨v375, v378, rfl, ho0, ho1, hb⟩
       refine ⟨_, rfl, ?_⟩
       have HO376 := Aside0.mk (Kd.R_lower (Kd.R_new' (Kd.R_new' (Kd.R_new' ho0 (Kd.R_lt (rP HO_371000))) (Kd.R_lt (rP HO_371001))) (Kd.R_lt (rP HO373))) (below_size (bP HB)))
       have HO379 := Aside0.mk (Kd.R_lower (Kd.R_new' (Kd.R_new' (Kd.R_new' ho1 (Kd.R_lt (rP HO_371000))) (Kd.R_lt (rP HO_371001))) (Kd.R_lt (rP HO373))) (below_size (bP HB)))
       replace HO_371000 := Aside0.mk (Kd.R_mono (Kd.R_told (Kd.R_told (Kd.R_old (rP HO_371000) hb) (Kd.R_base ho0)) (Kd.R_base ho1)) (fun _ h_ => h_.1))
       replace HO_371001 := Aside0.mk (Kd.R_mono (Kd.R_told (Kd.R_told (Kd.R_old (rP HO_371001) hb) (Kd.R_base ho0)) (Kd.R_base ho1)) (fun _ h_ => h_.1))
       replace HO373 := Aside0.mk (Kd.R_mono (Kd.R_told (Kd.R_told (Kd.R_old (rP HO373) hb) (Kd.R_base ho0)) (Kd.R_base ho1)) (fun _ h_ => h_.1))
       replace BK359 := kB BK359 hb
       replace BK360 := kB BK360 hb
       replace BK370 := kB BK370 hb
       replace BK380 := kB BK380 hb
       replace HB := bS HB hb
       (try clear hb)
       (try clear hb2)
       (try clear hk)
       (try clear hi)
       (try clear ho0)
       (try clear ho1)
       refine hK.out _ _ ⟨(blk_cell BK359.out 0).trans rfl, (blk_cell BK359.out 1).trans rfl⟩ (fun hHeld => ?_)
       clear hK K
       refine norm_ (a' := ?_) ?_ ?_
       rotate_left
       ·show Act.put _ (some 20) _ = _
        simp only [Act.put, List.setIfInBounds_toArray, List.set_cons_zero, List.set_cons_succ, i64_w, i32_w]
        rfl
       exact norm_ (by simp only [putAll, Act.put, List.setIfInBounds_toArray, List.set_cons_zero, List.set_cons_succ]) (hCont (.slice Ao27 t371.length co27, v375, v378, gb380) _ ⟨hHeld, (rT (Kd.R_mono HO373.out (fun _ hk => ⟨hk.1.2, ⟨hk.2, ⟨hk.1.1.1.2, hk.1.1.2⟩⟩⟩))), (rT (Kd.R_mono HO376.out (fun _ hk => ⟨hk.2, ⟨hk.1.1.1, ⟨hk.1.1.2, hk.1.2⟩⟩⟩))), (rT (Kd.R_mono HO379.out (fun _ hk => ⟨hk.2, ⟨hk.1.1.1, ⟨hk.1.1.2, hk.1.2⟩⟩⟩))), (rT (Kd.R_mono HO_371000.out (fun _ hk => ⟨hk.1.1.2, ⟨hk.1.2, ⟨hk.2, hk.1.1.1⟩⟩⟩))), (rT (Kd.R_mono HO_371001.out (fun _ hk => ⟨hk.1.1.2, ⟨hk.1.2, ⟨hk.2, hk.1.1.1⟩⟩⟩))), (kP BK359), (kP BK360), (kP BK370), (kP BK380), GW380.out, GE380.out, NB359_380.out, NB380_359.out, NB360_380.out, NB380_360.out, NB370_380.out, NB380_370.out, (bP HB)⟩)
      skip
      refine box_step ?hg (N := 5) ?hd (cs := #[.slice none 0 0, .slice none 0 0]) (t := 24) ?hr ?_; (case hd => rfl); (case hg => rfl); (case hr => first | (go_simp; done) | (go_simp; rfl))
      intro gb380 hg w25 hbox hb
      replace HO_371000 := rB HO_371000 hb
      replace HO_371001 := rB HO_371001 hb
      have BK380 := Aside0.mk (hbox)
      have GW380 := gS HB hg
      have GE380 := gS HB hg
      replace HB := bS HB hb
      have NB359_380 := nL BK359 hg
      have NB380_359 := nG BK359 hg
      replace BK359 := kB BK359 hb
      have NB360_380 := nL BK360 hg
      have NB380_360 := nG BK360 hg
      replace BK360 := kB BK360 hb
      have NB370_380 := nL BK370 hg
      have NB380_370 := nG BK370 hg
      replace BK370 := kB BK370 hb
      clear hb hbox hg
      refine hK.out _ _ ⟨(blk_cell BK359.out 0).trans rfl, (blk_cell BK359.out 1).trans rfl⟩ (fun hHeld => ?_)
      clear hK K
      refine norm_ (a' := ?_) ?_ ?_
      rotate_left
      ·show Act.put _ (some 5) _ = _
       simp only [Act.put, List.setIfInBounds_toArray, List.set_cons_zero, List.set_cons_succ, i64_w, i32_w]
       rfl
      refine one_ (i := 3) (N := some 19) (tB 7 47) rfl rfl (by kernel_rfl) (by decide) (fun K hK => ?_)
      refine goes_ Try.func38 (by kernel_rfl) rfl #[.agg #[.slice A0_0 l0_0.length c0_0, .slice A0_1 l0_1.length c0_1], .int .i64 x13_1] (by rfl) rfl rfl (by (try simp only [List.map_toArray, List.map_cons, List.map_nil]); first | done | rfl | (simp only [List.length_drop, List.length_take]; rfl)) ?_
      with_reducible refine (impl_namesFrom.calls k1 _ _ l0_0 _ _ l0_1 x13_1 t371 _ ?side1 ?side2 ?side3 ?side4 A20.out).mono ?_
      (case side1 => exact cB HR0_0 HB)
      (case side2 => exact HC0_0.out)
      (case side3 => exact cB HR0_1 HB)
      (case side4 => exact HC0_1.out)
      rintro e w26 ⟨v372, rfl, ho0, hb⟩
      refine ⟨_, rfl, ?_⟩
      have HO373 := Aside0.mk (Kd.R_lower (Kd.R_new' (Kd.R_new' ho0 (Kd.R_lt (rP HO_371000))) (Kd.R_lt (rP HO_371001))) (below_size (bP HB)))
      replace HO_371000 := Aside0.mk (Kd.R_elder' (rP HO_371000) (Kd.R_base ho0) hb)
      replace HO_371001 := Aside0.mk (Kd.R_elder' (rP HO_371001) (Kd.R_base ho0) hb)
      replace BK359 := kB BK359 hb
      replace BK360 := kB BK360 hb
      replace BK370 := kB BK370 hb
      replace BK380 := kB BK380 hb
      replace HB := bS HB hb
      (try clear hb)
      (try clear hb2)
      (try clear hk)
      (try clear hi)
      (try clear ho0)
      obtain ⟨Ao27, co27, eo27⟩ := Kd.R_slice HO373.out
      (first | subst eo27 | (injection eo27 with f1_ f2_ f3_; have f4_ := f1_.symm; have f5_ := f3_.symm; clear f1_ f2_ f3_; subst f4_; subst f5_))
      refine hK.out _ _ ⟨(blk_cell BK359.out 0).trans rfl, (blk_cell BK359.out 1).trans rfl⟩ (fun hHeld => ?_)
      clear hK K
      refine norm_ (a' := ?_) ?_ ?_
      rotate_left
      ·show Act.put _ (some 19) _ = _
       simp only [Act.put, List.setIfInBounds_toArray, List.set_cons_zero, List.set_cons_succ, i64_w, i32_w]
       rfl
      refine one_ (i := 4) (N := some 20) (tf 6 1) rfl rfl (by kernel_rfl) (by decide) (fun K hK => ?_)
      refine goes_ Try.func35 (by kernel_rfl) rfl #[.agg #[.slice A0_0 l0_0.length c0_0, .slice A0_1 l0_1.length c0_1], .slice Ao27 t371.length co27] (by rfl) rfl rfl (by (try simp only [List.map_toArray, List.map_cons, List.map_nil]); first | done | rfl | (simp only [List.length_drop, List.length_take]; rfl)) ?_
      with_reducible refine (impl_renamed.calls k1 _ _ l0_0 _ _ l0_1 _ _ t371 t374 t377 _ ?side1 ?side2 ?side3 ?side4 ?side5 ?side6 A21.out).mono ?_
      (case side1 => exact cB HR0_0 HB)
      (case side2 => exact HC0_0.out)
      (case side3 => exact cB HR0_1 HB)
      (case side4 => exact HC0_1.out)
      (case side5 => exact cP (Kd.R_reads' HO373.out).2.2)
      (case side6 => exact (Kd.R_reads' HO373.out).2.1)
      rintro e w28 ⟨v375, v378, rfl, ho0, ho1, hb⟩
      refine ⟨_, rfl, ?_⟩
      have HO376 := Aside0.mk (Kd.R_lower (Kd.R_new' (Kd.R_new' (Kd.R_new' ho0 (Kd.R_lt (rP HO_371000))) (Kd.R_lt (rP HO_371001))) (Kd.R_lt (rP HO373))) (below_size (bP HB)))
      have HO379 := Aside0.mk (Kd.R_lower (Kd.R_new' (Kd.R_new' (Kd.R_new' ho1 (Kd.R_lt (rP HO_371000))) (Kd.R_lt (rP HO_371001))) (Kd.R_lt (rP HO373))) (below_size (bP HB)))
      replace HO_371000 := Aside0.mk (Kd.R_mono (Kd.R_told (Kd.R_told (Kd.R_old (rP HO_371000) hb) (Kd.R_base ho0)) (Kd.R_base ho1)) (fun _ h_ => h_.1))
      replace HO_371001 := Aside0.mk (Kd.R_mono (Kd.R_told (Kd.R_told (Kd.R_old (rP HO_371001) hb) (Kd.R_base ho0)) (Kd.R_base ho1)) (fun _ h_ => h_.1))
      replace HO373 := Aside0.mk (Kd.R_mono (Kd.R_told (Kd.R_told (Kd.R_old (rP HO373) hb) (Kd.R_base ho0)) (Kd.R_base ho1)) (fun _ h_ => h_.1))
      replace BK359 := kB BK359 hb
      replace BK360 := kB BK360 hb
      replace BK370 := kB BK370 hb
      replace BK380 := kB BK380 hb
      replace HB := bS HB hb
      (try clear hb)
      (try clear hb2)
      (try clear hk)
      (try clear hi)
      (try clear ho0)
      (try clear ho1)
      refine hK.out _ _ ⟨(blk_cell BK359.out 0).trans rfl, (blk_cell BK359.out 1).trans rfl⟩ (fun hHeld => ?_)
      clear hK K
      refine norm_ (a' := ?_) ?_ ?_
      rotate_left
      ·show Act.put _ (some 20) _ = _
       simp only [Act.put, List.setIfInBounds_toArray, List.set_cons_zero, List.set_cons_succ, i64_w, i32_w]
       rfl
      exact norm_ (by simp only [putAll, Act.put, List.setIfInBounds_toArray, List.set_cons_zero, List.set_cons_succ]) (hCont (.slice Ao27 t371.length co27, v375, v378, gb380) _ ⟨hHeld, (rT (Kd.R_mono HO373.out (fun _ hk => ⟨hk.1.2, ⟨hk.2, ⟨hk.1.1.1.2, hk.1.1.2⟩⟩⟩))), (rT (Kd.R_mono HO376.out (fun _ hk => ⟨hk.2, ⟨hk.1.1.1, ⟨hk.1.1.2, hk.1.2⟩⟩⟩))), (rT (Kd.R_mono HO379.out (fun _ hk => ⟨hk.2, ⟨hk.1.1.1, ⟨hk.1.1.2, hk.1.2⟩⟩⟩))), (rT (Kd.R_mono HO_371000.out (fun _ hk => ⟨hk.1.1.2, ⟨hk.1.2, ⟨hk.2, hk.1.1.1⟩⟩⟩))), (rT (Kd.R_mono HO_371001.out (fun _ hk => ⟨hk.1.1.2, ⟨hk.1.2, ⟨hk.2, hk.1.1.1⟩⟩⟩))), (kP BK359), (kP BK360), (kP BK370), (kP BK380), GW380.out, GE380.out, NB359_380.out, NB380_359.out, NB360_380.out, NB380_360.out, NB370_380.out, NB380_370.out, (bP HB)⟩)
     rintro ⟨v372, v375, v378, gb380⟩ w29 ⟨hS_, h0_, h1_, h2_, h3_, h4_, h5_, h6_, h7_, h8_, h9_, h10_, h11_, h12_, h13_, h14_, h15_, h16_, h17_⟩
     have n0_ : Aside0 (Kd.R (Kd.int .i64) 3 w29 w.heap.size (fun k_ => some k_ ≠ (v375 : Value).ownBlock ∧ some k_ ≠ (v378 : Value).ownBlock ∧ some k_ ≠ (u371000 : Value).ownBlock ∧ some k_ ≠ (u371001 : Value).ownBlock) v372 t371) := ⟨h0_⟩
     have n1_ : Aside0 (Kd.R (Kd.int .i64) 3 w29 w.heap.size (fun k_ => some k_ ≠ (v372 : Value).ownBlock ∧ some k_ ≠ (v378 : Value).ownBlock ∧ some k_ ≠ (u371000 : Value).ownBlock ∧ some k_ ≠ (u371001 : Value).ownBlock) v375 t374) := ⟨h1_⟩
     have n2_ : Aside0 (Kd.R (Kd.int .i64) 3 w29 w.heap.size (fun k_ => some k_ ≠ (v372 : Value).ownBlock ∧ some k_ ≠ (v375 : Value).ownBlock ∧ some k_ ≠ (u371000 : Value).ownBlock ∧ some k_ ≠ (u371001 : Value).ownBlock) v378 t377) := ⟨h2_⟩
     have n3_ : Aside0 (Kd.R (Kd.int .i64) 3 w29 w.heap.size (fun k_ => some k_ ≠ (v372 : Value).ownBlock ∧ some k_ ≠ (v375 : Value).ownBlock ∧ some k_ ≠ (v378 : Value).ownBlock ∧ some k_ ≠ (u371001 : Value).ownBlock) u371000 x371000_1) := ⟨h3_⟩
     have n4_ : Aside0 (Kd.R (Kd.int .i64) 3 w29 w.heap.size (fun k_ => some k_ ≠ (v372 : Value).ownBlock ∧ some k_ ≠ (v375 : Value).ownBlock ∧ some k_ ≠ (v378 : Value).ownBlock ∧ some k_ ≠ (u371000 : Value).ownBlock) u371001 x371001_1) := ⟨h4_⟩
     have n5_ : Aside0 (w29.heap[gb359]? = some (.cells #[.slice A0_0 l0_0.length c0_0, .slice A0_1 l0_1.length c0_1] 24 (0, 0))) := ⟨h5_⟩
     have n6_ : Aside0 (w29.heap[gb360]? = some (.cells #[.slice none 0 0, .slice none 0 0] 24 (0, 0))) := ⟨h6_⟩
     have n7_ : Aside0 (w29.heap[gb370]? = some (.cells #[u371000, u371001] 24 (0, 0))) := ⟨h7_⟩
     have n8_ : Aside0 (w29.heap[gb380]? = some (.cells #[.slice none 0 0, .slice none 0 0] 24 (0, 0))) := ⟨h8_⟩
     have n9_ : Aside0 (w.heap.size ≤ gb380) := ⟨h9_⟩
     have n10_ : Aside0 (w.heap.size ≤ gb380) := ⟨h10_⟩
     have n11_ : Aside0 (gb359 ≠ gb380) := ⟨h11_⟩
     have n12_ : Aside0 (gb380 ≠ gb359) := ⟨h12_⟩
     have n13_ : Aside0 (gb360 ≠ gb380) := ⟨h13_⟩
     have n14_ : Aside0 (gb380 ≠ gb360) := ⟨h14_⟩
     have n15_ : Aside0 (gb370 ≠ gb380) := ⟨h15_⟩
     have n16_ : Aside0 (gb380 ≠ gb370) := ⟨h16_⟩
     have n17_ : Aside0 (Below w.heap.size w w29) := ⟨h17_⟩
     clear HO_371000 HO_371001 BK359 BK360 BK370 HB h0_ h1_ h2_ h3_ h4_ h5_ h6_ h7_ h8_ h9_ h10_ h11_ h12_ h13_ h14_ h15_ h16_ h17_
     have HO373 := n0_
     have HO376 := n1_
     have HO379 := n2_
     have HO_371000 := n3_
     have HO_371001 := n4_
     have BK359 := n5_
     have BK360 := n6_
     have BK370 := n7_
     have BK380 := n8_
     have GW380 := n9_
     have GE380 := n10_
     have NB359_380 := n11_
     have NB380_359 := n12_
     have NB360_380 := n13_
     have NB380_360 := n14_
     have NB370_380 := n15_
     have NB380_370 := n16_
     have HB := n17_
     clear n0_ n1_ n2_ n3_ n4_ n5_ n6_ n7_ n8_ n9_ n10_ n11_ n12_ n13_ n14_ n15_ n16_ n17_
     have hHeld : w29.cell? ⟨gb359, 0, none⟩ = some (.slice A0_0 l0_0.length c0_0) ∧ w29.cell? ⟨gb359, 1, none⟩ = some (.slice A0_1 l0_1.length c0_1) := hS_
     obtain ⟨Ao30, co30, eo30⟩ := Kd.R_slice HO376.out
     (first | subst eo30 | (injection eo30 with f1_ f2_ f3_; have f4_ := f1_.symm; have f5_ := f3_.symm; clear f1_ f2_ f3_; subst f4_; subst f5_))
     obtain ⟨Ao32, co32, eo32⟩ := Kd.R_slice HO379.out
     (first | subst eo32 | (injection eo32 with f1_ f2_ f3_; have f4_ := f1_.symm; have f5_ := f3_.symm; clear f1_ f2_ f3_; subst f4_; subst f5_))
     refine norm_ (a' := ?_) ?_ ?_
     rotate_left
     ·simp only [putAll, Act.put, List.setIfInBounds_toArray, List.set_cons_zero, List.set_cons_succ]
      rfl
     refine one_ (i := 6) (N := none) (tf 7 0) rfl rfl (by kernel_rfl) (by decide) (fun K hK => ?_)
     have hs31 : w29.cell? ⟨gb380, 0, none⟩ = some (.slice none 0 0) := (blk_cell BK380.out 0).trans rfl
     have hfs31 := blk_frozen BK380.out 0
     have hns31_0 := NB359_380.out
     have hns31_1 := NB360_380.out
     have hns31_2 := NB370_380.out
     have hms31_0 := NB380_359.out
     have hms31_1 := NB380_360.out
     have hms31_2 := NB380_370.out
     have hs33 : w29.cell? ⟨gb380, 1, none⟩ = some (.slice none 0 0) := (blk_cell BK380.out 1).trans rfl
     have hfs33 := blk_frozen BK380.out 1
     have hns33_0 := NB359_380.out
     have hns33_1 := NB360_380.out
     have hns33_2 := NB370_380.out
     have hms33_0 := NB380_359.out
     have hms33_1 := NB380_360.out
     have hms33_2 := NB380_370.out
     refine skip_ (w1 := ?_) (by rfl) rfl ?_ ?_
     rotate_left
     ·go_simp
      rfl
     refine hK.out _ _ ⟨((cell_far (p := ⟨gb380, _, none⟩) NB359_380.out _).trans (((cell_far (p := ⟨gb380, _, none⟩) NB359_380.out _).trans (hHeld.1)))), ((cell_far (p := ⟨gb380, _, none⟩) NB359_380.out _).trans (((cell_far (p := ⟨gb380, _, none⟩) NB359_380.out _).trans (hHeld.2))))⟩ (fun hHeld => ?_)
     clear hK K
     refine done_ (by kernel_rfl) ?_
     have hnb34 := NB380_359.out
     have hnc34 := NB359_380.out
     have hnb35 := NB380_360.out
     have hnc35 := NB360_380.out
     have hnb36 := NB380_370.out
     have hnc36 := NB370_380.out
     have hcz37_0 := zc0 BK380
     have hcz37_1 := zc1 BK380
     have hfz37_0 := blk_frozen BK380.out 0
     have hfz37_1 := blk_frozen BK380.out 1
     have hnb38 := NB370_359.out
     have hnc38 := NB359_370.out
     have hnb39 := NB370_360.out
     have hnc39 := NB360_370.out
     have hcz40_0 := zc0 BK370
     have hcz40_1 := zc1 BK370
     have hfz40_0 := blk_frozen BK370.out 0
     have hfz40_1 := blk_frozen BK370.out 1
     obtain ⟨Ao41, co41, eo41⟩ := Kd.R_slice HO_371000.out
     subst eo41
     obtain ⟨Ao42, co42, eo42⟩ := Kd.R_slice HO_371001.out
     subst eo42
     try go_wp2_with (first | ((with_reducible refine gate_callee (f := 37) rfl ?_); refine gL (some 23) Try.func37 #[.agg #[.slice Ao30 t374.length co30, .slice Ao32 t377.length co32], .agg #[.slice Ao41 x371000_1.length co41, .slice Ao42 x371001_1.length co42]] ?_; (with_reducible refine (impl_compareMaps.calls k1 _ _ t374 _ _ t377 _ _ x371000_1 _ _ x371001_1 t381 _ ?side1 ?side2 ?side3 ?side4 ?side5 ?side6 ?side7 ?side8 A22.out).mono ?_); (case side1 => refine (Kd.R_reads' (e := 3) (base := w.heap.size) (ok := fun k_ => (some k_ ≠ (v372 : Value).ownBlock ∧ (some k_ ≠ (.slice Ao32 t377.length co32 : Value).ownBlock ∧ (some k_ ≠ (.slice Ao41 x371000_1.length co41 : Value).ownBlock ∧ some k_ ≠ (.slice Ao42 x371001_1.length co42 : Value).ownBlock)))) (n := t374.length) (c := co30) ?_).2.2; exact (rT (Kd.R_mono (rF gb380 1 (rF gb380 0 (rY HO376 BK380) (.slice Ao30 t374.length co30)) (.slice Ao32 t377.length co32)) (fun _ h_ => h_.1)))); (case side2 => exact (Kd.R_reads' HO376.out).2.1); (case side3 => refine (Kd.R_reads' (e := 3) (base := w.heap.size) (ok := fun k_ => (some k_ ≠ (v372 : Value).ownBlock ∧ (some k_ ≠ (.slice Ao30 t374.length co30 : Value).ownBlock ∧ (some k_ ≠ (.slice Ao41 x371000_1.length co41 : Value).ownBlock ∧ some k_ ≠ (.slice Ao42 x371001_1.length co42 : Value).ownBlock)))) (n := t377.length) (c := co32) ?_).2.2; exact (rT (Kd.R_mono (rF gb380 1 (rF gb380 0 (rY HO379 BK380) (.slice Ao30 t374.length co30)) (.slice Ao32 t377.length co32)) (fun _ h_ => h_.1)))); (case side4 => exact (Kd.R_reads' HO379.out).2.1); (case side5 => refine (Kd.R_reads' (e := 3) (base := w.heap.size) (ok := fun k_ => (some k_ ≠ (v372 : Value).ownBlock ∧ (some k_ ≠ (.slice Ao30 t374.length co30 : Value).ownBlock ∧ (some k_ ≠ (.slice Ao32 t377.length co32 : Value).ownBlock ∧ some k_ ≠ (.slice Ao42 x371001_1.length co42 : Value).ownBlock)))) (n := x371000_1.length) (c := co41) ?_).2.2; exact (rT (Kd.R_mono (rF gb380 1 (rF gb380 0 (rY HO_371000 BK380) (.slice Ao30 t374.length co30)) (.slice Ao32 t377.length co32)) (fun _ h_ => h_.1)))); (case side6 => exact (Kd.R_reads' HO_371000.out).2.1); (case side7 => refine (Kd.R_reads' (e := 3) (base := w.heap.size) (ok := fun k_ => (some k_ ≠ (v372 : Value).ownBlock ∧ (some k_ ≠ (.slice Ao30 t374.length co30 : Value).ownBlock ∧ (some k_ ≠ (.slice Ao32 t377.length co32 : Value).ownBlock ∧ some k_ ≠ (.slice Ao41 x371000_1.length co41 : Value).ownBlock)))) (n := x371001_1.length) (c := co42) ?_).2.2; exact (rT (Kd.R_mono (rF gb380 1 (rF gb380 0 (rY HO_371001 BK380) (.slice Ao30 t374.length co30)) (.slice Ao32 t377.length co32)) (fun _ h_ => h_.1)))); (case side8 => exact (Kd.R_reads' HO_371001.out).2.1); rintro e w43 ⟨rfl, hb⟩; refine ⟨_, rfl, ?_⟩; replace HO_371000 := Aside0.mk (Kd.R_below (rT (Kd.R_mono (rF gb380 1 (rF gb380 0 (rY HO_371000 BK380) (.slice Ao30 t374.length co30)) (.slice Ao32 t377.length co32)) (fun _ h_ => h_.1))) hb); replace HO_371001 := Aside0.mk (Kd.R_below (rT (Kd.R_mono (rF gb380 1 (rF gb380 0 (rY HO_371001 BK380) (.slice Ao30 t374.length co30)) (.slice Ao32 t377.length co32)) (fun _ h_ => h_.1))) hb); replace HO373 := Aside0.mk (Kd.R_below (rT (Kd.R_mono (rF gb380 1 (rF gb380 0 (rY HO373 BK380) (.slice Ao30 t374.length co30)) (.slice Ao32 t377.length co32)) (fun _ h_ => h_.1))) hb); replace HO376 := Aside0.mk (Kd.R_below (rT (Kd.R_mono (rF gb380 1 (rF gb380 0 (rY HO376 BK380) (.slice Ao30 t374.length co30)) (.slice Ao32 t377.length co32)) (fun _ h_ => h_.1))) hb); replace HO379 := Aside0.mk (Kd.R_below (rT (Kd.R_mono (rF gb380 1 (rF gb380 0 (rY HO379 BK380) (.slice Ao30 t374.length co30)) (.slice Ao32 t377.length co32)) (fun _ h_ => h_.1))) hb); replace BK359 := kG BK359 hb; replace BK360 := kG BK360 hb; replace BK370 := kG BK370 hb; replace BK380 := Aside0.mk (blk_below (g := gb380) (o := .cells #[.slice Ao30 t374.length co30, .slice Ao32 t377.length co32] 24 (0, 0)) (by (with_reducible repeat (first | refine blk_drewN ?_ _ | refine blk_drew ?_ | refine blk_alloc ?_ _)); refine blk_put (cs := #[.slice Ao30 t374.length co30, .slice none 0 0]) ?_ 1 _ rfl; (with_reducible repeat (first | refine blk_drewN ?_ _ | refine blk_drew ?_ | refine blk_alloc ?_ _)); refine blk_put (cs := #[.slice none 0 0, .slice none 0 0]) ?_ 0 _ rfl; (with_reducible repeat (first | refine blk_drewN ?_ _ | refine blk_drew ?_ | refine blk_alloc ?_ _)); exact BK380.out) hb); replace HB := bS HB hb; (try clear hb); (try clear hb2); (try clear hk); (try clear hi); have hcz44_0 := zc0 BK380; have hcz44_1 := zc1 BK380; have hfz44_0 := blk_frozen BK380.out 0; have hfz44_1 := blk_frozen BK380.out 1; have hcz45_0 := zc0 BK370; have hcz45_1 := zc1 BK370; have hfz45_0 := blk_frozen BK370.out 0; have hfz45_1 := blk_frozen BK370.out 1))
     go_roundg k1
     case measure => have := HK1.out; omega
     case rel => exact ⟨(wrap64 (x13_1 + 1)), (t374), (t377), (.slice Ao30 t374.length co30), (.slice Ao32 t377.length co32), eS, H', ⟨by have := HK1.out; omega⟩, ⟨rT (Kd.R_mono (rF gb370 1 (rF gb370 0 (rY HO376 BK370) (.slice Ao30 t374.length co30)) (.slice Ao32 t377.length co32)) (fun _ hk => hk.1.2.1))⟩, ⟨rT (Kd.R_mono (rF gb370 1 (rF gb370 0 (rY HO379 BK370) (.slice Ao30 t374.length co30)) (.slice Ao32 t377.length co32)) (fun _ hk => hk.1.2.1))⟩, ⟨kF BK359⟩, ⟨kF BK360⟩, ⟨by (with_reducible repeat (first | refine blk_drewN ?_ _ | refine blk_drew ?_ | refine blk_alloc ?_ _)); refine blk_put (cs := #[.slice Ao30 t374.length co30, .slice Ao42 x371001_1.length co42]) ?_ 1 _ rfl; (with_reducible repeat (first | refine blk_drewN ?_ _ | refine blk_drew ?_ | refine blk_alloc ?_ _)); refine blk_put (cs := #[.slice Ao41 x371000_1.length co41, .slice Ao42 x371001_1.length co42]) ?_ 0 _ rfl; (with_reducible repeat (first | refine blk_drewN ?_ _ | refine blk_drew ?_ | refine blk_alloc ?_ _)); exact BK370.out⟩, ⟨bP HB⟩⟩
    rw [if_neg c23] at H
    have c23b0 : decide (t381 < 0) = false := decide_eq_false c23
    clear c23
    have H' := Aside0.mk H
    clear H
    try go_wp2
    replace HO_371000 := Aside0.mk (Kd.R_drew HO_371000.out)
    replace HO_371001 := Aside0.mk (Kd.R_drew HO_371001.out)
    replace BK359 := Aside0.mk (blk_drew BK359.out)
    replace BK360 := Aside0.mk (blk_drew BK360.out)
    replace BK370 := Aside0.mk (blk_drew BK370.out)
    replace HB := Aside0.mk (below_drew1 HB.out)
    refine start_ (n := 7) (S := fun w' => w'.cell? ⟨gb359, 0, none⟩ = some (.slice A0_0 l0_0.length c0_0) ∧ w'.cell? ⟨gb359, 1, none⟩ = some (.slice A0_1 l0_1.length c0_1)) (ds := []) (tf 0 7) (by kernel_rfl) rfl rfl ⟨(blk_cell BK359.out 0).trans rfl, (blk_cell BK359.out 1).trans rfl⟩ (fun hHeld => ?_)
    generalize wr.drew = w46 at HO_371000 HO_371001 BK359 BK360 BK370 HB hHeld ⊢
    refine pK 2 18 (tB 7 4) ?_
    refine tK 0 16 (tB 7 5) hHeld ?_
    refine tK 1 17 (tf 3 4) hHeld ?_
    refine join_ (σ := Value × Value × Value × Nat) 1 (tf 6 1) (fun s_ => [(19, s_.1), (20, .agg #[s_.2.1, s_.2.2.1]), (5, .pointer (some ⟨s_.2.2.2, 0, none⟩))]) (fun s_ w' => (w'.cell? ⟨gb359, 0, none⟩ = some (.slice A0_0 l0_0.length c0_0) ∧ w'.cell? ⟨gb359, 1, none⟩ = some (.slice A0_1 l0_1.length c0_1)) ∧ (Kd.R (Kd.int .i64) 3 w' w.heap.size (fun k_ => some k_ ≠ (s_.2.1 : Value).ownBlock ∧ some k_ ≠ (s_.2.2.1 : Value).ownBlock ∧ some k_ ≠ (u371000 : Value).ownBlock ∧ some k_ ≠ (u371001 : Value).ownBlock) s_.1 t371) ∧ (Kd.R (Kd.int .i64) 3 w' w.heap.size (fun k_ => some k_ ≠ (s_.1 : Value).ownBlock ∧ some k_ ≠ (s_.2.2.1 : Value).ownBlock ∧ some k_ ≠ (u371000 : Value).ownBlock ∧ some k_ ≠ (u371001 : Value).ownBlock) s_.2.1 t374) ∧ (Kd.R (Kd.int .i64) 3 w' w.heap.size (fun k_ => some k_ ≠ (s_.1 : Value).ownBlock ∧ some k_ ≠ (s_.2.1 : Value).ownBlock ∧ some k_ ≠ (u371000 : Value).ownBlock ∧ some k_ ≠ (u371001 : Value).ownBlock) s_.2.2.1 t377) ∧ (Kd.R (Kd.int .i64) 3 w' w.heap.size (fun k_ => some k_ ≠ (s_.1 : Value).ownBlock ∧ some k_ ≠ (s_.2.1 : Value).ownBlock ∧ some k_ ≠ (s_.2.2.1 : Value).ownBlock ∧ some k_ ≠ (u371001 : Value).ownBlock) u371000 x371000_1) ∧ (Kd.R (Kd.int .i64) 3 w' w.heap.size (fun k_ => some k_ ≠ (s_.1 : Value).ownBlock ∧ some k_ ≠ (s_.2.1 : Value).ownBlock ∧ some k_ ≠ (s_.2.2.1 : Value).ownBlock ∧ some k_ ≠ (u371000 : Value).ownBlock) u371001 x371001_1) ∧ (w'.heap[gb359]? = some (.cells #[.slice A0_0 l0_0.length c0_0, .slice A0_1 l0_1.length c0_1] 24 (0, 0))) ∧ (w'.heap[gb360]? = some (.cells #[.slice none 0 0, .slice none 0 0] 24 (0, 0))) ∧ (w'.heap[gb370]? = some (.cells #[u371000, u371001] 24 (0, 0))) ∧ (w'.heap[s_.2.2.2]? = some (.cells #[.slice none 0 0, .slice none 0 0] 24 (0, 0))) ∧ (w.heap.size ≤ s_.2.2.2) ∧ (w.heap.size ≤ s_.2.2.2) ∧ (gb359 ≠ s_.2.2.2) ∧ (s_.2.2.2 ≠ gb359) ∧ (gb360 ≠ s_.2.2.2) ∧ (s_.2.2.2 ≠ gb360) ∧ (gb370 ≠ s_.2.2.2) ∧ (s_.2.2.2 ≠ gb370) ∧ (Below w.heap.size w w')) ?_ ?_
    rotate_left
    ·intro hCont
     refine two_ (i := 3) (j := 5) (Ni := some 19) (Nj := some 5) (tf 4 3) (tB 7 39) rfl rfl rfl rfl (by kernel_rfl) (by decide) (by decide) (fun K hK => ?_) (fun K hK => ?_)
     ·skip
      refine goes_ Try.func38 (by kernel_rfl) rfl #[.agg #[.slice A0_0 l0_0.length c0_0, .slice A0_1 l0_1.length c0_1], .int .i64 x13_1] (by rfl) rfl rfl (by (try simp only [List.map_toArray, List.map_cons, List.map_nil]); first | done | rfl | (simp only [List.length_drop, List.length_take]; rfl)) ?_
      with_reducible refine (impl_namesFrom.calls k1 _ _ l0_0 _ _ l0_1 x13_1 t371 _ ?side1 ?side2 ?side3 ?side4 A20.out).mono ?_
      (case side1 => exact cB HR0_0 HB)
      (case side2 => exact HC0_0.out)
      (case side3 => exact cB HR0_1 HB)
      (case side4 => exact HC0_1.out)
      rintro e w47 ⟨v372, rfl, ho0, hb⟩
      refine ⟨_, rfl, ?_⟩
      have HO373 := Aside0.mk (Kd.R_lower (Kd.R_new' (Kd.R_new' ho0 (Kd.R_lt (rP HO_371000))) (Kd.R_lt (rP HO_371001))) (below_size (bP HB)))
      replace HO_371000 := Aside0.mk (Kd.R_elder' (rP HO_371000) (Kd.R_base ho0) hb)
      replace HO_371001 := Aside0.mk (Kd.R_elder' (rP HO_371001) (Kd.R_base ho0) hb)
      replace BK359 := kB BK359 hb
      replace BK360 := kB BK360 hb
      replace BK370 := kB BK370 hb
      replace HB := bS HB hb
      (try clear hb)
      (try clear hb2)
      (try clear hk)
      (try clear hi)
      (try clear ho0)
      obtain ⟨Ao48, co48, eo48⟩ := Kd.R_slice HO373.out
      (first | subst eo48 | (injection eo48 with f1_ f2_ f3_; have f4_ := f1_.symm; have f5_ := f3_.symm; clear f1_ f2_ f3_; subst f4_; subst f5_))
      refine hK.out _ _ ⟨(blk_cell BK359.out 0).trans rfl, (blk_cell BK359.out 1).trans rfl⟩ (fun hHeld => ?_)
      clear hK K
      refine norm_ (a' := ?_) ?_ ?_
      rotate_left
      ·show Act.put _ (some 19) _ = _
       simp only [Act.put, List.setIfInBounds_toArray, List.set_cons_zero, List.set_cons_succ, i64_w, i32_w]
       rfl
      refine two_ (i := 4) (j := 5) (Ni := some 20) (Nj := some 5) (tf 5 2) (tB 7 47) rfl rfl rfl rfl (by kernel_rfl) (by decide) (by decide) (fun K hK => ?_) (fun K hK => ?_)
      ·skip
       refine goes_ Try.func35 (by kernel_rfl) rfl #[.agg #[.slice A0_0 l0_0.length c0_0, .slice A0_1 l0_1.length c0_1], .slice Ao48 t371.length co48] (by rfl) rfl rfl (by (try simp only [List.map_toArray, List.map_cons, List.map_nil]); first | done | rfl | (simp only [List.length_drop, List.length_take]; rfl)) ?_
       with_reducible refine (impl_renamed.calls k1 _ _ l0_0 _ _ l0_1 _ _ t371 t374 t377 _ ?side1 ?side2 ?side3 ?side4 ?side5 ?side6 A21.out).mono ?_
       (case side1 => exact cB HR0_0 HB)
       (case side2 => exact HC0_0.out)
       (case side3 => exact cB HR0_1 HB)
       (case side4 => exact HC0_1.out)
       (case side5 => exact cP (Kd.R_reads' HO373.out).2.2)
       (case side6 => exact (Kd.R_reads' HO373.out).2.1)
       rintro e w49 ⟨v375, v378, rfl, ho0, ho1, hb⟩
       refine ⟨_, rfl, ?_⟩
       have HO376 := Aside0.mk (Kd.R_lower (Kd.R_new' (Kd.R_new' (Kd.R_new' ho0 (Kd.R_lt (rP HO_371000))) (Kd.R_lt (rP HO_371001))) (Kd.R_lt (rP HO373))) (below_size (bP HB)))
       have HO379 := Aside0.mk (Kd.R_lower (Kd.R_new' (Kd.R_new' (Kd.R_new' ho1 (Kd.R_lt (rP HO_371000))) (Kd.R_lt (rP HO_371001))) (Kd.R_lt (rP HO373))) (below_size (bP HB)))
       replace HO_371000 := Aside0.mk (Kd.R_mono (Kd.R_told (Kd.R_told (Kd.R_old (rP HO_371000) hb) (Kd.R_base ho0)) (Kd.R_base ho1)) (fun _ h_ => h_.1))
       replace HO_371001 := Aside0.mk (Kd.R_mono (Kd.R_told (Kd.R_told (Kd.R_old (rP HO_371001) hb) (Kd.R_base ho0)) (Kd.R_base ho1)) (fun _ h_ => h_.1))
       replace HO373 := Aside0.mk (Kd.R_mono (Kd.R_told (Kd.R_told (Kd.R_old (rP HO373) hb) (Kd.R_base ho0)) (Kd.R_base ho1)) (fun _ h_ => h_.1))
       replace BK359 := kB BK359 hb
       replace BK360 := kB BK360 hb
       replace BK370 := kB BK370 hb
       replace HB := bS HB hb
       (try clear hb)
       (try clear hb2)
       (try clear hk)
       (try clear hi)
       (try clear ho0)
       (try clear ho1)
       refine hK.out _ _ ⟨(blk_cell BK359.out 0).trans rfl, (blk_cell BK359.out 1).trans rfl⟩ (fun hHeld => ?_)
       clear hK K
       refine norm_ (a' := ?_) ?_ ?_
       rotate_left
       ·show Act.put _ (some 20) _ = _
        simp only [Act.put, List.setIfInBounds_toArray, List.set_cons_zero, List.set_cons_succ, i64_w, i32_w]
        rfl
       refine one_ (i := 5) (N := some 5) (tf 6 1) rfl rfl (by kernel_rfl) (by decide) (fun K hK => ?_)
       refine box_step ?hg (N := 5) ?hd (cs := #[.slice none 0 0, .slice none 0 0]) (t := 24) ?hr ?_; (case hd => rfl); (case hg => rfl); (case hr => first | (go_simp; done) | (go_simp; rfl))
       intro gb380 hg w50 hbox hb
       replace HO_371000 := rB HO_371000 hb
       replace HO_371001 := rB HO_371001 hb
       replace HO373 := rB HO373 hb
       replace HO376 := rB HO376 hb
       replace HO379 := rB HO379 hb
       have BK380 := Aside0.mk (hbox)
       have GW380 := gS HB hg
       have GE380 := gS HB hg
       replace HB := bS HB hb
       have NB359_380 := nL BK359 hg
       have NB380_359 := nG BK359 hg
       replace BK359 := kB BK359 hb
       have NB360_380 := nL BK360 hg
       have NB380_360 := nG BK360 hg
       replace BK360 := kB BK360 hb
       have NB370_380 := nL BK370 hg
       have NB380_370 := nG BK370 hg
       replace BK370 := kB BK370 hb
       clear hb hbox hg
       refine hK.out _ _ ⟨(blk_cell BK359.out 0).trans rfl, (blk_cell BK359.out 1).trans rfl⟩ (fun hHeld => ?_)
       clear hK K
       refine norm_ (a' := ?_) ?_ ?_
       rotate_left
       ·show Act.put _ (some 5) _ = _
        simp only [Act.put, List.setIfInBounds_toArray, List.set_cons_zero, List.set_cons_succ, i64_w, i32_w]
        rfl
       exact norm_ (by simp only [putAll, Act.put, List.setIfInBounds_toArray, List.set_cons_zero, List.set_cons_succ]) (hCont (.slice Ao48 t371.length co48, v375, v378, gb380) _ ⟨hHeld, (rT (Kd.R_mono HO373.out (fun _ hk => ⟨hk.1.2, ⟨hk.2, ⟨hk.1.1.1.2, hk.1.1.2⟩⟩⟩))), (rT (Kd.R_mono HO376.out (fun _ hk => ⟨hk.2, ⟨hk.1.1.1, ⟨hk.1.1.2, hk.1.2⟩⟩⟩))), (rT (Kd.R_mono HO379.out (fun _ hk => ⟨hk.2, ⟨hk.1.1.1, ⟨hk.1.1.2, hk.1.2⟩⟩⟩))), (rT (Kd.R_mono HO_371000.out (fun _ hk => ⟨hk.1.1.2, ⟨hk.1.2, ⟨hk.2, hk.1.1.1⟩⟩⟩))), (rT (Kd.R_mono HO_371001.out (fun _ hk => ⟨hk.1.1.2, ⟨hk.1.2, ⟨hk.2, hk.1.1.1⟩⟩⟩))), (kP BK359), (kP BK360), (kP BK370), (kP BK380), GW380.out, GE380.out, NB359_380.out, NB380_359.out, NB360_380.out, NB380_360.out, NB370_380.out, NB380_370.out, (bP HB)⟩)
      skip
      refine box_step ?hg (N := 5) ?hd (cs := #[.slice none 0 0, .slice none 0 0]) (t := 24) ?hr ?_; (case hd => rfl); (case hg => rfl); (case hr => first | (go_simp; done) | (go_simp; rfl))
      intro gb380 hg w48 hbox hb
      replace HO_371000 := rB HO_371000 hb
      replace HO_371001 := rB HO_371001 hb
      replace HO373 := rB HO373 hb
      have BK380 := Aside0.mk (hbox)
      have GW380 := gS HB hg
      have GE380 := gS HB hg
      replace HB := bS HB hb
      have NB359_380 := nL BK359 hg
      have NB380_359 := nG BK359 hg
      replace BK359 := kB BK359 hb
      have NB360_380 := nL BK360 hg
      have NB380_360 := nG BK360 hg
      replace BK360 := kB BK360 hb
      have NB370_380 := nL BK370 hg
      have NB380_370 := nG BK370 hg
      replace BK370 := kB BK370 hb
      clear hb hbox hg
      obtain ⟨Ao49, co49, eo49⟩ := Kd.R_slice HO373.out
      (first | subst eo49 | (injection eo49 with f1_ f2_ f3_; have f4_ := f1_.symm; have f5_ := f3_.symm; clear f1_ f2_ f3_; subst f4_; subst f5_))
      refine hK.out _ _ ⟨(blk_cell BK359.out 0).trans rfl, (blk_cell BK359.out 1).trans rfl⟩ (fun hHeld => ?_)
      clear hK K
      refine norm_ (a' := ?_) ?_ ?_
      rotate_left
      ·show Act.put _ (some 5) _ = _
       simp only [Act.put, List.setIfInBounds_toArray, List.set_cons_zero, List.set_cons_succ, i64_w, i32_w]
       rfl
      refine one_ (i := 4) (N := some 20) (tf 6 1) rfl rfl (by kernel_rfl) (by decide) (fun K hK => ?_)
      refine goes_ Try.func35 (by kernel_rfl) rfl #[.agg #[.slice A0_0 l0_0.length c0_0, .slice A0_1 l0_1.length c0_1], .slice Ao49 t371.length co49] (by rfl) rfl rfl (by (try simp only [List.map_toArray, List.map_cons, List.map_nil]); first | done | rfl | (simp only [List.length_drop, List.length_take]; rfl)) ?_
      with_reducible refine (impl_renamed.calls k1 _ _ l0_0 _ _ l0_1 _ _ t371 t374 t377 _ ?side1 ?side2 ?side3 ?side4 ?side5 ?side6 A21.out).mono ?_
      (case side1 => exact cB HR0_0 HB)
      (case side2 => exact HC0_0.out)
      (case side3 => exact cB HR0_1 HB)
      (case side4 => exact HC0_1.out)
      (case side5 => exact cP (Kd.R_reads' HO373.out).2.2)
      (case side6 => exact (Kd.R_reads' HO373.out).2.1)
      rintro e w50 ⟨v375, v378, rfl, ho0, ho1, hb⟩
      refine ⟨_, rfl, ?_⟩
      have HO376 := Aside0.mk (Kd.R_lower (Kd.R_new' (Kd.R_new' (Kd.R_new' ho0 (Kd.R_lt (rP HO_371000))) (Kd.R_lt (rP HO_371001))) (Kd.R_lt (rP HO373))) (below_size (bP HB)))
      have HO379 := Aside0.mk (Kd.R_lower (Kd.R_new' (Kd.R_new' (Kd.R_new' ho1 (Kd.R_lt (rP HO_371000))) (Kd.R_lt (rP HO_371001))) (Kd.R_lt (rP HO373))) (below_size (bP HB)))
      replace HO_371000 := Aside0.mk (Kd.R_mono (Kd.R_told (Kd.R_told (Kd.R_old (rP HO_371000) hb) (Kd.R_base ho0)) (Kd.R_base ho1)) (fun _ h_ => h_.1))
      replace HO_371001 := Aside0.mk (Kd.R_mono (Kd.R_told (Kd.R_told (Kd.R_old (rP HO_371001) hb) (Kd.R_base ho0)) (Kd.R_base ho1)) (fun _ h_ => h_.1))
      replace HO373 := Aside0.mk (Kd.R_mono (Kd.R_told (Kd.R_told (Kd.R_old (rP HO373) hb) (Kd.R_base ho0)) (Kd.R_base ho1)) (fun _ h_ => h_.1))
      replace BK359 := kB BK359 hb
      replace BK360 := kB BK360 hb
      replace BK370 := kB BK370 hb
      replace BK380 := kB BK380 hb
      replace HB := bS HB hb
      (try clear hb)
      (try clear hb2)
      (try clear hk)
      (try clear hi)
      (try clear ho0)
      (try clear ho1)
      refine hK.out _ _ ⟨(blk_cell BK359.out 0).trans rfl, (blk_cell BK359.out 1).trans rfl⟩ (fun hHeld => ?_)
      clear hK K
      refine norm_ (a' := ?_) ?_ ?_
      rotate_left
      ·show Act.put _ (some 20) _ = _
       simp only [Act.put, List.setIfInBounds_toArray, List.set_cons_zero, List.set_cons_succ, i64_w, i32_w]
       rfl
      exact norm_ (by simp only [putAll, Act.put, List.setIfInBounds_toArray, List.set_cons_zero, List.set_cons_succ]) (hCont (.slice Ao49 t371.length co49, v375, v378, gb380) _ ⟨hHeld, (rT (Kd.R_mono HO373.out (fun _ hk => ⟨hk.1.2, ⟨hk.2, ⟨hk.1.1.1.2, hk.1.1.2⟩⟩⟩))), (rT (Kd.R_mono HO376.out (fun _ hk => ⟨hk.2, ⟨hk.1.1.1, ⟨hk.1.1.2, hk.1.2⟩⟩⟩))), (rT (Kd.R_mono HO379.out (fun _ hk => ⟨hk.2, ⟨hk.1.1.1, ⟨hk.1.1.2, hk.1.2⟩⟩⟩))), (rT (Kd.R_mono HO_371000.out (fun _ hk => ⟨hk.1.1.2, ⟨hk.1.2, ⟨hk.2, hk.1.1.1⟩⟩⟩))), (rT (Kd.R_mono HO_371001.out (fun _ hk => ⟨hk.1.1.2, ⟨hk.1.2, ⟨hk.2, hk.1.1.1⟩⟩⟩))), (kP BK359), (kP BK360), (kP BK370), (kP BK380), GW380.out, GE380.out, NB359_380.out, NB380_359.out, NB360_380.out, NB380_360.out, NB370_380.out, NB380_370.out, (bP HB)⟩)
     skip
     refine box_step ?hg (N := 5) ?hd (cs := #[.slice none 0 0, .slice none 0 0]) (t := 24) ?hr ?_; (case hd => rfl); (case hg => rfl); (case hr => first | (go_simp; done) | (go_simp; rfl))
     intro gb380 hg w47 hbox hb
     replace HO_371000 := rB HO_371000 hb
     replace HO_371001 := rB HO_371001 hb
     have BK380 := Aside0.mk (hbox)
     have GW380 := gS HB hg
     have GE380 := gS HB hg
     replace HB := bS HB hb
     have NB359_380 := nL BK359 hg
     have NB380_359 := nG BK359 hg
     replace BK359 := kB BK359 hb
     have NB360_380 := nL BK360 hg
     have NB380_360 := nG BK360 hg
     replace BK360 := kB BK360 hb
     have NB370_380 := nL BK370 hg
     have NB380_370 := nG BK370 hg
     replace BK370 := kB BK370 hb
     clear hb hbox hg
     refine hK.out _ _ ⟨(blk_cell BK359.out 0).trans rfl, (blk_cell BK359.out 1).trans rfl⟩ (fun hHeld => ?_)
     clear hK K
     refine norm_ (a' := ?_) ?_ ?_
     rotate_left
     ·show Act.put _ (some 5) _ = _
      simp only [Act.put, List.setIfInBounds_toArray, List.set_cons_zero, List.set_cons_succ, i64_w, i32_w]
      rfl
     refine one_ (i := 3) (N := some 19) (tB 7 47) rfl rfl (by kernel_rfl) (by decide) (fun K hK => ?_)
     refine goes_ Try.func38 (by kernel_rfl) rfl #[.agg #[.slice A0_0 l0_0.length c0_0, .slice A0_1 l0_1.length c0_1], .int .i64 x13_1] (by rfl) rfl rfl (by (try simp only [List.map_toArray, List.map_cons, List.map_nil]); first | done | rfl | (simp only [List.length_drop, List.length_take]; rfl)) ?_
     with_reducible refine (impl_namesFrom.calls k1 _ _ l0_0 _ _ l0_1 x13_1 t371 _ ?side1 ?side2 ?side3 ?side4 A20.out).mono ?_
     (case side1 => exact cB HR0_0 HB)
     (case side2 => exact HC0_0.out)
     (case side3 => exact cB HR0_1 HB)
     (case side4 => exact HC0_1.out)
     rintro e w48 ⟨v372, rfl, ho0, hb⟩
     refine ⟨_, rfl, ?_⟩
     have HO373 := Aside0.mk (Kd.R_lower (Kd.R_new' (Kd.R_new' ho0 (Kd.R_lt (rP HO_371000))) (Kd.R_lt (rP HO_371001))) (below_size (bP HB)))
     replace HO_371000 := Aside0.mk (Kd.R_elder' (rP HO_371000) (Kd.R_base ho0) hb)
     replace HO_371001 := Aside0.mk (Kd.R_elder' (rP HO_371001) (Kd.R_base ho0) hb)
     replace BK359 := kB BK359 hb
     replace BK360 := kB BK360 hb
     replace BK370 := kB BK370 hb
     replace BK380 := kB BK380 hb
     replace HB := bS HB hb
     (try clear hb)
     (try clear hb2)
     (try clear hk)
     (try clear hi)
     (try clear ho0)
     obtain ⟨Ao49, co49, eo49⟩ := Kd.R_slice HO373.out
     (first | subst eo49 | (injection eo49 with f1_ f2_ f3_; have f4_ := f1_.symm; have f5_ := f3_.symm; clear f1_ f2_ f3_; subst f4_; subst f5_))
     refine hK.out _ _ ⟨(blk_cell BK359.out 0).trans rfl, (blk_cell BK359.out 1).trans rfl⟩ (fun hHeld => ?_)
     clear hK K
     refine norm_ (a' := ?_) ?_ ?_
     rotate_left
     ·show Act.put _ (some 19) _ = _
      simp only [Act.put, List.setIfInBounds_toArray, List.set_cons_zero, List.set_cons_succ, i64_w, i32_w]
      rfl
     refine one_ (i := 4) (N := some 20) (tf 6 1) rfl rfl (by kernel_rfl) (by decide) (fun K hK => ?_)
     refine goes_ Try.func35 (by kernel_rfl) rfl #[.agg #[.slice A0_0 l0_0.length c0_0, .slice A0_1 l0_1.length c0_1], .slice Ao49 t371.length co49] (by rfl) rfl rfl (by (try simp only [List.map_toArray, List.map_cons, List.map_nil]); first | done | rfl | (simp only [List.length_drop, List.length_take]; rfl)) ?_
     with_reducible refine (impl_renamed.calls k1 _ _ l0_0 _ _ l0_1 _ _ t371 t374 t377 _ ?side1 ?side2 ?side3 ?side4 ?side5 ?side6 A21.out).mono ?_
     (case side1 => exact cB HR0_0 HB)
     (case side2 => exact HC0_0.out)
     (case side3 => exact cB HR0_1 HB)
     (case side4 => exact HC0_1.out)
     (case side5 => exact cP (Kd.R_reads' HO373.out).2.2)
     (case side6 => exact (Kd.R_reads' HO373.out).2.1)
     rintro e w50 ⟨v375, v378, rfl, ho0, ho1, hb⟩
     refine ⟨_, rfl, ?_⟩
     have HO376 := Aside0.mk (Kd.R_lower (Kd.R_new' (Kd.R_new' (Kd.R_new' ho0 (Kd.R_lt (rP HO_371000))) (Kd.R_lt (rP HO_371001))) (Kd.R_lt (rP HO373))) (below_size (bP HB)))
     have HO379 := Aside0.mk (Kd.R_lower (Kd.R_new' (Kd.R_new' (Kd.R_new' ho1 (Kd.R_lt (rP HO_371000))) (Kd.R_lt (rP HO_371001))) (Kd.R_lt (rP HO373))) (below_size (bP HB)))
     replace HO_371000 := Aside0.mk (Kd.R_mono (Kd.R_told (Kd.R_told (Kd.R_old (rP HO_371000) hb) (Kd.R_base ho0)) (Kd.R_base ho1)) (fun _ h_ => h_.1))
     replace HO_371001 := Aside0.mk (Kd.R_mono (Kd.R_told (Kd.R_told (Kd.R_old (rP HO_371001) hb) (Kd.R_base ho0)) (Kd.R_base ho1)) (fun _ h_ => h_.1))
     replace HO373 := Aside0.mk (Kd.R_mono (Kd.R_told (Kd.R_told (Kd.R_old (rP HO373) hb) (Kd.R_base ho0)) (Kd.R_base ho1)) (fun _ h_ => h_.1))
     replace BK359 := kB BK359 hb
     replace BK360 := kB BK360 hb
     replace BK370 := kB BK370 hb
     replace BK380 := kB BK380 hb
     replace HB := bS HB hb
     (try clear hb)
     (try clear hb2)
     (try clear hk)
     (try clear hi)
     (try clear ho0)
     (try clear ho1)
     refine hK.out _ _ ⟨(blk_cell BK359.out 0).trans rfl, (blk_cell BK359.out 1).trans rfl⟩ (fun hHeld => ?_)
     clear hK K
     refine norm_ (a' := ?_) ?_ ?_
     rotate_left
     ·show Act.put _ (some 20) _ = _
      simp only [Act.put, List.setIfInBounds_toArray, List.set_cons_zero, List.set_cons_succ, i64_w, i32_w]
      rfl
     exact norm_ (by simp only [putAll, Act.put, List.setIfInBounds_toArray, List.set_cons_zero, List.set_cons_succ]) (hCont (.slice Ao49 t371.length co49, v375, v378, gb380) _ ⟨hHeld, (rT (Kd.R_mono HO373.out (fun _ hk => ⟨hk.1.2, ⟨hk.2, ⟨hk.1.1.1.2, hk.1.1.2⟩⟩⟩))), (rT (Kd.R_mono HO376.out (fun _ hk => ⟨hk.2, ⟨hk.1.1.1, ⟨hk.1.1.2, hk.1.2⟩⟩⟩))), (rT (Kd.R_mono HO379.out (fun _ hk => ⟨hk.2, ⟨hk.1.1.1, ⟨hk.1.1.2, hk.1.2⟩⟩⟩))), (rT (Kd.R_mono HO_371000.out (fun _ hk => ⟨hk.1.1.2, ⟨hk.1.2, ⟨hk.2, hk.1.1.1⟩⟩⟩))), (rT (Kd.R_mono HO_371001.out (fun _ hk => ⟨hk.1.1.2, ⟨hk.1.2, ⟨hk.2, hk.1.1.1⟩⟩⟩))), (kP BK359), (kP BK360), (kP BK370), (kP BK380), GW380.out, GE380.out, NB359_380.out, NB380_359.out, NB360_380.out, NB380_360.out, NB370_380.out, NB380_370.out, (bP HB)⟩)
    rintro ⟨v372, v375, v378, gb380⟩ w51 ⟨hS_, h0_, h1_, h2_, h3_, h4_, h5_, h6_, h7_, h8_, h9_, h10_, h11_, h12_, h13_, h14_, h15_, h16_, h17_⟩
    have n0_ : Aside0 (Kd.R (Kd.int .i64) 3 w51 w.heap.size (fun k_ => some k_ ≠ (v375 : Value).ownBlock ∧ some k_ ≠ (v378 : Value).ownBlock ∧ some k_ ≠ (u371000 : Value).ownBlock ∧ some k_ ≠ (u371001 : Value).ownBlock) v372 t371) := ⟨h0_⟩
    have n1_ : Aside0 (Kd.R (Kd.int .i64) 3 w51 w.heap.size (fun k_ => some k_ ≠ (v372 : Value).ownBlock ∧ some k_ ≠ (v378 : Value).ownBlock ∧ some k_ ≠ (u371000 : Value).ownBlock ∧ some k_ ≠ (u371001 : Value).ownBlock) v375 t374) := ⟨h1_⟩
    have n2_ : Aside0 (Kd.R (Kd.int .i64) 3 w51 w.heap.size (fun k_ => some k_ ≠ (v372 : Value).ownBlock ∧ some k_ ≠ (v375 : Value).ownBlock ∧ some k_ ≠ (u371000 : Value).ownBlock ∧ some k_ ≠ (u371001 : Value).ownBlock) v378 t377) := ⟨h2_⟩
    have n3_ : Aside0 (Kd.R (Kd.int .i64) 3 w51 w.heap.size (fun k_ => some k_ ≠ (v372 : Value).ownBlock ∧ some k_ ≠ (v375 : Value).ownBlock ∧ some k_ ≠ (v378 : Value).ownBlock ∧ some k_ ≠ (u371001 : Value).ownBlock) u371000 x371000_1) := ⟨h3_⟩
    have n4_ : Aside0 (Kd.R (Kd.int .i64) 3 w51 w.heap.size (fun k_ => some k_ ≠ (v372 : Value).ownBlock ∧ some k_ ≠ (v375 : Value).ownBlock ∧ some k_ ≠ (v378 : Value).ownBlock ∧ some k_ ≠ (u371000 : Value).ownBlock) u371001 x371001_1) := ⟨h4_⟩
    have n5_ : Aside0 (w51.heap[gb359]? = some (.cells #[.slice A0_0 l0_0.length c0_0, .slice A0_1 l0_1.length c0_1] 24 (0, 0))) := ⟨h5_⟩
    have n6_ : Aside0 (w51.heap[gb360]? = some (.cells #[.slice none 0 0, .slice none 0 0] 24 (0, 0))) := ⟨h6_⟩
    have n7_ : Aside0 (w51.heap[gb370]? = some (.cells #[u371000, u371001] 24 (0, 0))) := ⟨h7_⟩
    have n8_ : Aside0 (w51.heap[gb380]? = some (.cells #[.slice none 0 0, .slice none 0 0] 24 (0, 0))) := ⟨h8_⟩
    have n9_ : Aside0 (w.heap.size ≤ gb380) := ⟨h9_⟩
    have n10_ : Aside0 (w.heap.size ≤ gb380) := ⟨h10_⟩
    have n11_ : Aside0 (gb359 ≠ gb380) := ⟨h11_⟩
    have n12_ : Aside0 (gb380 ≠ gb359) := ⟨h12_⟩
    have n13_ : Aside0 (gb360 ≠ gb380) := ⟨h13_⟩
    have n14_ : Aside0 (gb380 ≠ gb360) := ⟨h14_⟩
    have n15_ : Aside0 (gb370 ≠ gb380) := ⟨h15_⟩
    have n16_ : Aside0 (gb380 ≠ gb370) := ⟨h16_⟩
    have n17_ : Aside0 (Below w.heap.size w w51) := ⟨h17_⟩
    clear HO_371000 HO_371001 BK359 BK360 BK370 HB h0_ h1_ h2_ h3_ h4_ h5_ h6_ h7_ h8_ h9_ h10_ h11_ h12_ h13_ h14_ h15_ h16_ h17_
    have HO373 := n0_
    have HO376 := n1_
    have HO379 := n2_
    have HO_371000 := n3_
    have HO_371001 := n4_
    have BK359 := n5_
    have BK360 := n6_
    have BK370 := n7_
    have BK380 := n8_
    have GW380 := n9_
    have GE380 := n10_
    have NB359_380 := n11_
    have NB380_359 := n12_
    have NB360_380 := n13_
    have NB380_360 := n14_
    have NB370_380 := n15_
    have NB380_370 := n16_
    have HB := n17_
    clear n0_ n1_ n2_ n3_ n4_ n5_ n6_ n7_ n8_ n9_ n10_ n11_ n12_ n13_ n14_ n15_ n16_ n17_
    have hHeld : w51.cell? ⟨gb359, 0, none⟩ = some (.slice A0_0 l0_0.length c0_0) ∧ w51.cell? ⟨gb359, 1, none⟩ = some (.slice A0_1 l0_1.length c0_1) := hS_
    obtain ⟨Ao52, co52, eo52⟩ := Kd.R_slice HO376.out
    (first | subst eo52 | (injection eo52 with f1_ f2_ f3_; have f4_ := f1_.symm; have f5_ := f3_.symm; clear f1_ f2_ f3_; subst f4_; subst f5_))
    obtain ⟨Ao54, co54, eo54⟩ := Kd.R_slice HO379.out
    (first | subst eo54 | (injection eo54 with f1_ f2_ f3_; have f4_ := f1_.symm; have f5_ := f3_.symm; clear f1_ f2_ f3_; subst f4_; subst f5_))
    refine norm_ (a' := ?_) ?_ ?_
    rotate_left
    ·simp only [putAll, Act.put, List.setIfInBounds_toArray, List.set_cons_zero, List.set_cons_succ]
     rfl
    refine one_ (i := 6) (N := none) (tf 7 0) rfl rfl (by kernel_rfl) (by decide) (fun K hK => ?_)
    have hs53 : w51.cell? ⟨gb380, 0, none⟩ = some (.slice none 0 0) := (blk_cell BK380.out 0).trans rfl
    have hfs53 := blk_frozen BK380.out 0
    have hns53_0 := NB359_380.out
    have hns53_1 := NB360_380.out
    have hns53_2 := NB370_380.out
    have hms53_0 := NB380_359.out
    have hms53_1 := NB380_360.out
    have hms53_2 := NB380_370.out
    have hs55 : w51.cell? ⟨gb380, 1, none⟩ = some (.slice none 0 0) := (blk_cell BK380.out 1).trans rfl
    have hfs55 := blk_frozen BK380.out 1
    have hns55_0 := NB359_380.out
    have hns55_1 := NB360_380.out
    have hns55_2 := NB370_380.out
    have hms55_0 := NB380_359.out
    have hms55_1 := NB380_360.out
    have hms55_2 := NB380_370.out
    refine skip_ (w1 := ?_) (by rfl) rfl ?_ ?_
    rotate_left
    ·go_simp
     rfl
    refine hK.out _ _ ⟨((cell_far (p := ⟨gb380, _, none⟩) NB359_380.out _).trans (((cell_far (p := ⟨gb380, _, none⟩) NB359_380.out _).trans (hHeld.1)))), ((cell_far (p := ⟨gb380, _, none⟩) NB359_380.out _).trans (((cell_far (p := ⟨gb380, _, none⟩) NB359_380.out _).trans (hHeld.2))))⟩ (fun hHeld => ?_)
    clear hK K
    refine done_ (by kernel_rfl) ?_
    have hnb56 := NB380_359.out
    have hnc56 := NB359_380.out
    have hnb57 := NB380_360.out
    have hnc57 := NB360_380.out
    have hnb58 := NB380_370.out
    have hnc58 := NB370_380.out
    have hcz59_0 := zc0 BK380
    have hcz59_1 := zc1 BK380
    have hfz59_0 := blk_frozen BK380.out 0
    have hfz59_1 := blk_frozen BK380.out 1
    have hnb60 := NB370_359.out
    have hnc60 := NB359_370.out
    have hnb61 := NB370_360.out
    have hnc61 := NB360_370.out
    have hcz62_0 := zc0 BK370
    have hcz62_1 := zc1 BK370
    have hfz62_0 := blk_frozen BK370.out 0
    have hfz62_1 := blk_frozen BK370.out 1
    obtain ⟨Ao63, co63, eo63⟩ := Kd.R_slice HO_371000.out
    subst eo63
    obtain ⟨Ao64, co64, eo64⟩ := Kd.R_slice HO_371001.out
    subst eo64
    try go_wp2_with (first | ((with_reducible refine gate_callee (f := 37) rfl ?_); refine gL (some 23) Try.func37 #[.agg #[.slice Ao52 t374.length co52, .slice Ao54 t377.length co54], .agg #[.slice Ao63 x371000_1.length co63, .slice Ao64 x371001_1.length co64]] ?_; (with_reducible refine (impl_compareMaps.calls k1 _ _ t374 _ _ t377 _ _ x371000_1 _ _ x371001_1 t381 _ ?side1 ?side2 ?side3 ?side4 ?side5 ?side6 ?side7 ?side8 A22.out).mono ?_); (case side1 => refine (Kd.R_reads' (e := 3) (base := w.heap.size) (ok := fun k_ => (some k_ ≠ (v372 : Value).ownBlock ∧ (some k_ ≠ (.slice Ao54 t377.length co54 : Value).ownBlock ∧ (some k_ ≠ (.slice Ao63 x371000_1.length co63 : Value).ownBlock ∧ some k_ ≠ (.slice Ao64 x371001_1.length co64 : Value).ownBlock)))) (n := t374.length) (c := co52) ?_).2.2; exact (rT (Kd.R_mono (rF gb380 1 (rF gb380 0 (rY HO376 BK380) (.slice Ao52 t374.length co52)) (.slice Ao54 t377.length co54)) (fun _ h_ => h_.1)))); (case side2 => exact (Kd.R_reads' HO376.out).2.1); (case side3 => refine (Kd.R_reads' (e := 3) (base := w.heap.size) (ok := fun k_ => (some k_ ≠ (v372 : Value).ownBlock ∧ (some k_ ≠ (.slice Ao52 t374.length co52 : Value).ownBlock ∧ (some k_ ≠ (.slice Ao63 x371000_1.length co63 : Value).ownBlock ∧ some k_ ≠ (.slice Ao64 x371001_1.length co64 : Value).ownBlock)))) (n := t377.length) (c := co54) ?_).2.2; exact (rT (Kd.R_mono (rF gb380 1 (rF gb380 0 (rY HO379 BK380) (.slice Ao52 t374.length co52)) (.slice Ao54 t377.length co54)) (fun _ h_ => h_.1)))); (case side4 => exact (Kd.R_reads' HO379.out).2.1); (case side5 => refine (Kd.R_reads' (e := 3) (base := w.heap.size) (ok := fun k_ => (some k_ ≠ (v372 : Value).ownBlock ∧ (some k_ ≠ (.slice Ao52 t374.length co52 : Value).ownBlock ∧ (some k_ ≠ (.slice Ao54 t377.length co54 : Value).ownBlock ∧ some k_ ≠ (.slice Ao64 x371001_1.length co64 : Value).ownBlock)))) (n := x371000_1.length) (c := co63) ?_).2.2; exact (rT (Kd.R_mono (rF gb380 1 (rF gb380 0 (rY HO_371000 BK380) (.slice Ao52 t374.length co52)) (.slice Ao54 t377.length co54)) (fun _ h_ => h_.1)))); (case side6 => exact (Kd.R_reads' HO_371000.out).2.1); (case side7 => refine (Kd.R_reads' (e := 3) (base := w.heap.size) (ok := fun k_ => (some k_ ≠ (v372 : Value).ownBlock ∧ (some k_ ≠ (.slice Ao52 t374.length co52 : Value).ownBlock ∧ (some k_ ≠ (.slice Ao54 t377.length co54 : Value).ownBlock ∧ some k_ ≠ (.slice Ao63 x371000_1.length co63 : Value).ownBlock)))) (n := x371001_1.length) (c := co64) ?_).2.2; exact (rT (Kd.R_mono (rF gb380 1 (rF gb380 0 (rY HO_371001 BK380) (.slice Ao52 t374.length co52)) (.slice Ao54 t377.length co54)) (fun _ h_ => h_.1)))); (case side8 => exact (Kd.R_reads' HO_371001.out).2.1); rintro e w65 ⟨rfl, hb⟩; refine ⟨_, rfl, ?_⟩; replace HO_371000 := Aside0.mk (Kd.R_below (rT (Kd.R_mono (rF gb380 1 (rF gb380 0 (rY HO_371000 BK380) (.slice Ao52 t374.length co52)) (.slice Ao54 t377.length co54)) (fun _ h_ => h_.1))) hb); replace HO_371001 := Aside0.mk (Kd.R_below (rT (Kd.R_mono (rF gb380 1 (rF gb380 0 (rY HO_371001 BK380) (.slice Ao52 t374.length co52)) (.slice Ao54 t377.length co54)) (fun _ h_ => h_.1))) hb); replace HO373 := Aside0.mk (Kd.R_below (rT (Kd.R_mono (rF gb380 1 (rF gb380 0 (rY HO373 BK380) (.slice Ao52 t374.length co52)) (.slice Ao54 t377.length co54)) (fun _ h_ => h_.1))) hb); replace HO376 := Aside0.mk (Kd.R_below (rT (Kd.R_mono (rF gb380 1 (rF gb380 0 (rY HO376 BK380) (.slice Ao52 t374.length co52)) (.slice Ao54 t377.length co54)) (fun _ h_ => h_.1))) hb); replace HO379 := Aside0.mk (Kd.R_below (rT (Kd.R_mono (rF gb380 1 (rF gb380 0 (rY HO379 BK380) (.slice Ao52 t374.length co52)) (.slice Ao54 t377.length co54)) (fun _ h_ => h_.1))) hb); replace BK359 := kG BK359 hb; replace BK360 := kG BK360 hb; replace BK370 := kG BK370 hb; replace BK380 := Aside0.mk (blk_below (g := gb380) (o := .cells #[.slice Ao52 t374.length co52, .slice Ao54 t377.length co54] 24 (0, 0)) (by (with_reducible repeat (first | refine blk_drewN ?_ _ | refine blk_drew ?_ | refine blk_alloc ?_ _)); refine blk_put (cs := #[.slice Ao52 t374.length co52, .slice none 0 0]) ?_ 1 _ rfl; (with_reducible repeat (first | refine blk_drewN ?_ _ | refine blk_drew ?_ | refine blk_alloc ?_ _)); refine blk_put (cs := #[.slice none 0 0, .slice none 0 0]) ?_ 0 _ rfl; (with_reducible repeat (first | refine blk_drewN ?_ _ | refine blk_drew ?_ | refine blk_alloc ?_ _)); exact BK380.out) hb); replace HB := bS HB hb; (try clear hb); (try clear hb2); (try clear hk); (try clear hi)))
    go_roundg k1
    case measure => have := HK1.out; omega
    case rel => exact ⟨(wrap64 (x13_1 + 1)), (x371000_1), (x371001_1), (.slice Ao63 x371000_1.length co63), (.slice Ao64 x371001_1.length co64), eS, H', ⟨by have := HK1.out; omega⟩, ⟨rT (Kd.R_mono HO_371000.out (fun _ hk => hk.2.2.2))⟩, ⟨rT (Kd.R_mono HO_371001.out (fun _ hk => hk.2.2.2))⟩, ⟨kP BK359⟩, ⟨kP BK360⟩, ⟨kP BK370⟩, ⟨bP HB⟩⟩
   ·rw [if_neg c19] at H
    have c19b0 : decide (x13_1 < (l0_0.length : Int)) = false := decide_eq_false c19
    clear c19
    simp only [Option.some.injEq, Prod.mk.injEq] at H
    obtain ⟨rfl, rfl⟩ := H
    have hnb66 := NB370_359.out
    have hnc66 := NB359_370.out
    have hnb67 := NB370_360.out
    have hnc67 := NB360_370.out
    have hcz68_0 := zc0 BK370
    have hcz68_1 := zc1 BK370
    have hfz68_0 := blk_frozen BK370.out 0
    have hfz68_1 := blk_frozen BK370.out 1
    obtain ⟨Ao69, co69, eo69⟩ := Kd.R_slice HO_371000.out
    subst eo69
    have hnb70 := NB360_359.out
    have hnc70 := NB359_360.out
    have hcz71_0 := zc0 BK360
    have hcz71_1 := zc1 BK360
    have hfz71_0 := blk_frozen BK360.out 0
    have hfz71_1 := blk_frozen BK360.out 1
    obtain ⟨Ao72, co72, eo72⟩ := Kd.R_slice HO_371001.out
    subst eo72
    go_wp2
    refine bodyPost_ret (results_cell_row rfl _ _ gb360 24 #[.slice Ao69 x371000_1.length co69, .slice Ao72 x371001_1.length co72] (0, 0) _ rfl (by (with_reducible repeat (first | refine blk_drewN ?_ _ | refine blk_drew ?_ | refine blk_alloc ?_ _)); refine blk_put (cs := #[.slice Ao69 x371000_1.length co69, .slice none 0 0]) ?_ 1 _ rfl; (with_reducible repeat (first | refine blk_drewN ?_ _ | refine blk_drew ?_ | refine blk_alloc ?_ _)); refine blk_put (cs := #[.slice none 0 0, .slice none 0 0]) ?_ 0 _ rfl; (with_reducible repeat (first | refine blk_drewN ?_ _ | refine blk_drew ?_ | refine blk_alloc ?_ _)); exact BK360.out) Try.underlying24 rfl (by kernel_rfl)) rfl ?_
    exact ⟨_, _, eR, rT (Kd.R_mono (rF gb360 1 (rF gb360 0 (rY HO_371000 BK360) (.slice Ao69 x371000_1.length co69)) (.slice Ao72 x371001_1.length co72)) (fun _ hk => hk.1)), rT (Kd.R_mono (rF gb360 1 (rF gb360 0 (rY HO_371001 BK360) (.slice Ao69 x371000_1.length co69)) (.slice Ao72 x371001_1.length co72)) (fun _ hk => hk.1)), bP HB⟩

end Go.Proofs.Ytmjdmahgkidocaa.F
