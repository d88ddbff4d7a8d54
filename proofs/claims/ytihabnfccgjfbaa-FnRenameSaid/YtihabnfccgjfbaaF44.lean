/- Contracts: what these Go functions return. -/
import Derived.Test.YtihabnfccgjfbaaF0
import Derived.Test.YtihabnfccgjfbaaF26
import Derived.Test.YtihabnfccgjfbaaF36
import Derived.Test.YtihabnfccgjfbaaF43
namespace Go.Proofs.Ytihabnfccgjfbaa.F
open Go.RowKit Go.Proofs.YtihabnfccgjfbaaW.PrintWords Go.Proofs.YtihabnfccgjfbaaW.PrintLast Go.Proofs.YtihabnfccgjfbaaW.PrintMore
attribute [local go_sem] max2_int min2_int max_two min_two max_three min_three max_four min_four
set_option linter.unusedVariables false
set_option linter.unusedSimpArgs false

/-! ### impl_leastForm: function 61 -/
def impl_leastForm.l0 : Nat → Int → Int → List Int → List Int → List Int → List Int → Option (List Int × List Int)
 | 0, _, _, _, _, _, _ => none
 | k + 1, x12, x13, x812000, x812001, x823000, x823001 => if x13 < x12 then ((impl_namesFrom.f k x812000 x812001 x13).bind fun t823 => ((impl_renamed.f k x812000 x812001 t823).bind fun bt826 => ((impl_compareMaps.f k bt826.1 bt826.2 x823000 x823001).bind fun t833 => (if t833 < 0 then (impl_leastForm.l0 k x12 (wrap64 (x13 + 1)) x812000 x812001 bt826.1 bt826.2) else (impl_leastForm.l0 k x12 (wrap64 (x13 + 1)) x812000 x812001 x823000 x823001))))) else (some (x823000, x823001))
def impl_leastForm.f (k : Nat) (l0_0 : List Int) (l0_1 : List Int) : Option (List Int × List Int) := (impl_namesFrom.f k l0_0 l0_1 0).bind fun t813 => ((impl_renamed.f k l0_0 l0_1 t813).bind fun bt816 => (impl_leastForm.l0 k (l0_0.length : Int) 0 l0_0 l0_1 bt816.1 bt816.2))
set_option maxHeartbeats 8000000 in
set_option maxRecDepth 100000 in
theorem impl_leastForm.calls (k : Nat) (A0_0 : Option Addr) (c0_0 : Nat) (l0_0 : List Int) (A0_1 : Option Addr) (c0_1 : Nat) (l0_1 : List Int) (r1 : List Int) (r2 : List Int) (w : World) (hr0_0 : Kd.C (Kd.int .i64) w A0_0 l0_0.length l0_0) (hc0_0 : l0_0.length ≤ c0_0) (hr0_1 : Kd.C (Kd.int .i64) w A0_1 l0_1.length l0_1) (hc0_1 : l0_1.length ≤ c0_1) (h : impl_leastForm.f k l0_0 l0_1 = some (r1, r2)) :
 Calls Try.prog 61 #[.agg #[.slice A0_0 l0_0.length c0_0, .slice A0_1 l0_1.length c0_1]] w fun e w' => ∃ v0_ v1_ : Value, e = .returned (.agg #[v0_, v1_]) ∧ Kd.R (Kd.int .i64) 3 w' w.heap.size (fun k_ => some k_ ≠ (v1_ : Value).ownBlock) v0_ r1 ∧ Kd.R (Kd.int .i64) 3 w' w.heap.size (fun k_ => some k_ ≠ (v0_ : Value).ownBlock) v1_ r2 ∧ Below w.heap.size w w' := by
 have hu25 := Try.underlying25
 have HR0_0 := Aside0.mk hr0_0
 have HC0_0 := Aside0.mk hc0_0
 clear hr0_0 hc0_0
 have HR0_1 := Aside0.mk hr0_1
 have HC0_1 := Aside0.mk hc0_1
 clear hr0_1 hc0_1
 have HB := Aside0.mk (Below.refl w.heap.size w)
 have H : ((impl_namesFrom.f k l0_0 l0_1 0).bind fun t813 => ((impl_renamed.f k l0_0 l0_1 t813).bind fun bt816 => (impl_leastForm.l0 k (l0_0.length : Int) 0 l0_0 l0_1 bt816.1 bt816.2))) = some (r1, r2) := h
 clear h
 replace H := Option.bind_eq_some_iff.mp H
 obtain ⟨t813, A20, H⟩ := H
 replace H : ((impl_renamed.f k l0_0 l0_1 t813).bind fun bt816 => (impl_leastForm.l0 k (l0_0.length : Int) 0 l0_0 l0_1 bt816.1 bt816.2)) = some (r1, r2) := H
 have A2 := Aside0.mk A20
 clear A20
 replace H := Option.bind_eq_some_iff.mp H
 obtain ⟨⟨t816, t819⟩, A30, H⟩ := H
 replace H : (impl_leastForm.l0 k (l0_0.length : Int) 0 l0_0 l0_1 t816 t819) = some (r1, r2) := H
 have A3 := Aside0.mk A30
 clear A30
 have H' := Aside0.mk H
 clear H
 go_enter Try.func61, Try.ntmps61
 try go_wp2_with (first | ((with_reducible refine gate_dst (N := 1) rfl ?_); refine bE 1 #[.slice A0_0 l0_0.length c0_0, .slice A0_1 l0_1.length c0_1] 25 ?_; intro gb811 hg w4 hbox hb; have BK811 := Aside0.mk (hbox); have GW811 := gS HB hg; have GE811 := gS HB hg; replace HB := bS HB hb; clear hb hbox hg) | ((with_reducible refine gate_dst (N := 2) rfl ?_); refine bE 2 #[.slice none 0 0, .slice none 0 0] 25 ?_; intro gb812 hg w5 hbox hb; have BK812 := Aside0.mk (hbox); have GW812 := gS HB hg; have GE812 := gS HB hg; replace HB := bS HB hb; have NB811_812 := nL BK811 hg; have NB812_811 := nG BK811 hg; replace BK811 := kB BK811 hb; clear hb hbox hg))
 replace BK811 := Aside0.mk (blk_drew BK811.out)
 replace BK812 := Aside0.mk (blk_drew BK812.out)
 replace HB := Aside0.mk (below_drew1 HB.out)
 refine start_ (n := 6) (S := fun w' => w'.cell? ⟨gb811, 0, none⟩ = some (.slice A0_0 l0_0.length c0_0) ∧ w'.cell? ⟨gb811, 1, none⟩ = some (.slice A0_1 l0_1.length c0_1)) (ds := []) #[false, false, false, false, false, false] (by kernel_rfl) rfl rfl ⟨(blk_cell BK811.out 0).trans rfl, (blk_cell BK811.out 1).trans rfl⟩ (fun hHeld => ?_)
 generalize w5.drew = w6 at BK811 BK812 HB hHeld ⊢
 refine take_ (i := 0) (N := some 6) (v := ?_) (a' := ?_) #[true, false, false, false, false, false] rfl rfl (by kernel_rfl) (fun _ _ _ h => h) (Or.inl ⟨by rfl, ?_⟩) hHeld ?_ ?_
 rotate_left
 ·rintro w' ⟨s0, s1⟩
  go_simp
  with_reducible rfl
 rotate_left
 ·simp only [Act.put, List.setIfInBounds_toArray, List.set_cons_zero, List.set_cons_succ, i64_w, i32_w]
  rfl
 refine take_ (i := 1) (N := some 7) (v := ?_) (a' := ?_) #[true, true, false, false, false, false] rfl rfl (by kernel_rfl) (fun _ _ _ h => h) (Or.inl ⟨by rfl, ?_⟩) hHeld ?_ ?_
 rotate_left
 ·rintro w' ⟨s0, s1⟩
  go_simp
  with_reducible rfl
 rotate_left
 ·simp only [Act.put, List.setIfInBounds_toArray, List.set_cons_zero, List.set_cons_succ, i64_w, i32_w]
  rfl
 refine join_ (σ := Value × Value × Value × Nat) 1 #[true, true, true, true, true, false] (fun s_ => [(8, s_.1), (9, .agg #[s_.2.1, s_.2.2.1]), (3, .pointer (some ⟨s_.2.2.2, 0, none⟩))]) (fun s_ w' => (w'.cell? ⟨gb811, 0, none⟩ = some (.slice A0_0 l0_0.length c0_0) ∧ w'.cell? ⟨gb811, 1, none⟩ = some (.slice A0_1 l0_1.length c0_1)) ∧ (Kd.R (Kd.int .i64) 3 w' w.heap.size (fun k_ => some k_ ≠ (s_.2.1 : Value).ownBlock ∧ some k_ ≠ (s_.2.2.1 : Value).ownBlock) s_.1 t813) ∧ (Kd.R (Kd.int .i64) 3 w' w.heap.size (fun k_ => some k_ ≠ (s_.1 : Value).ownBlock ∧ some k_ ≠ (s_.2.2.1 : Value).ownBlock) s_.2.1 t816) ∧ (Kd.R (Kd.int .i64) 3 w' w.heap.size (fun k_ => some k_ ≠ (s_.1 : Value).ownBlock ∧ some k_ ≠ (s_.2.1 : Value).ownBlock) s_.2.2.1 t819) ∧ (w'.heap[gb811]? = some (.cells #[.slice A0_0 l0_0.length c0_0, .slice A0_1 l0_1.length c0_1] 25 (0, 0))) ∧ (w'.heap[gb812]? = some (.cells #[.slice none 0 0, .slice none 0 0] 25 (0, 0))) ∧ (w'.heap[s_.2.2.2]? = some (.cells #[.slice none 0 0, .slice none 0 0] 25 (0, 0))) ∧ (w.heap.size ≤ s_.2.2.2) ∧ (w.heap.size ≤ s_.2.2.2) ∧ (gb811 ≠ s_.2.2.2) ∧ (s_.2.2.2 ≠ gb811) ∧ (gb812 ≠ s_.2.2.2) ∧ (s_.2.2.2 ≠ gb812) ∧ (Below w.heap.size w w')) ?_ ?_
 rotate_left
 ·intro hCont
  refine two_ (i := 2) (j := 4) (Ni := some 8) (Nj := some 3) #[true, true, true, false, false, false] #[true, true, false, false, true, false] rfl rfl rfl rfl (by kernel_rfl) (by decide) (by decide) (fun K hK => ?_) (fun K hK => ?_)
  ·skip
   refine goes_ Try.func54 (by kernel_rfl) rfl #[.agg #[.slice A0_0 l0_0.length c0_0, .slice A0_1 l0_1.length c0_1], .int .i64 0] (by rfl) rfl rfl (by (try simp only [List.map_toArray, List.map_cons, List.map_nil]); first | done | rfl | (simp only [List.length_drop, List.length_take]; rfl)) ?_
   with_reducible refine (impl_namesFrom.calls k _ _ l0_0 _ _ l0_1 0 t813 _ ?side1 ?side2 ?side3 ?side4 A2.out).mono ?_
   (case side1 => exact cB HR0_0 HB)
   (case side2 => exact HC0_0.out)
   (case side3 => exact cB HR0_1 HB)
   (case side4 => exact HC0_1.out)
   rintro e w7 ⟨v814, rfl, ho0, hb⟩
   refine ⟨_, rfl, ?_⟩
   have HO815 := rL ho0 HB
   replace BK811 := kB BK811 hb
   replace BK812 := kB BK812 hb
   replace HB := bS HB hb
   (try clear hb)
   (try clear hb2)
   (try clear hk)
   (try clear hi)
   (try clear ho0)
   obtain ⟨Ao8, co8, eo8⟩ := Kd.R_slice HO815.out
   (first | subst eo8 | (injection eo8 with f1_ f2_ f3_; have f4_ := f1_.symm; have f5_ := f3_.symm; clear f1_ f2_ f3_; subst f4_; subst f5_))
   refine hK.out _ _ ⟨(blk_cell BK811.out 0).trans rfl, (blk_cell BK811.out 1).trans rfl⟩ (fun hHeld => ?_)
   clear hK K
   refine norm_ (a' := ?_) ?_ ?_
   rotate_left
   ·show Act.put _ (some 8) _ = _
    simp only [Act.put, List.setIfInBounds_toArray, List.set_cons_zero, List.set_cons_succ, i64_w, i32_w]
    rfl
   refine two_ (i := 3) (j := 4) (Ni := some 9) (Nj := some 3) #[true, true, true, true, false, false] #[true, true, true, false, true, false] rfl rfl rfl rfl (by kernel_rfl) (by decide) (by decide) (fun K hK => ?_) (fun K hK => ?_)
   ·skip
    refine goes_ Try.func50 (by kernel_rfl) rfl #[.agg #[.slice A0_0 l0_0.length c0_0, .slice A0_1 l0_1.length c0_1], .slice Ao8 t813.length co8] (by rfl) rfl rfl (by (try simp only [List.map_toArray, List.map_cons, List.map_nil]); first | done | rfl | (simp only [List.length_drop, List.length_take]; rfl)) ?_
    with_reducible refine (impl_renamed.calls k _ _ l0_0 _ _ l0_1 _ _ t813 t816 t819 _ ?side1 ?side2 ?side3 ?side4 ?side5 ?side6 A3.out).mono ?_
    (case side1 => exact cB HR0_0 HB)
    (case side2 => exact HC0_0.out)
    (case side3 => exact cB HR0_1 HB)
    (case side4 => exact HC0_1.out)
    (case side5 => exact cP (Kd.R_reads' HO815.out).2.2)
    (case side6 => exact (Kd.R_reads' HO815.out).2.1)
    rintro e w9 ⟨v817, v820, rfl, ho0, ho1, hb⟩
    refine ⟨_, rfl, ?_⟩
    have HO818 := Aside0.mk (Kd.R_lower (Kd.R_new' ho0 (Kd.R_lt (rP HO815))) (below_size (bP HB)))
    have HO821 := Aside0.mk (Kd.R_lower (Kd.R_new' ho1 (Kd.R_lt (rP HO815))) (below_size (bP HB)))
    replace HO815 := Aside0.mk (Kd.R_mono (Kd.R_told (Kd.R_told (Kd.R_old (rP HO815) hb) (Kd.R_base ho0)) (Kd.R_base ho1)) (fun _ h_ => h_.1))
    replace BK811 := kB BK811 hb
    replace BK812 := kB BK812 hb
    replace HB := bS HB hb
    (try clear hb)
    (try clear hb2)
    (try clear hk)
    (try clear hi)
    (try clear ho0)
    (try clear ho1)
    refine hK.out _ _ ⟨(blk_cell BK811.out 0).trans rfl, (blk_cell BK811.out 1).trans rfl⟩ (fun hHeld => ?_)
    clear hK K
    refine norm_ (a' := ?_) ?_ ?_
    rotate_left
    ·show Act.put _ (some 9) _ = _
     simp only [Act.put, List.setIfInBounds_toArray, List.set_cons_zero, List.set_cons_succ, i64_w, i32_w]
     rfl
    refine one_ (i := 4) (N := some 3) #[true, true, true, true, true, false] rfl rfl (by kernel_rfl) (by decide) (fun K hK => ?_)
    refine box_step ?hg (N := 3) ?hd (cs := #[.slice none 0 0, .slice none 0 0]) (t := 25) ?hr ?_; (case hd => rfl); (case hg => rfl); (case hr => first | (go_simp; done) | (go_simp; rfl))
    intro gb822 hg w10 hbox hb
    replace HO815 := rB HO815 hb
    replace HO818 := rB HO818 hb
    replace HO821 := rB HO821 hb
    have BK822 := Aside0.mk (hbox)
    have GW822 := gS HB hg
    have GE822 := gS HB hg
    replace HB := bS HB hb
    have NB811_822 := nL BK811 hg
    have NB822_811 := nG BK811 hg
    replace BK811 := kB BK811 hb
    have NB812_822 := nL BK812 hg
    have NB822_812 := nG BK812 hg
    replace BK812 := kB BK812 hb
    clear hb hbox hg
    refine hK.out _ _ ⟨(blk_cell BK811.out 0).trans rfl, (blk_cell BK811.out 1).trans rfl⟩ (fun hHeld => ?_)
    clear hK K
    refine norm_ (a' := ?_) ?_ ?_
    rotate_left
    ·show Act.put _ (some 3) _ = _
     simp only [Act.put, List.setIfInBounds_toArray, List.set_cons_zero, List.set_cons_succ, i64_w, i32_w]
     rfl
    exact norm_ (by simp only [putAll, Act.put, List.setIfInBounds_toArray, List.set_cons_zero, List.set_cons_succ]) (hCont (.slice Ao8 t813.length co8, v817, v820, gb822) _ ⟨hHeld, (rT (Kd.R_mono HO815.out (fun _ hk => ⟨hk.1.2, hk.2⟩))), (rT (Kd.R_mono HO818.out (fun _ hk => ⟨hk.2, hk.1⟩))), (rT (Kd.R_mono HO821.out (fun _ hk => ⟨hk.2, hk.1⟩))), (kP BK811), (kP BK812), (kP BK822), GW822.out, GE822.out, NB811_822.out, NB822_811.out, NB812_822.out, NB822_812.out, (bP HB)⟩)
   skip
   refine box_step ?hg (N := 3) ?hd (cs := #[.slice none 0 0, .slice none 0 0]) (t := 25) ?hr ?_; (case hd => rfl); (case hg => rfl); (case hr => first | (go_simp; done) | (go_simp; rfl))
   intro gb822 hg w8 hbox hb
   replace HO815 := rB HO815 hb
   have BK822 := Aside0.mk (hbox)
   have GW822 := gS HB hg
   have GE822 := gS HB hg
   replace HB := bS HB hb
   have NB811_822 := nL BK811 hg
   have NB822_811 := nG BK811 hg
   replace BK811 := kB BK811 hb
   have NB812_822 := nL BK812 hg
   have NB822_812 := nG BK812 hg
   replace BK812 := kB BK812 hb
   clear hb hbox hg
   obtain ⟨Ao9, co9, eo9⟩ := Kd.R_slice HO815.out
   (first | subst eo9 | (injection eo9 with f1_ f2_ f3_; have f4_ := f1_.symm; have f5_ := f3_.symm; clear f1_ f2_ f3_; subst f4_; subst f5_))
   refine hK.out _ _ ⟨(blk_cell BK811.out 0).trans rfl, (blk_cell BK811.out 1).trans rfl⟩ (fun hHeld => ?_)
   clear hK K
   refine norm_ (a' := ?_) ?_ ?_
   rotate_left
   ·show Act.put _ (some 3) _ = _
    simp only [Act.put, List.setIfInBounds_toArray, List.set_cons_zero, List.set_cons_succ, i64_w, i32_w]
    rfl
   refine one_ (i := 3) (N := some 9) #[true, true, true, true, true, false] rfl rfl (by kernel_rfl) (by decide) (fun K hK => ?_)
   refine goes_ Try.func50 (by kernel_rfl) rfl #[.agg #[.slice A0_0 l0_0.length c0_0, .slice A0_1 l0_1.length c0_1], .slice Ao9 t813.length co9] (by rfl) rfl rfl (by (try simp only [List.map_toArray, List.map_cons, List.map_nil]); first | done | rfl | (simp only [List.length_drop, List.length_take]; rfl)) ?_
   with_reducible refine (impl_renamed.calls k _ _ l0_0 _ _ l0_1 _ _ t813 t816 t819 _ ?side1 ?side2 ?side3 ?side4 ?side5 ?side6 A3.out).mono ?_
   (case side1 => exact cB HR0_0 HB)
   (case side2 => exact HC0_0.out)
   (case side3 => exact cB HR0_1 HB)
   (case side4 => exact HC0_1.out)
   (case side5 => exact cP (Kd.R_reads' HO815.out).2.2)
   (case side6 => exact (Kd.R_reads' HO815.out).2.1)
   rintro e w10 ⟨v817, v820, rfl, ho0, ho1, hb⟩
   refine ⟨_, rfl, ?_⟩
   have HO818 := Aside0.mk (Kd.R_lower (Kd.R_new' ho0 (Kd.R_lt (rP HO815))) (below_size (bP HB)))
   have HO821 := Aside0.mk (Kd.R_lower (Kd.R_new' ho1 (Kd.R_lt (rP HO815))) (below_size (bP HB)))
   replace HO815 := Aside0.mk (Kd.R_mono (Kd.R_told (Kd.R_told (Kd.R_old (rP HO815) hb) (Kd.R_base ho0)) (Kd.R_base ho1)) (fun _ h_ => h_.1))
   replace BK811 := kB BK811 hb
   replace BK812 := kB BK812 hb
   replace BK822 := kB BK822 hb
   replace HB := bS HB hb
   (try clear hb)
   (try clear hb2)
   (try clear hk)
   (try clear hi)
   (try clear ho0)
   (try clear ho1)
   refine hK.out _ _ ⟨(blk_cell BK811.out 0).trans rfl, (blk_cell BK811.out 1).trans rfl⟩ (fun hHeld => ?_)
   clear hK K
   refine norm_ (a' := ?_) ?_ ?_
   rotate_left
   ·show Act.put _ (some 9) _ = _
    simp only [Act.put, List.setIfInBounds_toArray, List.set_cons_zero, List.set_cons_succ, i64_w, i32_w]
    rfl
   exact norm_ (by simp only [putAll, Act.put, List.setIfInBounds_toArray, List.set_cons_zero, List.set_cons_succ]) (hCont (.slice Ao9 t813.length co9, v817, v820, gb822) _ ⟨hHeld, (rT (Kd.R_mono HO815.out (fun _ hk => ⟨hk.1.2, hk.2⟩))), (rT (Kd.R_mono HO818.out (fun _ hk => ⟨hk.2, hk.1⟩))), (rT (Kd.R_mono HO821.out (fun _ hk => ⟨hk.2, hk.1⟩))), (kP BK811), (kP BK812), (kP BK822), GW822.out, GE822.out, NB811_822.out, NB822_811.out, NB812_822.out, NB822_812.out, (bP HB)⟩)
  skip
  refine box_step ?hg (N := 3) ?hd (cs := #[.slice none 0 0, .slice none 0 0]) (t := 25) ?hr ?_; (case hd => rfl); (case hg => rfl); (case hr => first | (go_simp; done) | (go_simp; rfl))
  intro gb822 hg w7 hbox hb
  have BK822 := Aside0.mk (hbox)
  have GW822 := gS HB hg
  have GE822 := gS HB hg
  replace HB := bS HB hb
  have NB811_822 := nL BK811 hg
  have NB822_811 := nG BK811 hg
  replace BK811 := kB BK811 hb
  have NB812_822 := nL BK812 hg
  have NB822_812 := nG BK812 hg
  replace BK812 := kB BK812 hb
  clear hb hbox hg
  refine hK.out _ _ ⟨(blk_cell BK811.out 0).trans rfl, (blk_cell BK811.out 1).trans rfl⟩ (fun hHeld => ?_)
  clear hK K
  refine norm_ (a' := ?_) ?_ ?_
  rotate_left
  ·show Act.put _ (some 3) _ = _
   simp only [Act.put, List.setIfInBounds_toArray, List.set_cons_zero, List.set_cons_succ, i64_w, i32_w]
   rfl
  refine one_ (i := 2) (N := some 8) #[true, true, true, false, true, false] rfl rfl (by kernel_rfl) (by decide) (fun K hK => ?_)
  refine goes_ Try.func54 (by kernel_rfl) rfl #[.agg #[.slice A0_0 l0_0.length c0_0, .slice A0_1 l0_1.length c0_1], .int .i64 0] (by rfl) rfl rfl (by (try simp only [List.map_toArray, List.map_cons, List.map_nil]); first | done | rfl | (simp only [List.length_drop, List.length_take]; rfl)) ?_
  with_reducible refine (impl_namesFrom.calls k _ _ l0_0 _ _ l0_1 0 t813 _ ?side1 ?side2 ?side3 ?side4 A2.out).mono ?_
  (case side1 => exact cB HR0_0 HB)
  (case side2 => exact HC0_0.out)
  (case side3 => exact cB HR0_1 HB)
  (case side4 => exact HC0_1.out)
  rintro e w8 ⟨v814, rfl, ho0, hb⟩
  refine ⟨_, rfl, ?_⟩
  have HO815 := rL ho0 HB
  replace BK811 := kB BK811 hb
  replace BK812 := kB BK812 hb
  replace BK822 := kB BK822 hb
  replace HB := bS HB hb
  (try clear hb)
  (try clear hb2)
  (try clear hk)
  (try clear hi)
  (try clear ho0)
  obtain ⟨Ao9, co9, eo9⟩ := Kd.R_slice HO815.out
  (first | subst eo9 | (injection eo9 with f1_ f2_ f3_; have f4_ := f1_.symm; have f5_ := f3_.symm; clear f1_ f2_ f3_; subst f4_; subst f5_))
  refine hK.out _ _ ⟨(blk_cell BK811.out 0).trans rfl, (blk_cell BK811.out 1).trans rfl⟩ (fun hHeld => ?_)
  clear hK K
  refine norm_ (a' := ?_) ?_ ?_
  rotate_left
  ·show Act.put _ (some 8) _ = _
   simp only [Act.put, List.setIfInBounds_toArray, List.set_cons_zero, List.set_cons_succ, i64_w, i32_w]
   rfl
  refine one_ (i := 3) (N := some 9) #[true, true, true, true, true, false] rfl rfl (by kernel_rfl) (by decide) (fun K hK => ?_)
  refine goes_ Try.func50 (by kernel_rfl) rfl #[.agg #[.slice A0_0 l0_0.length c0_0, .slice A0_1 l0_1.length c0_1], .slice Ao9 t813.length co9] (by rfl) rfl rfl (by (try simp only [List.map_toArray, List.map_cons, List.map_nil]); first | done | rfl | (simp only [List.length_drop, List.length_take]; rfl)) ?_
  with_reducible refine (impl_renamed.calls k _ _ l0_0 _ _ l0_1 _ _ t813 t816 t819 _ ?side1 ?side2 ?side3 ?side4 ?side5 ?side6 A3.out).mono ?_
  (case side1 => exact cB HR0_0 HB)
  (case side2 => exact HC0_0.out)
  (case side3 => exact cB HR0_1 HB)
  (case side4 => exact HC0_1.out)
  (case side5 => exact cP (Kd.R_reads' HO815.out).2.2)
  (case side6 => exact (Kd.R_reads' HO815.out).2.1)
  rintro e w10 ⟨v817, v820, rfl, ho0, ho1, hb⟩
  refine ⟨_, rfl, ?_⟩
  have HO818 := Aside0.mk (Kd.R_lower (Kd.R_new' ho0 (Kd.R_lt (rP HO815))) (below_size (bP HB)))
  have HO821 := Aside0.mk (Kd.R_lower (Kd.R_new' ho1 (Kd.R_lt (rP HO815))) (below_size (bP HB)))
  replace HO815 := Aside0.mk (Kd.R_mono (Kd.R_told (Kd.R_told (Kd.R_old (rP HO815) hb) (Kd.R_base ho0)) (Kd.R_base ho1)) (fun _ h_ => h_.1))
  replace BK811 := kB BK811 hb
  replace BK812 := kB BK812 hb
  replace BK822 := kB BK822 hb
  replace HB := bS HB hb
  (try clear hb)
  (try clear hb2)
  (try clear hk)
  (try clear hi)
  (try clear ho0)
  (try clear ho1)
  refine hK.out _ _ ⟨(blk_cell BK811.out 0).trans rfl, (blk_cell BK811.out 1).trans rfl⟩ (fun hHeld => ?_)
  clear hK K
  refine norm_ (a' := ?_) ?_ ?_
  rotate_left
  ·show Act.put _ (some 9) _ = _
   simp only [Act.put, List.setIfInBounds_toArray, List.set_cons_zero, List.set_cons_succ, i64_w, i32_w]
   rfl
  exact norm_ (by simp only [putAll, Act.put, List.setIfInBounds_toArray, List.set_cons_zero, List.set_cons_succ]) (hCont (.slice Ao9 t813.length co9, v817, v820, gb822) _ ⟨hHeld, (rT (Kd.R_mono HO815.out (fun _ hk => ⟨hk.1.2, hk.2⟩))), (rT (Kd.R_mono HO818.out (fun _ hk => ⟨hk.2, hk.1⟩))), (rT (Kd.R_mono HO821.out (fun _ hk => ⟨hk.2, hk.1⟩))), (kP BK811), (kP BK812), (kP BK822), GW822.out, GE822.out, NB811_822.out, NB822_811.out, NB812_822.out, NB822_812.out, (bP HB)⟩)
 rintro ⟨v814, v817, v820, gb822⟩ w11 ⟨hS_, h0_, h1_, h2_, h3_, h4_, h5_, h6_, h7_, h8_, h9_, h10_, h11_, h12_⟩
 have n0_ : Aside0 (Kd.R (Kd.int .i64) 3 w11 w.heap.size (fun k_ => some k_ ≠ (v817 : Value).ownBlock ∧ some k_ ≠ (v820 : Value).ownBlock) v814 t813) := ⟨h0_⟩
 have n1_ : Aside0 (Kd.R (Kd.int .i64) 3 w11 w.heap.size (fun k_ => some k_ ≠ (v814 : Value).ownBlock ∧ some k_ ≠ (v820 : Value).ownBlock) v817 t816) := ⟨h1_⟩
 have n2_ : Aside0 (Kd.R (Kd.int .i64) 3 w11 w.heap.size (fun k_ => some k_ ≠ (v814 : Value).ownBlock ∧ some k_ ≠ (v817 : Value).ownBlock) v820 t819) := ⟨h2_⟩
 have n3_ : Aside0 (w11.heap[gb811]? = some (.cells #[.slice A0_0 l0_0.length c0_0, .slice A0_1 l0_1.length c0_1] 25 (0, 0))) := ⟨h3_⟩
 have n4_ : Aside0 (w11.heap[gb812]? = some (.cells #[.slice none 0 0, .slice none 0 0] 25 (0, 0))) := ⟨h4_⟩
 have n5_ : Aside0 (w11.heap[gb822]? = some (.cells #[.slice none 0 0, .slice none 0 0] 25 (0, 0))) := ⟨h5_⟩
 have n6_ : Aside0 (w.heap.size ≤ gb822) := ⟨h6_⟩
 have n7_ : Aside0 (w.heap.size ≤ gb822) := ⟨h7_⟩
 have n8_ : Aside0 (gb811 ≠ gb822) := ⟨h8_⟩
 have n9_ : Aside0 (gb822 ≠ gb811) := ⟨h9_⟩
 have n10_ : Aside0 (gb812 ≠ gb822) := ⟨h10_⟩
 have n11_ : Aside0 (gb822 ≠ gb812) := ⟨h11_⟩
 have n12_ : Aside0 (Below w.heap.size w w11) := ⟨h12_⟩
 clear BK811 BK812 HB h0_ h1_ h2_ h3_ h4_ h5_ h6_ h7_ h8_ h9_ h10_ h11_ h12_
 have HO815 := n0_
 have HO818 := n1_
 have HO821 := n2_
 have BK811 := n3_
 have BK812 := n4_
 have BK822 := n5_
 have GW822 := n6_
 have GE822 := n7_
 have NB811_822 := n8_
 have NB822_811 := n9_
 have NB812_822 := n10_
 have NB822_812 := n11_
 have HB := n12_
 clear n0_ n1_ n2_ n3_ n4_ n5_ n6_ n7_ n8_ n9_ n10_ n11_ n12_
 have hHeld : w11.cell? ⟨gb811, 0, none⟩ = some (.slice A0_0 l0_0.length c0_0) ∧ w11.cell? ⟨gb811, 1, none⟩ = some (.slice A0_1 l0_1.length c0_1) := hS_
 obtain ⟨Ao12, co12, eo12⟩ := Kd.R_slice HO818.out
 (first | subst eo12 | (injection eo12 with f1_ f2_ f3_; have f4_ := f1_.symm; have f5_ := f3_.symm; clear f1_ f2_ f3_; subst f4_; subst f5_))
 obtain ⟨Ao14, co14, eo14⟩ := Kd.R_slice HO821.out
 (first | subst eo14 | (injection eo14 with f1_ f2_ f3_; have f4_ := f1_.symm; have f5_ := f3_.symm; clear f1_ f2_ f3_; subst f4_; subst f5_))
 refine norm_ (a' := ?_) ?_ ?_
 rotate_left
 ·simp only [putAll, Act.put, List.setIfInBounds_toArray, List.set_cons_zero, List.set_cons_succ]
  rfl
 refine one_ (i := 5) (N := none) #[true, true, true, true, true, true] rfl rfl (by kernel_rfl) (by decide) (fun K hK => ?_)
 have hs13 : w11.cell? ⟨gb822, 0, none⟩ = some (.slice none 0 0) := (blk_cell BK822.out 0).trans rfl
 have hfs13 := blk_frozen BK822.out 0
 have hns13_0 := NB811_822.out
 have hns13_1 := NB812_822.out
 have hms13_0 := NB822_811.out
 have hms13_1 := NB822_812.out
 have hs15 : w11.cell? ⟨gb822, 1, none⟩ = some (.slice none 0 0) := (blk_cell BK822.out 1).trans rfl
 have hfs15 := blk_frozen BK822.out 1
 have hns15_0 := NB811_822.out
 have hns15_1 := NB812_822.out
 have hms15_0 := NB822_811.out
 have hms15_1 := NB822_812.out
 refine skip_ (w1 := ?_) (by rfl) rfl ?_ ?_
 rotate_left
 ·go_simp
  rfl
 refine hK.out _ _ ⟨((cell_far (p := ⟨gb822, _, none⟩) NB811_822.out _).trans (((cell_far (p := ⟨gb822, _, none⟩) NB811_822.out _).trans (hHeld.1)))), ((cell_far (p := ⟨gb822, _, none⟩) NB811_822.out _).trans (((cell_far (p := ⟨gb822, _, none⟩) NB811_822.out _).trans (hHeld.2))))⟩ (fun hHeld => ?_)
 clear hK K
 refine done_ (by kernel_rfl) ?_
 have hnb16 := NB811_812.out
 have hnc16 := NB812_811.out
 have hnb17 := NB811_822.out
 have hnc17 := NB822_811.out
 have hcz18_0 := zc0 BK811
 have hcz18_1 := zc1 BK811
 have hfz18_0 := blk_frozen BK811.out 0
 have hfz18_1 := blk_frozen BK811.out 1
 try go_wp2
 go_loopg [13] k (fun kq v13 w' => ∃ (x13_1 : Int) (x823000_1 : List Int) (x823001_1 : List Int) (u823000 : Value) (u823001 : Value), v13 = .int .i64 x13_1 ∧ Aside0 (impl_leastForm.l0 kq (l0_0.length : Int) x13_1 l0_0 l0_1 x823000_1 x823001_1 = some (r1, r2)) ∧ Aside0 (kq ≤ k) ∧ Aside0 (Kd.R (Kd.int .i64) 3 w' w.heap.size (fun k_ => some k_ ≠ (u823001 : Value).ownBlock) u823000 x823000_1) ∧ Aside0 (Kd.R (Kd.int .i64) 3 w' w.heap.size (fun k_ => some k_ ≠ (u823000 : Value).ownBlock) u823001 x823001_1) ∧ Aside0 (w'.heap[gb811]? = some (.cells #[(.slice A0_0 l0_0.length c0_0), (.slice A0_1 l0_1.length c0_1)] 25 (0, 0))) ∧ Aside0 (w'.heap[gb812]? = some (.cells #[(.slice none 0 0), (.slice none 0 0)] 25 (0, 0))) ∧ Aside0 (w'.heap[gb822]? = some (.cells #[u823000, u823001] 25 (0, 0))) ∧ Aside0 (Below w.heap.size w w'))
 case atStart => exact ⟨(0), (t816), (t819), (.slice Ao12 t816.length co12), (.slice Ao14 t819.length co14), eS, H', ⟨Nat.le_refl _⟩, ⟨rT (Kd.R_mono (rF gb822 1 (rF gb822 0 (rY HO818 BK822) (.slice Ao12 t816.length co12)) (.slice Ao14 t819.length co14)) (fun _ hk => hk.1.2))⟩, ⟨rT (Kd.R_mono (rF gb822 1 (rF gb822 0 (rY HO821 BK822) (.slice Ao12 t816.length co12)) (.slice Ao14 t819.length co14)) (fun _ hk => hk.1.2))⟩, ⟨kF BK811⟩, ⟨kF BK812⟩, ⟨by (with_reducible repeat (first | refine blk_drewN ?_ _ | refine blk_drew ?_ | refine blk_alloc ?_ _)); refine blk_put (cs := #[.slice Ao12 t816.length co12, .slice none 0 0]) ?_ 1 _ rfl; (with_reducible repeat (first | refine blk_drewN ?_ _ | refine blk_drew ?_ | refine blk_alloc ?_ _)); refine blk_put (cs := #[.slice none 0 0, .slice none 0 0]) ?_ 0 _ rfl; (with_reducible repeat (first | refine blk_drewN ?_ _ | refine blk_drew ?_ | refine blk_alloc ?_ _)); exact BK822.out⟩, ⟨bP HB⟩⟩
 case round =>
  clear H'
  try clear c1
  try clear p2
  try clear c5
  try clear c6
  try clear c16
  try clear c17
  try clear hcz18_0
  try clear hcz18_1
  try clear hfz18_0
  try clear hfz18_1
  obtain ⟨x13_1, x823000_1, x823001_1, u823000, u823001, rfl, HA, HK1, HO_823000, HO_823001, BK811, BK812, BK822, HB⟩ := hrel
  cases gk with
  | zero => exact absurd HA.out (by simp [impl_leastForm.l0])
  | succ k1 =>
   have H := HA.out
   clear HA
   simp only [impl_leastForm.l0] at H
   by_cases c19 : x13_1 < (l0_0.length : Int)
   ·rw [if_pos c19] at H
    have c19b0 : decide (x13_1 < (l0_0.length : Int)) = true := decide_eq_true c19
    clear c19
    replace H := Option.bind_eq_some_iff.mp H
    obtain ⟨t823, A200, H⟩ := H
    replace H : ((impl_renamed.f k1 l0_0 l0_1 t823).bind fun bt826 => ((impl_compareMaps.f k1 bt826.1 bt826.2 x823000_1 x823001_1).bind fun t833 => (if t833 < 0 then (impl_leastForm.l0 k1 (l0_0.length : Int) (wrap64 (x13_1 + 1)) l0_0 l0_1 bt826.1 bt826.2) else (impl_leastForm.l0 k1 (l0_0.length : Int) (wrap64 (x13_1 + 1)) l0_0 l0_1 x823000_1 x823001_1)))) = some (r1, r2) := H
    have A20 := Aside0.mk A200
    clear A200
    replace H := Option.bind_eq_some_iff.mp H
    obtain ⟨⟨t826, t829⟩, A210, H⟩ := H
    replace H : ((impl_compareMaps.f k1 t826 t829 x823000_1 x823001_1).bind fun t833 => (if t833 < 0 then (impl_leastForm.l0 k1 (l0_0.length : Int) (wrap64 (x13_1 + 1)) l0_0 l0_1 t826 t829) else (impl_leastForm.l0 k1 (l0_0.length : Int) (wrap64 (x13_1 + 1)) l0_0 l0_1 x823000_1 x823001_1))) = some (r1, r2) := H
    have A21 := Aside0.mk A210
    clear A210
    replace H := Option.bind_eq_some_iff.mp H
    obtain ⟨t833, A220, H⟩ := H
    replace H : (if t833 < 0 then (impl_leastForm.l0 k1 (l0_0.length : Int) (wrap64 (x13_1 + 1)) l0_0 l0_1 t826 t829) else (impl_leastForm.l0 k1 (l0_0.length : Int) (wrap64 (x13_1 + 1)) l0_0 l0_1 x823000_1 x823001_1)) = some (r1, r2) := H
    have A22 := Aside0.mk A220
    clear A220
    by_cases c23 : t833 < 0
    ·rw [if_pos c23] at H
     have c23b0 : decide (t833 < 0) = true := decide_eq_true c23
     clear c23
     have H' := Aside0.mk H
     clear H
     try go_wp2
     replace HO_823000 := Aside0.mk (Kd.R_drew HO_823000.out)
     replace HO_823001 := Aside0.mk (Kd.R_drew HO_823001.out)
     replace BK811 := Aside0.mk (blk_drew BK811.out)
     replace BK812 := Aside0.mk (blk_drew BK812.out)
     replace BK822 := Aside0.mk (blk_drew BK822.out)
     replace HB := Aside0.mk (below_drew1 HB.out)
     refine start_ (n := 7) (S := fun w' => w'.cell? ⟨gb811, 0, none⟩ = some (.slice A0_0 l0_0.length c0_0) ∧ w'.cell? ⟨gb811, 1, none⟩ = some (.slice A0_1 l0_1.length c0_1)) (ds := []) #[false, false, false, false, false, false, false] (by kernel_rfl) rfl rfl ⟨(blk_cell BK811.out 0).trans rfl, (blk_cell BK811.out 1).trans rfl⟩ (fun hHeld => ?_)
     generalize wr.drew = w24 at HO_823000 HO_823001 BK811 BK812 BK822 HB hHeld ⊢
     refine pure_ (i := 2) (N := some 18) (v := ?_) (a' := ?_) #[false, false, true, false, false, false, false] rfl rfl (by kernel_rfl) (fun _ _ _ h => h) (Or.inl ⟨by rfl, ?_⟩) ?_ ?_
     rotate_left
     ·intro w'
      go_simp
      with_reducible rfl
     rotate_left
     ·simp only [Act.put, List.setIfInBounds_toArray, List.set_cons_zero, List.set_cons_succ, i64_w, i32_w]
      rfl
     refine take_ (i := 0) (N := some 16) (v := ?_) (a' := ?_) #[true, false, true, false, false, false, false] rfl rfl (by kernel_rfl) (fun _ _ _ h => h) (Or.inl ⟨by rfl, ?_⟩) hHeld ?_ ?_
     rotate_left
     ·rintro w' ⟨s0, s1⟩
      go_simp
      with_reducible rfl
     rotate_left
     ·simp only [Act.put, List.setIfInBounds_toArray, List.set_cons_zero, List.set_cons_succ, i64_w, i32_w]
      rfl
     refine take_ (i := 1) (N := some 17) (v := ?_) (a' := ?_) #[true, true, true, false, false, false, false] rfl rfl (by kernel_rfl) (fun _ _ _ h => h) (Or.inl ⟨by rfl, ?_⟩) hHeld ?_ ?_
     rotate_left
     ·rintro w' ⟨s0, s1⟩
      go_simp
      with_reducible rfl
     rotate_left
     ·simp only [Act.put, List.setIfInBounds_toArray, List.set_cons_zero, List.set_cons_succ, i64_w, i32_w]
      rfl
     refine join_ (σ := Value × Value × Value × Nat) 1 #[true, true, true, true, true, true, false] (fun s_ => [(19, s_.1), (20, .agg #[s_.2.1, s_.2.2.1]), (5, .pointer (some ⟨s_.2.2.2, 0, none⟩))]) (fun s_ w' => (w'.cell? ⟨gb811, 0, none⟩ = some (.slice A0_0 l0_0.length c0_0) ∧ w'.cell? ⟨gb811, 1, none⟩ = some (.slice A0_1 l0_1.length c0_1)) ∧ (Kd.R (Kd.int .i64) 3 w' w.heap.size (fun k_ => some k_ ≠ (s_.2.1 : Value).ownBlock ∧ some k_ ≠ (s_.2.2.1 : Value).ownBlock ∧ some k_ ≠ (u823000 : Value).ownBlock ∧ some k_ ≠ (u823001 : Value).ownBlock) s_.1 t823) ∧ (Kd.R (Kd.int .i64) 3 w' w.heap.size (fun k_ => some k_ ≠ (s_.1 : Value).ownBlock ∧ some k_ ≠ (s_.2.2.1 : Value).ownBlock ∧ some k_ ≠ (u823000 : Value).ownBlock ∧ some k_ ≠ (u823001 : Value).ownBlock) s_.2.1 t826) ∧ (Kd.R (Kd.int .i64) 3 w' w.heap.size (fun k_ => some k_ ≠ (s_.1 : Value).ownBlock ∧ some k_ ≠ (s_.2.1 : Value).ownBlock ∧ some k_ ≠ (u823000 : Value).ownBlock ∧ some k_ ≠ (u823001 : Value).ownBlock) s_.2.2.1 t829) ∧ (Kd.R (Kd.int .i64) 3 w' w.heap.size (fun k_ => some k_ ≠ (s_.1 : Value).ownBlock ∧ some k_ ≠ (s_.2.1 : Value).ownBlock ∧ some k_ ≠ (s_.2.2.1 : Value).ownBlock ∧ some k_ ≠ (u823001 : Value).ownBlock) u823000 x823000_1) ∧ (Kd.R (Kd.int .i64) 3 w' w.heap.size (fun k_ => some k_ ≠ (s_.1 : Value).ownBlock ∧ some k_ ≠ (s_.2.1 : Value).ownBlock ∧ some k_ ≠ (s_.2.2.1 : Value).ownBlock ∧ some k_ ≠ (u823000 : Value).ownBlock) u823001 x823001_1) ∧ (w'.heap[gb811]? = some (.cells #[.slice A0_0 l0_0.length c0_0, .slice A0_1 l0_1.length c0_1] 25 (0, 0))) ∧ (w'.heap[gb812]? = some (.cells #[.slice none 0 0, .slice none 0 0] 25 (0, 0))) ∧ (w'.heap[gb822]? = some (.cells #[u823000, u823001] 25 (0, 0))) ∧ (w'.heap[s_.2.2.2]? = some (.cells #[.slice none 0 0, .slice none 0 0] 25 (0, 0))) ∧ (w.heap.size ≤ s_.2.2.2) ∧ (w.heap.size ≤ s_.2.2.2) ∧ (gb811 ≠ s_.2.2.2) ∧ (s_.2.2.2 ≠ gb811) ∧ (gb812 ≠ s_.2.2.2) ∧ (s_.2.2.2 ≠ gb812) ∧ (gb822 ≠ s_.2.2.2) ∧ (s_.2.2.2 ≠ gb822) ∧ (Below w.heap.size w w')) ?_ ?_
     rotate_left
     ·intro hCont
      refine two_ (i := 3) (j := 5) (Ni := some 19) (Nj := some 5) #[true, true, true, true, false, false, false] #[true, true, true, false, false, true, false] rfl rfl rfl rfl (by kernel_rfl) (by decide) (by decide) (fun K hK => ?_) (fun K hK => ?_)
      ·skip
       refine goes_ Try.func54 (by kernel_rfl) rfl #[.agg #[.slice A0_0 l0_0.length c0_0, .slice A0_1 l0_1.length c0_1], .int .i64 x13_1] (by rfl) rfl rfl (by (try simp only [List.map_toArray, List.map_cons, List.map_nil]); first | done | rfl | (simp only [List.length_drop, List.length_take]; rfl)) ?_
       with_reducible refine (impl_namesFrom.calls k1 _ _ l0_0 _ _ l0_1 x13_1 t823 _ ?side1 ?side2 ?side3 ?side4 A20.out).mono ?_
       (case side1 => exact cB HR0_0 HB)
       (case side2 => exact HC0_0.out)
       (case side3 => exact cB HR0_1 HB)
       (case side4 => exact HC0_1.out)
       rintro e w25 ⟨v824, rfl, ho0, hb⟩
       refine ⟨_, rfl, ?_⟩
       have HO825 := Aside0.mk (Kd.R_lower (Kd.R_new' (Kd.R_new' ho0 (Kd.R_lt (rP HO_823000))) (Kd.R_lt (rP HO_823001))) (below_size (bP HB)))
       replace HO_823000 := Aside0.mk (Kd.R_elder' (rP HO_823000) (Kd.R_base ho0) hb)
       replace HO_823001 := Aside0.mk (Kd.R_elder' (rP HO_823001) (Kd.R_base ho0) hb)
       replace BK811 := kB BK811 hb
       replace BK812 := kB BK812 hb
       replace BK822 := kB BK822 hb
       replace HB := bS HB hb
       (try clear hb)
       (try clear hb2)
       (try clear hk)
       (try clear hi)
       (try clear ho0)
       obtain ⟨Ao26, co26, eo26⟩ := Kd.R_slice HO825.out
       (first | subst eo26 | (injection eo26 with f1_ f2_ f3_; have f4_ := f1_.symm; have f5_ := f3_.symm; clear f1_ f2_ f3_; subst f4_; subst f5_))
       refine hK.out _ _ ⟨(blk_cell BK811.out 0).trans rfl, (blk_cell BK811.out 1).trans rfl⟩ (fun hHeld => ?_)
       clear hK K
       refine norm_ (a' := ?_) ?_ ?_
       rotate_left
       ·show Act.put _ (some 19) _ = _
        simp only [Act.put, List.setIfInBounds_toArray, List.set_cons_zero, List.set_cons_succ, i64_w, i32_w]
        rfl
       refine two_ (i := 4) (j := 5) (Ni := some 20) (Nj := some 5) #[true, true, true, true, true, false, false] #[true, true, true, true, false, true, false] rfl rfl rfl rfl (by kernel_rfl) (by decide) (by decide) (fun K hK => ?_) (fun K hK => ?_)
       ·skip
        refine goes_ Try.func50 (by kernel_rfl) rfl #[.agg #[.slice A0_0 l0_0.length c0_0, .slice A0_1 l0_1.length c0_1], .slice Ao26 t823.length co26] (by rfl) rfl rfl (by (try simp only [List.map_toArray, List.map_cons, List.map_nil]); first | done | rfl | (simp only [List.length_drop, List.length_take]; rfl)) ?_
        with_reducible refine (impl_renamed.calls k1 _ _ l0_0 _ _ l0_1 _ _ t823 t826 t829 _ ?side1 ?side2 ?side3 ?side4 ?side5 ?side6 A21.out).mono ?_
        (case side1 => exact cB HR0_0 HB)
        (case side2 => exact HC0_0.out)
        (case side3 => exact cB HR0_1 HB)
        (case side4 => exact HC0_1.out)
        (case side5 => exact cP (Kd.R_reads' HO825.out).2.2)
        (case side6 => exact (Kd.R_reads' HO825.out).2.1)
        rintro e w27 ⟨v827, v830, rfl, ho0, ho1, hb⟩
        refine ⟨_, rfl, ?_⟩
        have HO828 := Aside0.mk (Kd.R_lower (Kd.R_new' (Kd.R_new' (Kd.R_new' ho0 (Kd.R_lt (rP HO_823000))) (Kd.R_lt (rP HO_823001))) (Kd.R_lt (rP HO825))) (below_size (bP HB)))
        have HO831 := Aside0.mk (Kd.R_lower (Kd.R_new' (Kd.R_new' (Kd.R_new' ho1 (Kd.R_lt (rP HO_823000))) (Kd.R_lt (rP HO_823001))) (Kd.R_lt (rP HO825))) (below_size (bP HB)))
        replace HO_823000 := Aside0.mk (Kd.R_mono (Kd.R_told (Kd.R_told (Kd.R_old (rP HO_823000) hb) (Kd.R_base ho0)) (Kd.R_base ho1)) (fun _ h_ => h_.1))
        replace HO_823001 := Aside0.mk (Kd.R_mono (Kd.R_told (Kd.R_told (Kd.R_old (rP HO_823001) hb) (Kd.R_base ho0)) (Kd.R_base ho1)) (fun _ h_ => h_.1))
        replace HO825 := Aside0.mk (Kd.R_mono (Kd.R_told (Kd.R_told (Kd.R_old (rP HO825) hb) (Kd.R_base ho0)) (Kd.R_base ho1)) (fun _ h_ => h_.1))
        replace BK811 := kB BK811 hb
        replace BK812 := kB BK812 hb
        replace BK822 := kB BK822 hb
        replace HB := bS HB hb
        (try clear hb)
        (try clear hb2)
        (try clear hk)
        (try clear hi)
        (try clear ho0)
        (try clear ho1)
        refine hK.out _ _ ⟨(blk_cell BK811.out 0).trans rfl, (blk_cell BK811.out 1).trans rfl⟩ (fun hHeld => ?_)
        clear hK K
        refine norm_ (a' := ?_) ?_ ?_
        rotate_left
        ·show Act.put _ (some 20) _ = _
         simp only [Act.put, List.setIfInBounds_toArray, List.set_cons_zero, List.set_cons_succ, i64_w, i32_w]
         rfl
        refine one_ (i := 5) (N := some 5) #[true, true, true, true, true, true, false] rfl rfl (by kernel_rfl) (by decide) (fun K hK => ?_)
        refine box_step ?hg (N := 5) ?hd (cs := #[.slice none 0 0, .slice none 0 0]) (t := 25) ?hr ?_; (case hd => rfl); (case hg => rfl); (case hr => first | (go_simp; done) | (go_simp; rfl))
        intro gb832 hg w28 hbox hb
        replace HO_823000 := rB HO_823000 hb
        replace HO_823001 := rB HO_823001 hb
        replace HO825 := rB HO825 hb
        replace HO828 := rB HO828 hb
        replace HO831 := rB HO831 hb
        have BK832 := Aside0.mk (hbox)
        have GW832 := gS HB hg
        have GE832 := gS HB hg
        replace HB := bS HB hb
        have NB811_832 := nL BK811 hg
        have NB832_811 := nG BK811 hg
        replace BK811 := kB BK811 hb
        have NB812_832 := nL BK812 hg
        have NB832_812 := nG BK812 hg
        replace BK812 := kB BK812 hb
        have NB822_832 := nL BK822 hg
        have NB832_822 := nG BK822 hg
        replace BK822 := kB BK822 hb
        clear hb hbox hg
        refine hK.out _ _ ⟨(blk_cell BK811.out 0).trans rfl, (blk_cell BK811.out 1).trans rfl⟩ (fun hHeld => ?_)
        clear hK K
        refine norm_ (a' := ?_) ?_ ?_
        rotate_left
        ·show Act.put _ (some 5) _ = _
         simp only [Act.put, List.setIfInBounds_toArray, List.set_cons_zero, List.set_cons_succ, i64_w, i32_w]
         rfl
        exact norm_ (by simp only [putAll, Act.put, List.setIfInBounds_toArray, List.set_cons_zero, List.set_cons_succ]) (hCont (.slice Ao26 t823.length co26, v827, v830, gb832) _ ⟨hHeld, (rT (Kd.R_mono HO825.out (fun _ hk => ⟨hk.1.2, ⟨hk.2, ⟨hk.1.1.1.2, hk.1.1.2⟩⟩⟩))), (rT (Kd.R_mono HO828.out (fun _ hk => ⟨hk.2, ⟨hk.1.1.1, ⟨hk.1.1.2, hk.1.2⟩⟩⟩))), (rT (Kd.R_mono HO831.out (fun _ hk => ⟨hk.2, ⟨hk.1.1.1, ⟨hk.1.1.2, hk.1.2⟩⟩⟩))), (rT (Kd.R_mono HO_823000.out (fun _ hk => ⟨hk.1.1.2, ⟨hk.1.2, ⟨hk.2, hk.1.1.1⟩⟩⟩))), (rT (Kd.R_mono HO_823001.out (fun _ hk => ⟨hk.1.1.2, ⟨hk.1.2, ⟨hk.2, hk.1.1.1⟩⟩⟩))), (kP BK811), (kP BK812), (kP BK822), (kP BK832), GW832.out, GE832.out, NB811_832.out, NB832_811.out, NB812_832.out, NB832_812.out, NB822_832.out, NB832_822.out, (bP HB)⟩)
       skip
       refine box_step ?hg (N := 5) ?hd (cs := #[.slice none 0 0, .slice none 0 0]) (t := 25) ?hr ?_; (case hd => rfl); (case hg => rfl); (case hr => first | (go_simp; done) | (go_simp; rfl))
       intro gb832 hg w26 hbox hb
       replace HO_823000 := rB HO_823000 hb
       replace HO_823001 := rB HO_823001 hb
       replace HO825 := rB HO825 hb
       have BK832 := Aside0.mk (hbox)
       have GW832 := gS HB hg
       have GE832 := gS HB hg
       replace HB := bS HB hb
       have NB811_832 := nL BK811 hg
       have NB832_811 := nG BK811 hg
       replace BK811 := kB BK811 hb
       have NB812_832 := nL BK812 hg
       have NB832_812 := nG BK812 hg
       replace BK812 := kB BK812 hb
       have NB822_832 := nL BK822 hg
       have NB832_822 := nG BK822 hg
       replace BK822 := kB BK822 hb
       clear hb hbox hg
       obtain ⟨Ao27, co27, eo27⟩ := Kd.R_slice HO825.out
       (first | subst eo27 | (injection eo27 with f1_ f2_ f3_; have f4_ := f1_.symm; have f5_ := f3_.symm; clear f1_ f2_ f3_; subst f4_; subst f5_))
       refine hK.out _ _ ⟨(blk_cell BK811.out 0).trans rfl, (blk_cell BK811.out 1).trans rfl⟩ (fun hHeld => ?_)
       clear hK K
       refine norm_ (a' := ?_) ?_ ?_
       rotate_left
       ·show Act.put _ (some 5) _ = _
        simp only [Act.put, List.setIfInBounds_toArray, List.set_cons_zero, List.set_cons_succ, i64_w, i32_w]
        rfl
       refine one_ (i := 4) (N := some 20) #[true, true, true, true, true, true, false] rfl rfl (by kernel_rfl) (by decide) (fun K hK => ?_)
       refine goes_ Try.func50 (by kernel_rfl) rfl #[.agg #[.slice A0_0 l0_0.length c0_0, .slice A0_1 l0_1.length c0_1], .slice Ao27 t823.length co27] (by rfl) rfl rfl (by (try simp only [List.map_toArray, List.map_cons, List.map_nil]); first | done | rfl | (simp only [List.length_drop, List.length_take]; rfl)) ?_
       with_reducible refine (impl_renamed.calls k1 _ _ l0_0 _ _ l0_1 _ _ t823 t826 t829 _ ?side1 ?side2 ?side3 ?side4 ?side5 ?side6 A21.out).mono ?_
       (case side1 => exact cB HR0_0 HB)
       (case side2 => exact HC0_0.out)
       (case side3 => exact cB HR0_1 HB)
       (case side4 => exact HC0_1.out)
       (case side5 => exact cP (Kd.R_reads' HO825.out).2.2)
       (case side6 => exact (Kd.R_reads' HO825.out).2.1)
       rintro e w28 ⟨v827, v830, rfl, ho0, ho1, hb⟩
       refine ⟨_, rfl, ?_⟩
       have HO828 := Aside0.mk (Kd.R_lower (Kd.R_new' (Kd.R_new' (Kd.R_new' ho0 (Kd.R_lt (rP HO_823000))) (Kd.R_lt (rP HO_823001))) (Kd.R_lt (rP HO825))) (below_size (bP HB)))
       have HO831 := Aside0.mk (Kd.R_lower (Kd.R_new' (Kd.R_new' (Kd.R_new' ho1 (Kd.R_lt (rP HO_823000))) (Kd.R_lt (rP HO_823001))) (Kd.R_lt (rP HO825))) (below_size (bP HB)))
       replace HO_823000 := Aside0.mk (Kd.R_mono (Kd.R_told (Kd.R_told (Kd.R_old (rP HO_823000) hb) (Kd.R_base ho0)) (Kd.R_base ho1)) (fun _ h_ => h_.1))
       replace HO_823001 := Aside0.mk (Kd.R_mono (Kd.R_told (Kd.R_told (Kd.R_old (rP HO_823001) hb) (Kd.R_base ho0)) (Kd.R_base ho1)) (fun _ h_ => h_.1))
       replace HO825 := Aside0.mk (Kd.R_mono (Kd.R_told (Kd.R_told (Kd.R_old (rP HO825) hb) (Kd.R_base ho0)) (Kd.R_base ho1)) (fun _ h_ => h_.1))
       replace BK811 := kB BK811 hb
       replace BK812 := kB BK812 hb
       replace BK822 := kB BK822 hb
       replace BK832 := kB BK832 hb
       replace HB := bS HB hb
       (try clear hb)
       (try clear hb2)
       (try clear hk)
       (try clear hi)
       (try clear ho0)
       (try clear ho1)
       refine hK.out _ _ ⟨(blk_cell BK811.out 0).trans rfl, (blk_cell BK811.out 1).trans rfl⟩ (fun hHeld => ?_)
       clear hK K
       refine norm_ (a' := ?_) ?_ ?_
       rotate_left
       ·show Act.put _ (some 20) _ = _
        simp only [Act.put, List.setIfInBounds_toArray, List.set_cons_zero, List.set_cons_succ, i64_w, i32_w]
        rfl
       exact norm_ (by simp only [putAll, Act.put, List.setIfInBounds_toArray, List.set_cons_zero, List.set_cons_succ]) (hCont (.slice Ao27 t823.length co27, v827, v830, gb832) _ ⟨hHeld, (rT (Kd.R_mono HO825.out (fun _ hk => ⟨hk.1.2, ⟨hk.2, ⟨hk.1.1.1.2, hk.1.1.2⟩⟩⟩))), (rT (Kd.R_mono HO828.out (fun _ hk => ⟨hk.2, ⟨hk.1.1.1, ⟨hk.1.1.2, hk.1.2⟩⟩⟩))), (rT (Kd.R_mono HO831.out (fun _ hk => ⟨hk.2, ⟨hk.1.1.1, ⟨hk.1.1.2, hk.1.2⟩⟩⟩))), (rT (Kd.R_mono HO_823000.out (fun _ hk => ⟨hk.1.1.2, ⟨hk.1.2, ⟨hk.2, hk.1.1.1⟩⟩⟩))), (rT (Kd.R_mono HO_823001.out (fun _ hk => ⟨hk.1.1.2, ⟨hk.1.2, ⟨hk.2, hk.1.1.1⟩⟩⟩))), (kP BK811), (kP BK812), (kP BK822), (kP BK832), GW832.out, GE832.out, NB811_832.out, NB832_811.out, NB812_832.out, NB832_812.out, NB822_832.out, NB832_822.out, (bP HB)⟩)
      skip
      refine box_step ?hg (N := 5) ?hd (cs := #[.slice none 0 0, .slice none 0 0]) (t := 25) ?hr ?_; (case hd => rfl); (case hg => rfl); (case hr => first | (go_simp; done) | (go_simp; rfl))
      intro gb832 hg w25 hbox hb
      replace HO_823000 := rB HO_823000 hb
      replace HO_823001 := rB HO_823001 hb
      have BK832 := Aside0.mk (hbox)
      have GW832 := gS HB hg
      have GE832 := gS HB hg
      replace HB := bS HB hb
      have NB811_832 := nL BK811 hg
      have NB832_811 := nG BK811 hg
      replace BK811 := kB BK811 hb
      have NB812_832 := nL BK812 hg
      have NB832_812 := nG BK812 hg
      replace BK812 := kB BK812 hb
      have NB822_832 := nL BK822 hg
      have NB832_822 := nG BK822 hg
      replace BK822 := kB BK822 hb
      clear hb hbox hg
      refine hK.out _ _ ⟨(blk_cell BK811.out 0).trans rfl, (blk_cell BK811.out 1).trans rfl⟩ (fun hHeld => ?_)
      clear hK K
      refine norm_ (a' := ?_) ?_ ?_
      rotate_left
      ·show Act.put _ (some 5) _ = _
       simp only [Act.put, List.setIfInBounds_toArray, List.set_cons_zero, List.set_cons_succ, i64_w, i32_w]
       rfl
      refine one_ (i := 3) (N := some 19) #[true, true, true, true, false, true, false] rfl rfl (by kernel_rfl) (by decide) (fun K hK => ?_)
      refine goes_ Try.func54 (by kernel_rfl) rfl #[.agg #[.slice A0_0 l0_0.length c0_0, .slice A0_1 l0_1.length c0_1], .int .i64 x13_1] (by rfl) rfl rfl (by (try simp only [List.map_toArray, List.map_cons, List.map_nil]); first | done | rfl | (simp only [List.length_drop, List.length_take]; rfl)) ?_
      with_reducible refine (impl_namesFrom.calls k1 _ _ l0_0 _ _ l0_1 x13_1 t823 _ ?side1 ?side2 ?side3 ?side4 A20.out).mono ?_
      (case side1 => exact cB HR0_0 HB)
      (case side2 => exact HC0_0.out)
      (case side3 => exact cB HR0_1 HB)
      (case side4 => exact HC0_1.out)
      rintro e w26 ⟨v824, rfl, ho0, hb⟩
      refine ⟨_, rfl, ?_⟩
      have HO825 := Aside0.mk (Kd.R_lower (Kd.R_new' (Kd.R_new' ho0 (Kd.R_lt (rP HO_823000))) (Kd.R_lt (rP HO_823001))) (below_size (bP HB)))
      replace HO_823000 := Aside0.mk (Kd.R_elder' (rP HO_823000) (Kd.R_base ho0) hb)
      replace HO_823001 := Aside0.mk (Kd.R_elder' (rP HO_823001) (Kd.R_base ho0) hb)
      replace BK811 := kB BK811 hb
      replace BK812 := kB BK812 hb
      replace BK822 := kB BK822 hb
      replace BK832 := kB BK832 hb
      replace HB := bS HB hb
      (try clear hb)
      (try clear hb2)
      (try clear hk)
      (try clear hi)
      (try clear ho0)
      obtain ⟨Ao27, co27, eo27⟩ := Kd.R_slice HO825.out
      (first | subst eo27 | (injection eo27 with f1_ f2_ f3_; have f4_ := f1_.symm; have f5_ := f3_.symm; clear f1_ f2_ f3_; subst f4_; subst f5_))
      refine hK.out _ _ ⟨(blk_cell BK811.out 0).trans rfl, (blk_cell BK811.out 1).trans rfl⟩ (fun hHeld => ?_)
      clear hK K
      refine norm_ (a' := ?_) ?_ ?_
      rotate_left
      ·show Act.put _ (some 19) _ = _
       simp only [Act.put, List.setIfInBounds_toArray, List.set_cons_zero, List.set_cons_succ, i64_w, i32_w]
       rfl
      refine one_ (i := 4) (N := some 20) #[true, true, true, true, true, true, false] rfl rfl (by kernel_rfl) (by decide) (fun K hK => ?_)
      refine goes_ Try.func50 (by kernel_rfl) rfl #[.agg #[.slice A0_0 l0_0.length c0_0, .slice A0_1 l0_1.length c0_1], .slice Ao27 t823.length co27] (by rfl) rfl rfl (by (try simp only [List.map_toArray, List.map_cons, List.map_nil]); first | done | rfl | (simp only [List.length_drop, List.length_take]; rfl)) ?_
      with_reducible refine (impl_renamed.calls k1 _ _ l0_0 _ _ l0_1 _ _ t823 t826 t829 _ ?side1 ?side2 ?side3 ?side4 ?side5 ?side6 A21.out).mono ?_
      (case side1 => exact cB HR0_0 HB)
      (case side2 => exact HC0_0.out)
      (case side3 => exact cB HR0_1 HB)
      (case side4 => exact HC0_1.out)
      (case side5 => exact cP (Kd.R_reads' HO825.out).2.2)
      (case side6 => exact (Kd.R_reads' HO825.out).2.1)
      rintro e w28 ⟨v827, v830, rfl, ho0, ho1, hb⟩
      refine ⟨_, rfl, ?_⟩
      have HO828 := Aside0.mk (Kd.R_lower (Kd.R_new' (Kd.R_new' (Kd.R_new' ho0 (Kd.R_lt (rP HO_823000))) (Kd.R_lt (rP HO_823001))) (Kd.R_lt (rP HO825))) (below_size (bP HB)))
      have HO831 := Aside0.mk (Kd.R_lower (Kd.R_new' (Kd.R_new' (Kd.R_new' ho1 (Kd.R_lt (rP HO_823000))) (Kd.R_lt (rP HO_823001))) (Kd.R_lt (rP HO825))) (below_size (bP HB)))
      replace HO_823000 := Aside0.mk (Kd.R_mono (Kd.R_told (Kd.R_told (Kd.R_old (rP HO_823000) hb) (Kd.R_base ho0)) (Kd.R_base ho1)) (fun _ h_ => h_.1))
      replace HO_823001 := Aside0.mk (Kd.R_mono (Kd.R_told (Kd.R_told (Kd.R_old (rP HO_823001) hb) (Kd.R_base ho0)) (Kd.R_base ho1)) (fun _ h_ => h_.1))
      replace HO825 := Aside0.mk (Kd.R_mono (Kd.R_told (Kd.R_told (Kd.R_old (rP HO825) hb) (Kd.R_base ho0)) (Kd.R_base ho1)) (fun _ h_ => h_.1))
      replace BK811 := kB BK811 hb
      replace BK812 := kB BK812 hb
      replace BK822 := kB BK822 hb
      replace BK832 := kB BK832 hb
      replace HB := bS HB hb
      (try clear hb)
      (try clear hb2)
      (try clear hk)
      (try clear hi)
      (try clear ho0)
      (try clear ho1)
      refine hK.out _ _ ⟨(blk_cell BK811.out 0).trans rfl, (blk_cell BK811.out 1).trans rfl⟩ (fun hHeld => ?_)
      clear hK K
      refine norm_ (a' := ?_) ?_ ?_
      rotate_left
      ·show Act.put _ (some 20) _ = _
       simp only [Act.put, List.setIfInBounds_toArray, List.set_cons_zero, List.set_cons_succ, i64_w, i32_w]
       rfl
      exact norm_ (by simp only [putAll, Act.put, List.setIfInBounds_toArray, List.set_cons_zero, List.set_cons_succ]) (hCont (.slice Ao27 t823.length co27, v827, v830, gb832) _ ⟨hHeld, (rT (Kd.R_mono HO825.out (fun _ hk => ⟨hk.1.2, ⟨hk.2, ⟨hk.1.1.1.2, hk.1.1.2⟩⟩⟩))), (rT (Kd.R_mono HO828.out (fun _ hk => ⟨hk.2, ⟨hk.1.1.1, ⟨hk.1.1.2, hk.1.2⟩⟩⟩))), (rT (Kd.R_mono HO831.out (fun _ hk => ⟨hk.2, ⟨hk.1.1.1, ⟨hk.1.1.2, hk.1.2⟩⟩⟩))), (rT (Kd.R_mono HO_823000.out (fun _ hk => ⟨hk.1.1.2, ⟨hk.1.2, ⟨hk.2, hk.1.1.1⟩⟩⟩))), (rT (Kd.R_mono HO_823001.out (fun _ hk => ⟨hk.1.1.2, ⟨hk.1.2, ⟨hk.2, hk.1.1.1⟩⟩⟩))), (kP BK811), (kP BK812), (kP BK822), (kP BK832), GW832.out, GE832.out, NB811_832.out, NB832_811.out, NB812_832.out, NB832_812.out, NB822_832.out, NB832_822.out, (bP HB)⟩)
     rintro ⟨v824, v827, v830, gb832⟩ w29 ⟨hS_, h0_, h1_, h2_, h3_, h4_, h5_, h6_, h7_, h8_, h9_, h10_, h11_, h12_, h13_, h14_, h15_, h16_, h17_⟩
     have n0_ : Aside0 (Kd.R (Kd.int .i64) 3 w29 w.heap.size (fun k_ => some k_ ≠ (v827 : Value).ownBlock ∧ some k_ ≠ (v830 : Value).ownBlock ∧ some k_ ≠ (u823000 : Value).ownBlock ∧ some k_ ≠ (u823001 : Value).ownBlock) v824 t823) := ⟨h0_⟩
     have n1_ : Aside0 (Kd.R (Kd.int .i64) 3 w29 w.heap.size (fun k_ => some k_ ≠ (v824 : Value).ownBlock ∧ some k_ ≠ (v830 : Value).ownBlock ∧ some k_ ≠ (u823000 : Value).ownBlock ∧ some k_ ≠ (u823001 : Value).ownBlock) v827 t826) := ⟨h1_⟩
     have n2_ : Aside0 (Kd.R (Kd.int .i64) 3 w29 w.heap.size (fun k_ => some k_ ≠ (v824 : Value).ownBlock ∧ some k_ ≠ (v827 : Value).ownBlock ∧ some k_ ≠ (u823000 : Value).ownBlock ∧ some k_ ≠ (u823001 : Value).ownBlock) v830 t829) := ⟨h2_⟩
     have n3_ : Aside0 (Kd.R (Kd.int .i64) 3 w29 w.heap.size (fun k_ => some k_ ≠ (v824 : Value).ownBlock ∧ some k_ ≠ (v827 : Value).ownBlock ∧ some k_ ≠ (v830 : Value).ownBlock ∧ some k_ ≠ (u823001 : Value).ownBlock) u823000 x823000_1) := ⟨h3_⟩
     have n4_ : Aside0 (Kd.R (Kd.int .i64) 3 w29 w.heap.size (fun k_ => some k_ ≠ (v824 : Value).ownBlock ∧ some k_ ≠ (v827 : Value).ownBlock ∧ some k_ ≠ (v830 : Value).ownBlock ∧ some k_ ≠ (u823000 : Value).ownBlock) u823001 x823001_1) := ⟨h4_⟩
     have n5_ : Aside0 (w29.heap[gb811]? = some (.cells #[.slice A0_0 l0_0.length c0_0, .slice A0_1 l0_1.length c0_1] 25 (0, 0))) := ⟨h5_⟩
     have n6_ : Aside0 (w29.heap[gb812]? = some (.cells #[.slice none 0 0, .slice none 0 0] 25 (0, 0))) := ⟨h6_⟩
     have n7_ : Aside0 (w29.heap[gb822]? = some (.cells #[u823000, u823001] 25 (0, 0))) := ⟨h7_⟩
     have n8_ : Aside0 (w29.heap[gb832]? = some (.cells #[.slice none 0 0, .slice none 0 0] 25 (0, 0))) := ⟨h8_⟩
     have n9_ : Aside0 (w.heap.size ≤ gb832) := ⟨h9_⟩
     have n10_ : Aside0 (w.heap.size ≤ gb832) := ⟨h10_⟩
     have n11_ : Aside0 (gb811 ≠ gb832) := ⟨h11_⟩
     have n12_ : Aside0 (gb832 ≠ gb811) := ⟨h12_⟩
     have n13_ : Aside0 (gb812 ≠ gb832) := ⟨h13_⟩
     have n14_ : Aside0 (gb832 ≠ gb812) := ⟨h14_⟩
     have n15_ : Aside0 (gb822 ≠ gb832) := ⟨h15_⟩
     have n16_ : Aside0 (gb832 ≠ gb822) := ⟨h16_⟩
     have n17_ : Aside0 (Below w.heap.size w w29) := ⟨h17_⟩
     clear HO_823000 HO_823001 BK811 BK812 BK822 HB h0_ h1_ h2_ h3_ h4_ h5_ h6_ h7_ h8_ h9_ h10_ h11_ h12_ h13_ h14_ h15_ h16_ h17_
     have HO825 := n0_
     have HO828 := n1_
     have HO831 := n2_
     have HO_823000 := n3_
     have HO_823001 := n4_
     have BK811 := n5_
     have BK812 := n6_
     have BK822 := n7_
     have BK832 := n8_
     have GW832 := n9_
     have GE832 := n10_
     have NB811_832 := n11_
     have NB832_811 := n12_
     have NB812_832 := n13_
     have NB832_812 := n14_
     have NB822_832 := n15_
     have NB832_822 := n16_
     have HB := n17_
     clear n0_ n1_ n2_ n3_ n4_ n5_ n6_ n7_ n8_ n9_ n10_ n11_ n12_ n13_ n14_ n15_ n16_ n17_
     have hHeld : w29.cell? ⟨gb811, 0, none⟩ = some (.slice A0_0 l0_0.length c0_0) ∧ w29.cell? ⟨gb811, 1, none⟩ = some (.slice A0_1 l0_1.length c0_1) := hS_
     obtain ⟨Ao30, co30, eo30⟩ := Kd.R_slice HO828.out
     (first | subst eo30 | (injection eo30 with f1_ f2_ f3_; have f4_ := f1_.symm; have f5_ := f3_.symm; clear f1_ f2_ f3_; subst f4_; subst f5_))
     obtain ⟨Ao32, co32, eo32⟩ := Kd.R_slice HO831.out
     (first | subst eo32 | (injection eo32 with f1_ f2_ f3_; have f4_ := f1_.symm; have f5_ := f3_.symm; clear f1_ f2_ f3_; subst f4_; subst f5_))
     refine norm_ (a' := ?_) ?_ ?_
     rotate_left
     ·simp only [putAll, Act.put, List.setIfInBounds_toArray, List.set_cons_zero, List.set_cons_succ]
      rfl
     refine one_ (i := 6) (N := none) #[true, true, true, true, true, true, true] rfl rfl (by kernel_rfl) (by decide) (fun K hK => ?_)
     have hs31 : w29.cell? ⟨gb832, 0, none⟩ = some (.slice none 0 0) := (blk_cell BK832.out 0).trans rfl
     have hfs31 := blk_frozen BK832.out 0
     have hns31_0 := NB811_832.out
     have hns31_1 := NB812_832.out
     have hns31_2 := NB822_832.out
     have hms31_0 := NB832_811.out
     have hms31_1 := NB832_812.out
     have hms31_2 := NB832_822.out
     have hs33 : w29.cell? ⟨gb832, 1, none⟩ = some (.slice none 0 0) := (blk_cell BK832.out 1).trans rfl
     have hfs33 := blk_frozen BK832.out 1
     have hns33_0 := NB811_832.out
     have hns33_1 := NB812_832.out
     have hns33_2 := NB822_832.out
     have hms33_0 := NB832_811.out
     have hms33_1 := NB832_812.out
     have hms33_2 := NB832_822.out
     refine skip_ (w1 := ?_) (by rfl) rfl ?_ ?_
     rotate_left
     ·go_simp
      rfl
     refine hK.out _ _ ⟨((cell_far (p := ⟨gb832, _, none⟩) NB811_832.out _).trans (((cell_far (p := ⟨gb832, _, none⟩) NB811_832.out _).trans (hHeld.1)))), ((cell_far (p := ⟨gb832, _, none⟩) NB811_832.out _).trans (((cell_far (p := ⟨gb832, _, none⟩) NB811_832.out _).trans (hHeld.2))))⟩ (fun hHeld => ?_)
     clear hK K
     refine done_ (by kernel_rfl) ?_
     have hnb34 := NB832_811.out
     have hnc34 := NB811_832.out
     have hnb35 := NB832_812.out
     have hnc35 := NB812_832.out
     have hnb36 := NB832_822.out
     have hnc36 := NB822_832.out
     have hcz37_0 := zc0 BK832
     have hcz37_1 := zc1 BK832
     have hfz37_0 := blk_frozen BK832.out 0
     have hfz37_1 := blk_frozen BK832.out 1
     have hnb38 := NB822_811.out
     have hnc38 := NB811_822.out
     have hnb39 := NB822_812.out
     have hnc39 := NB812_822.out
     have hcz40_0 := zc0 BK822
     have hcz40_1 := zc1 BK822
     have hfz40_0 := blk_frozen BK822.out 0
     have hfz40_1 := blk_frozen BK822.out 1
     obtain ⟨Ao41, co41, eo41⟩ := Kd.R_slice HO_823000.out
     subst eo41
     obtain ⟨Ao42, co42, eo42⟩ := Kd.R_slice HO_823001.out
     subst eo42
     try go_wp2_with (first | ((with_reducible refine gate_callee (f := 60) rfl ?_); refine gL (some 23) Try.func60 #[.agg #[.slice Ao30 t826.length co30, .slice Ao32 t829.length co32], .agg #[.slice Ao41 x823000_1.length co41, .slice Ao42 x823001_1.length co42]] ?_; (with_reducible refine (impl_compareMaps.calls k1 _ _ t826 _ _ t829 _ _ x823000_1 _ _ x823001_1 t833 _ ?side1 ?side2 ?side3 ?side4 ?side5 ?side6 ?side7 ?side8 A22.out).mono ?_); (case side1 => refine (Kd.R_reads' (e := 3) (base := w.heap.size) (ok := fun k_ => (some k_ ≠ (v824 : Value).ownBlock ∧ (some k_ ≠ (.slice Ao32 t829.length co32 : Value).ownBlock ∧ (some k_ ≠ (.slice Ao41 x823000_1.length co41 : Value).ownBlock ∧ some k_ ≠ (.slice Ao42 x823001_1.length co42 : Value).ownBlock)))) (n := t826.length) (c := co30) ?_).2.2; exact (rT (Kd.R_mono (rF gb832 1 (rF gb832 0 (rY HO828 BK832) (.slice Ao30 t826.length co30)) (.slice Ao32 t829.length co32)) (fun _ h_ => h_.1)))); (case side2 => exact (Kd.R_reads' HO828.out).2.1); (case side3 => refine (Kd.R_reads' (e := 3) (base := w.heap.size) (ok := fun k_ => (some k_ ≠ (v824 : Value).ownBlock ∧ (some k_ ≠ (.slice Ao30 t826.length co30 : Value).ownBlock ∧ (some k_ ≠ (.slice Ao41 x823000_1.length co41 : Value).ownBlock ∧ some k_ ≠ (.slice Ao42 x823001_1.length co42 : Value).ownBlock)))) (n := t829.length) (c := co32) ?_).2.2; exact (rT (Kd.R_mono (rF gb832 1 (rF gb832 0 (rY HO831 BK832) (.slice Ao30 t826.length co30)) (.slice Ao32 t829.length co32)) (fun _ h_ => h_.1)))); (case side4 => exact (Kd.R_reads' HO831.out).2.1); (case side5 => refine (Kd.R_reads' (e := 3) (base := w.heap.size) (ok := fun k_ => (some k_ ≠ (v824 : Value).ownBlock ∧ (some k_ ≠ (.slice Ao30 t826.length co30 : Value).ownBlock ∧ (some k_ ≠ (.slice Ao32 t829.length co32 : Value).ownBlock ∧ some k_ ≠ (.slice Ao42 x823001_1.length co42 : Value).ownBlock)))) (n := x823000_1.length) (c := co41) ?_).2.2; exact (rT (Kd.R_mono (rF gb832 1 (rF gb832 0 (rY HO_823000 BK832) (.slice Ao30 t826.length co30)) (.slice Ao32 t829.length co32)) (fun _ h_ => h_.1)))); (case side6 => exact (Kd.R_reads' HO_823000.out).2.1); (case side7 => refine (Kd.R_reads' (e := 3) (base := w.heap.size) (ok := fun k_ => (some k_ ≠ (v824 : Value).ownBlock ∧ (some k_ ≠ (.slice Ao30 t826.length co30 : Value).ownBlock ∧ (some k_ ≠ (.slice Ao32 t829.length co32 : Value).ownBlock ∧ some k_ ≠ (.slice Ao41 x823000_1.length co41 : Value).ownBlock)))) (n := x823001_1.length) (c := co42) ?_).2.2; exact (rT (Kd.R_mono (rF gb832 1 (rF gb832 0 (rY HO_823001 BK832) (.slice Ao30 t826.length co30)) (.slice Ao32 t829.length co32)) (fun _ h_ => h_.1)))); (case side8 => exact (Kd.R_reads' HO_823001.out).2.1); rintro e w43 ⟨rfl, hb⟩; refine ⟨_, rfl, ?_⟩; replace HO_823000 := Aside0.mk (Kd.R_below (rT (Kd.R_mono (rF gb832 1 (rF gb832 0 (rY HO_823000 BK832) (.slice Ao30 t826.length co30)) (.slice Ao32 t829.length co32)) (fun _ h_ => h_.1))) hb); replace HO_823001 := Aside0.mk (Kd.R_below (rT (Kd.R_mono (rF gb832 1 (rF gb832 0 (rY HO_823001 BK832) (.slice Ao30 t826.length co30)) (.slice Ao32 t829.length co32)) (fun _ h_ => h_.1))) hb); replace HO825 := Aside0.mk (Kd.R_below (rT (Kd.R_mono (rF gb832 1 (rF gb832 0 (rY HO825 BK832) (.slice Ao30 t826.length co30)) (.slice Ao32 t829.length co32)) (fun _ h_ => h_.1))) hb); replace HO828 := Aside0.mk (Kd.R_below (rT (Kd.R_mono (rF gb832 1 (rF gb832 0 (rY HO828 BK832) (.slice Ao30 t826.length co30)) (.slice Ao32 t829.length co32)) (fun _ h_ => h_.1))) hb); replace HO831 := Aside0.mk (Kd.R_below (rT (Kd.R_mono (rF gb832 1 (rF gb832 0 (rY HO831 BK832) (.slice Ao30 t826.length co30)) (.slice Ao32 t829.length co32)) (fun _ h_ => h_.1))) hb); replace BK811 := kG BK811 hb; replace BK812 := kG BK812 hb; replace BK822 := kG BK822 hb; replace BK832 := Aside0.mk (blk_below (g := gb832) (o := .cells #[.slice Ao30 t826.length co30, .slice Ao32 t829.length co32] 25 (0, 0)) (by (with_reducible repeat (first | refine blk_drewN ?_ _ | refine blk_drew ?_ | refine blk_alloc ?_ _)); refine blk_put (cs := #[.slice Ao30 t826.length co30, .slice none 0 0]) ?_ 1 _ rfl; (with_reducible repeat (first | refine blk_drewN ?_ _ | refine blk_drew ?_ | refine blk_alloc ?_ _)); refine blk_put (cs := #[.slice none 0 0, .slice none 0 0]) ?_ 0 _ rfl; (with_reducible repeat (first | refine blk_drewN ?_ _ | refine blk_drew ?_ | refine blk_alloc ?_ _)); exact BK832.out) hb); replace HB := bS HB hb; (try clear hb); (try clear hb2); (try clear hk); (try clear hi); have hcz44_0 := zc0 BK832; have hcz44_1 := zc1 BK832; have hfz44_0 := blk_frozen BK832.out 0; have hfz44_1 := blk_frozen BK832.out 1; have hcz45_0 := zc0 BK822; have hcz45_1 := zc1 BK822; have hfz45_0 := blk_frozen BK822.out 0; have hfz45_1 := blk_frozen BK822.out 1))
     go_roundg k1
     case measure => have := HK1.out; omega
     case rel => exact ⟨(wrap64 (x13_1 + 1)), (t826), (t829), (.slice Ao30 t826.length co30), (.slice Ao32 t829.length co32), eS, H', ⟨by have := HK1.out; omega⟩, ⟨rT (Kd.R_mono (rF gb822 1 (rF gb822 0 (rY HO828 BK822) (.slice Ao30 t826.length co30)) (.slice Ao32 t829.length co32)) (fun _ hk => hk.1.2.1))⟩, ⟨rT (Kd.R_mono (rF gb822 1 (rF gb822 0 (rY HO831 BK822) (.slice Ao30 t826.length co30)) (.slice Ao32 t829.length co32)) (fun _ hk => hk.1.2.1))⟩, ⟨kF BK811⟩, ⟨kF BK812⟩, ⟨by (with_reducible repeat (first | refine blk_drewN ?_ _ | refine blk_drew ?_ | refine blk_alloc ?_ _)); refine blk_put (cs := #[.slice Ao30 t826.length co30, .slice Ao42 x823001_1.length co42]) ?_ 1 _ rfl; (with_reducible repeat (first | refine blk_drewN ?_ _ | refine blk_drew ?_ | refine blk_alloc ?_ _)); refine blk_put (cs := #[.slice Ao41 x823000_1.length co41, .slice Ao42 x823001_1.length co42]) ?_ 0 _ rfl; (with_reducible repeat (first | refine blk_drewN ?_ _ | refine blk_drew ?_ | refine blk_alloc ?_ _)); exact BK822.out⟩, ⟨bP HB⟩⟩
    rw [if_neg c23] at H
    have c23b0 : decide (t833 < 0) = false := decide_eq_false c23
    clear c23
    have H' := Aside0.mk H
    clear H
    try go_wp2
    replace HO_823000 := Aside0.mk (Kd.R_drew HO_823000.out)
    replace HO_823001 := Aside0.mk (Kd.R_drew HO_823001.out)
    replace BK811 := Aside0.mk (blk_drew BK811.out)
    replace BK812 := Aside0.mk (blk_drew BK812.out)
    replace BK822 := Aside0.mk (blk_drew BK822.out)
    replace HB := Aside0.mk (below_drew1 HB.out)
    refine start_ (n := 7) (S := fun w' => w'.cell? ⟨gb811, 0, none⟩ = some (.slice A0_0 l0_0.length c0_0) ∧ w'.cell? ⟨gb811, 1, none⟩ = some (.slice A0_1 l0_1.length c0_1)) (ds := []) #[false, false, false, false, false, false, false] (by kernel_rfl) rfl rfl ⟨(blk_cell BK811.out 0).trans rfl, (blk_cell BK811.out 1).trans rfl⟩ (fun hHeld => ?_)
    generalize wr.drew = w46 at HO_823000 HO_823001 BK811 BK812 BK822 HB hHeld ⊢
    refine pure_ (i := 2) (N := some 18) (v := ?_) (a' := ?_) #[false, false, true, false, false, false, false] rfl rfl (by kernel_rfl) (fun _ _ _ h => h) (Or.inl ⟨by rfl, ?_⟩) ?_ ?_
    rotate_left
    ·intro w'
     go_simp
     with_reducible rfl
    rotate_left
    ·simp only [Act.put, List.setIfInBounds_toArray, List.set_cons_zero, List.set_cons_succ, i64_w, i32_w]
     rfl
    refine take_ (i := 0) (N := some 16) (v := ?_) (a' := ?_) #[true, false, true, false, false, false, false] rfl rfl (by kernel_rfl) (fun _ _ _ h => h) (Or.inl ⟨by rfl, ?_⟩) hHeld ?_ ?_
    rotate_left
    ·rintro w' ⟨s0, s1⟩
     go_simp
     with_reducible rfl
    rotate_left
    ·simp only [Act.put, List.setIfInBounds_toArray, List.set_cons_zero, List.set_cons_succ, i64_w, i32_w]
     rfl
    refine take_ (i := 1) (N := some 17) (v := ?_) (a' := ?_) #[true, true, true, false, false, false, false] rfl rfl (by kernel_rfl) (fun _ _ _ h => h) (Or.inl ⟨by rfl, ?_⟩) hHeld ?_ ?_
    rotate_left
    ·rintro w' ⟨s0, s1⟩
     go_simp
     with_reducible rfl
    rotate_left
    ·simp only [Act.put, List.setIfInBounds_toArray, List.set_cons_zero, List.set_cons_succ, i64_w, i32_w]
     rfl
    refine join_ (σ := Value × Value × Value × Nat) 1 #[true, true, true, true, true, true, false] (fun s_ => [(19, s_.1), (20, .agg #[s_.2.1, s_.2.2.1]), (5, .pointer (some ⟨s_.2.2.2, 0, none⟩))]) (fun s_ w' => (w'.cell? ⟨gb811, 0, none⟩ = some (.slice A0_0 l0_0.length c0_0) ∧ w'.cell? ⟨gb811, 1, none⟩ = some (.slice A0_1 l0_1.length c0_1)) ∧ (Kd.R (Kd.int .i64) 3 w' w.heap.size (fun k_ => some k_ ≠ (s_.2.1 : Value).ownBlock ∧ some k_ ≠ (s_.2.2.1 : Value).ownBlock ∧ some k_ ≠ (u823000 : Value).ownBlock ∧ some k_ ≠ (u823001 : Value).ownBlock) s_.1 t823) ∧ (Kd.R (Kd.int .i64) 3 w' w.heap.size (fun k_ => some k_ ≠ (s_.1 : Value).ownBlock ∧ some k_ ≠ (s_.2.2.1 : Value).ownBlock ∧ some k_ ≠ (u823000 : Value).ownBlock ∧ some k_ ≠ (u823001 : Value).ownBlock) s_.2.1 t826) ∧ (Kd.R (Kd.int .i64) 3 w' w.heap.size (fun k_ => some k_ ≠ (s_.1 : Value).ownBlock ∧ some k_ ≠ (s_.2.1 : Value).ownBlock ∧ some k_ ≠ (u823000 : Value).ownBlock ∧ some k_ ≠ (u823001 : Value).ownBlock) s_.2.2.1 t829) ∧ (Kd.R (Kd.int .i64) 3 w' w.heap.size (fun k_ => some k_ ≠ (s_.1 : Value).ownBlock ∧ some k_ ≠ (s_.2.1 : Value).ownBlock ∧ some k_ ≠ (s_.2.2.1 : Value).ownBlock ∧ some k_ ≠ (u823001 : Value).ownBlock) u823000 x823000_1) ∧ (Kd.R (Kd.int .i64) 3 w' w.heap.size (fun k_ => some k_ ≠ (s_.1 : Value).ownBlock ∧ some k_ ≠ (s_.2.1 : Value).ownBlock ∧ some k_ ≠ (s_.2.2.1 : Value).ownBlock ∧ some k_ ≠ (u823000 : Value).ownBlock) u823001 x823001_1) ∧ (w'.heap[gb811]? = some (.cells #[.slice A0_0 l0_0.length c0_0, .slice A0_1 l0_1.length c0_1] 25 (0, 0))) ∧ (w'.heap[gb812]? = some (.cells #[.slice none 0 0, .slice none 0 0] 25 (0, 0))) ∧ (w'.heap[gb822]? = some (.cells #[u823000, u823001] 25 (0, 0))) ∧ (w'.heap[s_.2.2.2]? = some (.cells #[.slice none 0 0, .slice none 0 0] 25 (0, 0))) ∧ (w.heap.size ≤ s_.2.2.2) ∧ (w.heap.size ≤ s_.2.2.2) ∧ (gb811 ≠ s_.2.2.2) ∧ (s_.2.2.2 ≠ gb811) ∧ (gb812 ≠ s_.2.2.2) ∧ (s_.2.2.2 ≠ gb812) ∧ (gb822 ≠ s_.2.2.2) ∧ (s_.2.2.2 ≠ gb822) ∧ (Below w.heap.size w w')) ?_ ?_
    rotate_left
    ·intro hCont
     refine two_ (i := 3) (j := 5) (Ni := some 19) (Nj := some 5) #[true, true, true, true, false, false, false] #[true, true, true, false, false, true, false] rfl rfl rfl rfl (by kernel_rfl) (by decide) (by decide) (fun K hK => ?_) (fun K hK => ?_)
     ·skip
      refine goes_ Try.func54 (by kernel_rfl) rfl #[.agg #[.slice A0_0 l0_0.length c0_0, .slice A0_1 l0_1.length c0_1], .int .i64 x13_1] (by rfl) rfl rfl (by (try simp only [List.map_toArray, List.map_cons, List.map_nil]); first | done | rfl | (simp only [List.length_drop, List.length_take]; rfl)) ?_
      with_reducible refine (impl_namesFrom.calls k1 _ _ l0_0 _ _ l0_1 x13_1 t823 _ ?side1 ?side2 ?side3 ?side4 A20.out).mono ?_
      (case side1 => exact cB HR0_0 HB)
      (case side2 => exact HC0_0.out)
      (case side3 => exact cB HR0_1 HB)
      (case side4 => exact HC0_1.out)
      rintro e w47 ⟨v824, rfl, ho0, hb⟩
      refine ⟨_, rfl, ?_⟩
      have HO825 := Aside0.mk (Kd.R_lower (Kd.R_new' (Kd.R_new' ho0 (Kd.R_lt (rP HO_823000))) (Kd.R_lt (rP HO_823001))) (below_size (bP HB)))
      replace HO_823000 := Aside0.mk (Kd.R_elder' (rP HO_823000) (Kd.R_base ho0) hb)
      replace HO_823001 := Aside0.mk (Kd.R_elder' (rP HO_823001) (Kd.R_base ho0) hb)
      replace BK811 := kB BK811 hb
      replace BK812 := kB BK812 hb
      replace BK822 := kB BK822 hb
      replace HB := bS HB hb
      (try clear hb)
      (try clear hb2)
      (try clear hk)
      (try clear hi)
      (try clear ho0)
      obtain ⟨Ao48, co48, eo48⟩ := Kd.R_slice HO825.out
      (first | subst eo48 | (injection eo48 with f1_ f2_ f3_; have f4_ := f1_.symm; have f5_ := f3_.symm; clear f1_ f2_ f3_; subst f4_; subst f5_))
      refine hK.out _ _ ⟨(blk_cell BK811.out 0).trans rfl, (blk_cell BK811.out 1).trans rfl⟩ (fun hHeld => ?_)
      clear hK K
      refine norm_ (a' := ?_) ?_ ?_
      rotate_left
      ·show Act.put _ (some 19) _ = _
       simp only [Act.put, List.setIfInBounds_toArray, List.set_cons_zero, List.set_cons_succ, i64_w, i32_w]
       rfl
      refine two_ (i := 4) (j := 5) (Ni := some 20) (Nj := some 5) #[true, true, true, true, true, false, false] #[true, true, true, true, false, true, false] rfl rfl rfl rfl (by kernel_rfl) (by decide) (by decide) (fun K hK => ?_) (fun K hK => ?_)
      ·skip
       refine goes_ Try.func50 (by kernel_rfl) rfl #[.agg #[.slice A0_0 l0_0.length c0_0, .slice A0_1 l0_1.length c0_1], .slice Ao48 t823.length co48] (by rfl) rfl rfl (by (try simp only [List.map_toArray, List.map_cons, List.map_nil]); first | done | rfl | (simp only [List.length_drop, List.length_take]; rfl)) ?_
       with_reducible refine (impl_renamed.calls k1 _ _ l0_0 _ _ l0_1 _ _ t823 t826 t829 _ ?side1 ?side2 ?side3 ?side4 ?side5 ?side6 A21.out).mono ?_
       (case side1 => exact cB HR0_0 HB)
       (case side2 => exact HC0_0.out)
       (case side3 => exact cB HR0_1 HB)
       (case side4 => exact HC0_1.out)
       (case side5 => exact cP (Kd.R_reads' HO825.out).2.2)
       (case side6 => exact (Kd.R_reads' HO825.out).2.1)
       rintro e w49 ⟨v827, v830, rfl, ho0, ho1, hb⟩
       refine ⟨_, rfl, ?_⟩
       have HO828 := Aside0.mk (Kd.R_lower (Kd.R_new' (Kd.R_new' (Kd.R_new' ho0 (Kd.R_lt (rP HO_823000))) (Kd.R_lt (rP HO_823001))) (Kd.R_lt (rP HO825))) (below_size (bP HB)))
       have HO831 := Aside0.mk (Kd.R_lower (Kd.R_new' (Kd.R_new' (Kd.R_new' ho1 (Kd.R_lt (rP HO_823000))) (Kd.R_lt (rP HO_823001))) (Kd.R_lt (rP HO825))) (below_size (bP HB)))
       replace HO_823000 := Aside0.mk (Kd.R_mono (Kd.R_told (Kd.R_told (Kd.R_old (rP HO_823000) hb) (Kd.R_base ho0)) (Kd.R_base ho1)) (fun _ h_ => h_.1))
       replace HO_823001 := Aside0.mk (Kd.R_mono (Kd.R_told (Kd.R_told (Kd.R_old (rP HO_823001) hb) (Kd.R_base ho0)) (Kd.R_base ho1)) (fun _ h_ => h_.1))
       replace HO825 := Aside0.mk (Kd.R_mono (Kd.R_told (Kd.R_told (Kd.R_old (rP HO825) hb) (Kd.R_base ho0)) (Kd.R_base ho1)) (fun _ h_ => h_.1))
       replace BK811 := kB BK811 hb
       replace BK812 := kB BK812 hb
       replace BK822 := kB BK822 hb
       replace HB := bS HB hb
       (try clear hb)
       (try clear hb2)
       (try clear hk)
       (try clear hi)
       (try clear ho0)
       (try clear ho1)
       refine hK.out _ _ ⟨(blk_cell BK811.out 0).trans rfl, (blk_cell BK811.out 1).trans rfl⟩ (fun hHeld => ?_)
       clear hK K
       refine norm_ (a' := ?_) ?_ ?_
       rotate_left
       ·show Act.put _ (some 20) _ = _
        simp only [Act.put, List.setIfInBounds_toArray, List.set_cons_zero, List.set_cons_succ, i64_w, i32_w]
        rfl
       refine one_ (i := 5) (N := some 5) #[true, true, true, true, true, true, false] rfl rfl (by kernel_rfl) (by decide) (fun K hK => ?_)
       refine box_step ?hg (N := 5) ?hd (cs := #[.slice none 0 0, .slice none 0 0]) (t := 25) ?hr ?_; (case hd => rfl); (case hg => rfl); (case hr => first | (go_simp; done) | (go_simp; rfl))
       intro gb832 hg w50 hbox hb
       replace HO_823000 := rB HO_823000 hb
       replace HO_823001 := rB HO_823001 hb
       replace HO825 := rB HO825 hb
       replace HO828 := rB HO828 hb
       replace HO831 := rB HO831 hb
       have BK832 := Aside0.mk (hbox)
       have GW832 := gS HB hg
       have GE832 := gS HB hg
       replace HB := bS HB hb
       have NB811_832 := nL BK811 hg
       have NB832_811 := nG BK811 hg
       replace BK811 := kB BK811 hb
       have NB812_832 := nL BK812 hg
       have NB832_812 := nG BK812 hg
       replace BK812 := kB BK812 hb
       have NB822_832 := nL BK822 hg
       have NB832_822 := nG BK822 hg
       replace BK822 := kB BK822 hb
       clear hb hbox hg
       refine hK.out _ _ ⟨(blk_cell BK811.out 0).trans rfl, (blk_cell BK811.out 1).trans rfl⟩ (fun hHeld => ?_)
       clear hK K
       refine norm_ (a' := ?_) ?_ ?_
       rotate_left
       ·show Act.put _ (some 5) _ = _
        simp only [Act.put, List.setIfInBounds_toArray, List.set_cons_zero, List.set_cons_succ, i64_w, i32_w]
        rfl
       exact norm_ (by simp only [putAll, Act.put, List.setIfInBounds_toArray, List.set_cons_zero, List.set_cons_succ]) (hCont (.slice Ao48 t823.length co48, v827, v830, gb832) _ ⟨hHeld, (rT (Kd.R_mono HO825.out (fun _ hk => ⟨hk.1.2, ⟨hk.2, ⟨hk.1.1.1.2, hk.1.1.2⟩⟩⟩))), (rT (Kd.R_mono HO828.out (fun _ hk => ⟨hk.2, ⟨hk.1.1.1, ⟨hk.1.1.2, hk.1.2⟩⟩⟩))), (rT (Kd.R_mono HO831.out (fun _ hk => ⟨hk.2, ⟨hk.1.1.1, ⟨hk.1.1.2, hk.1.2⟩⟩⟩))), (rT (Kd.R_mono HO_823000.out (fun _ hk => ⟨hk.1.1.2, ⟨hk.1.2, ⟨hk.2, hk.1.1.1⟩⟩⟩))), (rT (Kd.R_mono HO_823001.out (fun _ hk => ⟨hk.1.1.2, ⟨hk.1.2, ⟨hk.2, hk.1.1.1⟩⟩⟩))), (kP BK811), (kP BK812), (kP BK822), (kP BK832), GW832.out, GE832.out, NB811_832.out, NB832_811.out, NB812_832.out, NB832_812.out, NB822_832.out, NB832_822.out, (bP HB)⟩)
      skip
      refine box_step ?hg (N := 5) ?hd (cs := #[.slice none 0 0, .slice none 0 0]) (t := 25) ?hr ?_; (case hd => rfl); (case hg => rfl); (case hr => first | (go_simp; done) | (go_simp; rfl))
      intro gb832 hg w48 hbox hb
      replace HO_823000 := rB HO_823000 hb
      replace HO_823001 := rB HO_823001 hb
      replace HO825 := rB HO825 hb
      have BK832 := Aside0.mk (hbox)
      have GW832 := gS HB hg
      have GE832 := gS HB hg
      replace HB := bS HB hb
      have NB811_832 := nL BK811 hg
      have NB832_811 := nG BK811 hg
      replace BK811 := kB BK811 hb
      have NB812_832 := nL BK812 hg
      have NB832_812 := nG BK812 hg
      replace BK812 := kB BK812 hb
      have NB822_832 := nL BK822 hg
      have NB832_822 := nG BK822 hg
      replace BK822 := kB BK822 hb
      clear hb hbox hg
      obtain ⟨Ao49, co49, eo49⟩ := Kd.R_slice HO825.out
      (first | subst eo49 | (injection eo49 with f1_ f2_ f3_; have f4_ := f1_.symm; have f5_ := f3_.symm; clear f1_ f2_ f3_; subst f4_; subst f5_))
      refine hK.out _ _ ⟨(blk_cell BK811.out 0).trans rfl, (blk_cell BK811.out 1).trans rfl⟩ (fun hHeld => ?_)
      clear hK K
      refine norm_ (a' := ?_) ?_ ?_
      rotate_left
      ·show Act.put _ (some 5) _ = _
       simp only [Act.put, List.setIfInBounds_toArray, List.set_cons_zero, List.set_cons_succ, i64_w, i32_w]
       rfl
      refine one_ (i := 4) (N := some 20) #[true, true, true, true, true, true, false] rfl rfl (by kernel_rfl) (by decide) (fun K hK => ?_)
      refine goes_ Try.func50 (by kernel_rfl) rfl #[.agg #[.slice A0_0 l0_0.length c0_0, .slice A0_1 l0_1.length c0_1], .slice Ao49 t823.length co49] (by rfl) rfl rfl (by (try simp only [List.map_toArray, List.map_cons, List.map_nil]); first | done | rfl | (simp only [List.length_drop, List.length_take]; rfl)) ?_
      with_reducible refine (impl_renamed.calls k1 _ _ l0_0 _ _ l0_1 _ _ t823 t826 t829 _ ?side1 ?side2 ?side3 ?side4 ?side5 ?side6 A21.out).mono ?_
      (case side1 => exact cB HR0_0 HB)
      (case side2 => exact HC0_0.out)
      (case side3 => exact cB HR0_1 HB)
      (case side4 => exact HC0_1.out)
      (case side5 => exact cP (Kd.R_reads' HO825.out).2.2)
      (case side6 => exact (Kd.R_reads' HO825.out).2.1)
      rintro e w50 ⟨v827, v830, rfl, ho0, ho1, hb⟩
      refine ⟨_, rfl, ?_⟩
      have HO828 := Aside0.mk (Kd.R_lower (Kd.R_new' (Kd.R_new' (Kd.R_new' ho0 (Kd.R_lt (rP HO_823000))) (Kd.R_lt (rP HO_823001))) (Kd.R_lt (rP HO825))) (below_size (bP HB)))
      have HO831 := Aside0.mk (Kd.R_lower (Kd.R_new' (Kd.R_new' (Kd.R_new' ho1 (Kd.R_lt (rP HO_823000))) (Kd.R_lt (rP HO_823001))) (Kd.R_lt (rP HO825))) (below_size (bP HB)))
      replace HO_823000 := Aside0.mk (Kd.R_mono (Kd.R_told (Kd.R_told (Kd.R_old (rP HO_823000) hb) (Kd.R_base ho0)) (Kd.R_base ho1)) (fun _ h_ => h_.1))
      replace HO_823001 := Aside0.mk (Kd.R_mono (Kd.R_told (Kd.R_told (Kd.R_old (rP HO_823001) hb) (Kd.R_base ho0)) (Kd.R_base ho1)) (fun _ h_ => h_.1))
      replace HO825 := Aside0.mk (Kd.R_mono (Kd.R_told (Kd.R_told (Kd.R_old (rP HO825) hb) (Kd.R_base ho0)) (Kd.R_base ho1)) (fun _ h_ => h_.1))
      replace BK811 := kB BK811 hb
      replace BK812 := kB BK812 hb
      replace BK822 := kB BK822 hb
      replace BK832 := kB BK832 hb
      replace HB := bS HB hb
      (try clear hb)
      (try clear hb2)
      (try clear hk)
      (try clear hi)
      (try clear ho0)
      (try clear ho1)
      refine hK.out _ _ ⟨(blk_cell BK811.out 0).trans rfl, (blk_cell BK811.out 1).trans rfl⟩ (fun hHeld => ?_)
      clear hK K
      refine norm_ (a' := ?_) ?_ ?_
      rotate_left
      ·show Act.put _ (some 20) _ = _
       simp only [Act.put, List.setIfInBounds_toArray, List.set_cons_zero, List.set_cons_succ, i64_w, i32_w]
       rfl
      exact norm_ (by simp only [putAll, Act.put, List.setIfInBounds_toArray, List.set_cons_zero, List.set_cons_succ]) (hCont (.slice Ao49 t823.length co49, v827, v830, gb832) _ ⟨hHeld, (rT (Kd.R_mono HO825.out (fun _ hk => ⟨hk.1.2, ⟨hk.2, ⟨hk.1.1.1.2, hk.1.1.2⟩⟩⟩))), (rT (Kd.R_mono HO828.out (fun _ hk => ⟨hk.2, ⟨hk.1.1.1, ⟨hk.1.1.2, hk.1.2⟩⟩⟩))), (rT (Kd.R_mono HO831.out (fun _ hk => ⟨hk.2, ⟨hk.1.1.1, ⟨hk.1.1.2, hk.1.2⟩⟩⟩))), (rT (Kd.R_mono HO_823000.out (fun _ hk => ⟨hk.1.1.2, ⟨hk.1.2, ⟨hk.2, hk.1.1.1⟩⟩⟩))), (rT (Kd.R_mono HO_823001.out (fun _ hk => ⟨hk.1.1.2, ⟨hk.1.2, ⟨hk.2, hk.1.1.1⟩⟩⟩))), (kP BK811), (kP BK812), (kP BK822), (kP BK832), GW832.out, GE832.out, NB811_832.out, NB832_811.out, NB812_832.out, NB832_812.out, NB822_832.out, NB832_822.out, (bP HB)⟩)
     skip
     refine box_step ?hg (N := 5) ?hd (cs := #[.slice none 0 0, .slice none 0 0]) (t := 25) ?hr ?_; (case hd => rfl); (case hg => rfl); (case hr => first | (go_simp; done) | (go_simp; rfl))
     intro gb832 hg w47 hbox hb
     replace HO_823000 := rB HO_823000 hb
     replace HO_823001 := rB HO_823001 hb
     have BK832 := Aside0.mk (hbox)
     have GW832 := gS HB hg
     have GE832 := gS HB hg
     replace HB := bS HB hb
     have NB811_832 := nL BK811 hg
     have NB832_811 := nG BK811 hg
     replace BK811 := kB BK811 hb
     have NB812_832 := nL BK812 hg
     have NB832_812 := nG BK812 hg
     replace BK812 := kB BK812 hb
     have NB822_832 := nL BK822 hg
     have NB832_822 := nG BK822 hg
     replace BK822 := kB BK822 hb
     clear hb hbox hg
     refine hK.out _ _ ⟨(blk_cell BK811.out 0).trans rfl, (blk_cell BK811.out 1).trans rfl⟩ (fun hHeld => ?_)
     clear hK K
     refine norm_ (a' := ?_) ?_ ?_
     rotate_left
     ·show Act.put _ (some 5) _ = _
      simp only [Act.put, List.setIfInBounds_toArray, List.set_cons_zero, List.set_cons_succ, i64_w, i32_w]
      rfl
     refine one_ (i := 3) (N := some 19) #[true, true, true, true, false, true, false] rfl rfl (by kernel_rfl) (by decide) (fun K hK => ?_)
     refine goes_ Try.func54 (by kernel_rfl) rfl #[.agg #[.slice A0_0 l0_0.length c0_0, .slice A0_1 l0_1.length c0_1], .int .i64 x13_1] (by rfl) rfl rfl (by (try simp only [List.map_toArray, List.map_cons, List.map_nil]); first | done | rfl | (simp only [List.length_drop, List.length_take]; rfl)) ?_
     with_reducible refine (impl_namesFrom.calls k1 _ _ l0_0 _ _ l0_1 x13_1 t823 _ ?side1 ?side2 ?side3 ?side4 A20.out).mono ?_
     (case side1 => exact cB HR0_0 HB)
     (case side2 => exact HC0_0.out)
     (case side3 => exact cB HR0_1 HB)
     (case side4 => exact HC0_1.out)
     rintro e w48 ⟨v824, rfl, ho0, hb⟩
     refine ⟨_, rfl, ?_⟩
     have HO825 := Aside0.mk (Kd.R_lower (Kd.R_new' (Kd.R_new' ho0 (Kd.R_lt (rP HO_823000))) (Kd.R_lt (rP HO_823001))) (below_size (bP HB)))
     replace HO_823000 := Aside0.mk (Kd.R_elder' (rP HO_823000) (Kd.R_base ho0) hb)
     replace HO_823001 := Aside0.mk (Kd.R_elder' (rP HO_823001) (Kd.R_base ho0) hb)
     replace BK811 := kB BK811 hb
     replace BK812 := kB BK812 hb
     replace BK822 := kB BK822 hb
     replace BK832 := kB BK832 hb
     replace HB := bS HB hb
     (try clear hb)
     (try clear hb2)
     (try clear hk)
     (try clear hi)
     (try clear ho0)
     obtain ⟨Ao49, co49, eo49⟩ := Kd.R_slice HO825.out
     (first | subst eo49 | (injection eo49 with f1_ f2_ f3_; have f4_ := f1_.symm; have f5_ := f3_.symm; clear f1_ f2_ f3_; subst f4_; subst f5_))
     refine hK.out _ _ ⟨(blk_cell BK811.out 0).trans rfl, (blk_cell BK811.out 1).trans rfl⟩ (fun hHeld => ?_)
     clear hK K
     refine norm_ (a' := ?_) ?_ ?_
     rotate_left
     ·show Act.put _ (some 19) _ = _
      simp only [Act.put, List.setIfInBounds_toArray, List.set_cons_zero, List.set_cons_succ, i64_w, i32_w]
      rfl
     refine one_ (i := 4) (N := some 20) #[true, true, true, true, true, true, false] rfl rfl (by kernel_rfl) (by decide) (fun K hK => ?_)
     refine goes_ Try.func50 (by kernel_rfl) rfl #[.agg #[.slice A0_0 l0_0.length c0_0, .slice A0_1 l0_1.length c0_1], .slice Ao49 t823.length co49] (by rfl) rfl rfl (by (try simp only [List.map_toArray, List.map_cons, List.map_nil]); first | done | rfl | (simp only [List.length_drop, List.length_take]; rfl)) ?_
     with_reducible refine (impl_renamed.calls k1 _ _ l0_0 _ _ l0_1 _ _ t823 t826 t829 _ ?side1 ?side2 ?side3 ?side4 ?side5 ?side6 A21.out).mono ?_
     (case side1 => exact cB HR0_0 HB)
     (case side2 => exact HC0_0.out)
     (case side3 => exact cB HR0_1 HB)
     (case side4 => exact HC0_1.out)
     (case side5 => exact cP (Kd.R_reads' HO825.out).2.2)
     (case side6 => exact (Kd.R_reads' HO825.out).2.1)
     rintro e w50 ⟨v827, v830, rfl, ho0, ho1, hb⟩
     refine ⟨_, rfl, ?_⟩
     have HO828 := Aside0.mk (Kd.R_lower (Kd.R_new' (Kd.R_new' (Kd.R_new' ho0 (Kd.R_lt (rP HO_823000))) (Kd.R_lt (rP HO_823001))) (Kd.R_lt (rP HO825))) (below_size (bP HB)))
     have HO831 := Aside0.mk (Kd.R_lower (Kd.R_new' (Kd.R_new' (Kd.R_new' ho1 (Kd.R_lt (rP HO_823000))) (Kd.R_lt (rP HO_823001))) (Kd.R_lt (rP HO825))) (below_size (bP HB)))
     replace HO_823000 := Aside0.mk (Kd.R_mono (Kd.R_told (Kd.R_told (Kd.R_old (rP HO_823000) hb) (Kd.R_base ho0)) (Kd.R_base ho1)) (fun _ h_ => h_.1))
     replace HO_823001 := Aside0.mk (Kd.R_mono (Kd.R_told (Kd.R_told (Kd.R_old (rP HO_823001) hb) (Kd.R_base ho0)) (Kd.R_base ho1)) (fun _ h_ => h_.1))
     replace HO825 := Aside0.mk (Kd.R_mono (Kd.R_told (Kd.R_told (Kd.R_old (rP HO825) hb) (Kd.R_base ho0)) (Kd.R_base ho1)) (fun _ h_ => h_.1))
     replace BK811 := kB BK811 hb
     replace BK812 := kB BK812 hb
     replace BK822 := kB BK822 hb
     replace BK832 := kB BK832 hb
     replace HB := bS HB hb
     (try clear hb)
     (try clear hb2)
     (try clear hk)
     (try clear hi)
     (try clear ho0)
     (try clear ho1)
     refine hK.out _ _ ⟨(blk_cell BK811.out 0).trans rfl, (blk_cell BK811.out 1).trans rfl⟩ (fun hHeld => ?_)
     clear hK K
     refine norm_ (a' := ?_) ?_ ?_
     rotate_left
     ·show Act.put _ (some 20) _ = _
      simp only [Act.put, List.setIfInBounds_toArray, List.set_cons_zero, List.set_cons_succ, i64_w, i32_w]
      rfl
     exact norm_ (by simp only [putAll, Act.put, List.setIfInBounds_toArray, List.set_cons_zero, List.set_cons_succ]) (hCont (.slice Ao49 t823.length co49, v827, v830, gb832) _ ⟨hHeld, (rT (Kd.R_mono HO825.out (fun _ hk => ⟨hk.1.2, ⟨hk.2, ⟨hk.1.1.1.2, hk.1.1.2⟩⟩⟩))), (rT (Kd.R_mono HO828.out (fun _ hk => ⟨hk.2, ⟨hk.1.1.1, ⟨hk.1.1.2, hk.1.2⟩⟩⟩))), (rT (Kd.R_mono HO831.out (fun _ hk => ⟨hk.2, ⟨hk.1.1.1, ⟨hk.1.1.2, hk.1.2⟩⟩⟩))), (rT (Kd.R_mono HO_823000.out (fun _ hk => ⟨hk.1.1.2, ⟨hk.1.2, ⟨hk.2, hk.1.1.1⟩⟩⟩))), (rT (Kd.R_mono HO_823001.out (fun _ hk => ⟨hk.1.1.2, ⟨hk.1.2, ⟨hk.2, hk.1.1.1⟩⟩⟩))), (kP BK811), (kP BK812), (kP BK822), (kP BK832), GW832.out, GE832.out, NB811_832.out, NB832_811.out, NB812_832.out, NB832_812.out, NB822_832.out, NB832_822.out, (bP HB)⟩)
    rintro ⟨v824, v827, v830, gb832⟩ w51 ⟨hS_, h0_, h1_, h2_, h3_, h4_, h5_, h6_, h7_, h8_, h9_, h10_, h11_, h12_, h13_, h14_, h15_, h16_, h17_⟩
    have n0_ : Aside0 (Kd.R (Kd.int .i64) 3 w51 w.heap.size (fun k_ => some k_ ≠ (v827 : Value).ownBlock ∧ some k_ ≠ (v830 : Value).ownBlock ∧ some k_ ≠ (u823000 : Value).ownBlock ∧ some k_ ≠ (u823001 : Value).ownBlock) v824 t823) := ⟨h0_⟩
    have n1_ : Aside0 (Kd.R (Kd.int .i64) 3 w51 w.heap.size (fun k_ => some k_ ≠ (v824 : Value).ownBlock ∧ some k_ ≠ (v830 : Value).ownBlock ∧ some k_ ≠ (u823000 : Value).ownBlock ∧ some k_ ≠ (u823001 : Value).ownBlock) v827 t826) := ⟨h1_⟩
    have n2_ : Aside0 (Kd.R (Kd.int .i64) 3 w51 w.heap.size (fun k_ => some k_ ≠ (v824 : Value).ownBlock ∧ some k_ ≠ (v827 : Value).ownBlock ∧ some k_ ≠ (u823000 : Value).ownBlock ∧ some k_ ≠ (u823001 : Value).ownBlock) v830 t829) := ⟨h2_⟩
    have n3_ : Aside0 (Kd.R (Kd.int .i64) 3 w51 w.heap.size (fun k_ => some k_ ≠ (v824 : Value).ownBlock ∧ some k_ ≠ (v827 : Value).ownBlock ∧ some k_ ≠ (v830 : Value).ownBlock ∧ some k_ ≠ (u823001 : Value).ownBlock) u823000 x823000_1) := ⟨h3_⟩
    have n4_ : Aside0 (Kd.R (Kd.int .i64) 3 w51 w.heap.size (fun k_ => some k_ ≠ (v824 : Value).ownBlock ∧ some k_ ≠ (v827 : Value).ownBlock ∧ some k_ ≠ (v830 : Value).ownBlock ∧ some k_ ≠ (u823000 : Value).ownBlock) u823001 x823001_1) := ⟨h4_⟩
    have n5_ : Aside0 (w51.heap[gb811]? = some (.cells #[.slice A0_0 l0_0.length c0_0, .slice A0_1 l0_1.length c0_1] 25 (0, 0))) := ⟨h5_⟩
    have n6_ : Aside0 (w51.heap[gb812]? = some (.cells #[.slice none 0 0, .slice none 0 0] 25 (0, 0))) := ⟨h6_⟩
    have n7_ : Aside0 (w51.heap[gb822]? = some (.cells #[u823000, u823001] 25 (0, 0))) := ⟨h7_⟩
    have n8_ : Aside0 (w51.heap[gb832]? = some (.cells #[.slice none 0 0, .slice none 0 0] 25 (0, 0))) := ⟨h8_⟩
    have n9_ : Aside0 (w.heap.size ≤ gb832) := ⟨h9_⟩
    have n10_ : Aside0 (w.heap.size ≤ gb832) := ⟨h10_⟩
    have n11_ : Aside0 (gb811 ≠ gb832) := ⟨h11_⟩
    have n12_ : Aside0 (gb832 ≠ gb811) := ⟨h12_⟩
    have n13_ : Aside0 (gb812 ≠ gb832) := ⟨h13_⟩
    have n14_ : Aside0 (gb832 ≠ gb812) := ⟨h14_⟩
    have n15_ : Aside0 (gb822 ≠ gb832) := ⟨h15_⟩
    have n16_ : Aside0 (gb832 ≠ gb822) := ⟨h16_⟩
    have n17_ : Aside0 (Below w.heap.size w w51) := ⟨h17_⟩
    clear HO_823000 HO_823001 BK811 BK812 BK822 HB h0_ h1_ h2_ h3_ h4_ h5_ h6_ h7_ h8_ h9_ h10_ h11_ h12_ h13_ h14_ h15_ h16_ h17_
    have HO825 := n0_
    have HO828 := n1_
    have HO831 := n2_
    have HO_823000 := n3_
    have HO_823001 := n4_
    have BK811 := n5_
    have BK812 := n6_
    have BK822 := n7_
    have BK832 := n8_
    have GW832 := n9_
    have GE832 := n10_
    have NB811_832 := n11_
    have NB832_811 := n12_
    have NB812_832 := n13_
    have NB832_812 := n14_
    have NB822_832 := n15_
    have NB832_822 := n16_
    have HB := n17_
    clear n0_ n1_ n2_ n3_ n4_ n5_ n6_ n7_ n8_ n9_ n10_ n11_ n12_ n13_ n14_ n15_ n16_ n17_
    have hHeld : w51.cell? ⟨gb811, 0, none⟩ = some (.slice A0_0 l0_0.length c0_0) ∧ w51.cell? ⟨gb811, 1, none⟩ = some (.slice A0_1 l0_1.length c0_1) := hS_
    obtain ⟨Ao52, co52, eo52⟩ := Kd.R_slice HO828.out
    (first | subst eo52 | (injection eo52 with f1_ f2_ f3_; have f4_ := f1_.symm; have f5_ := f3_.symm; clear f1_ f2_ f3_; subst f4_; subst f5_))
    obtain ⟨Ao54, co54, eo54⟩ := Kd.R_slice HO831.out
    (first | subst eo54 | (injection eo54 with f1_ f2_ f3_; have f4_ := f1_.symm; have f5_ := f3_.symm; clear f1_ f2_ f3_; subst f4_; subst f5_))
    refine norm_ (a' := ?_) ?_ ?_
    rotate_left
    ·simp only [putAll, Act.put, List.setIfInBounds_toArray, List.set_cons_zero, List.set_cons_succ]
     rfl
    refine one_ (i := 6) (N := none) #[true, true, true, true, true, true, true] rfl rfl (by kernel_rfl) (by decide) (fun K hK => ?_)
    have hs53 : w51.cell? ⟨gb832, 0, none⟩ = some (.slice none 0 0) := (blk_cell BK832.out 0).trans rfl
    have hfs53 := blk_frozen BK832.out 0
    have hns53_0 := NB811_832.out
    have hns53_1 := NB812_832.out
    have hns53_2 := NB822_832.out
    have hms53_0 := NB832_811.out
    have hms53_1 := NB832_812.out
    have hms53_2 := NB832_822.out
    have hs55 : w51.cell? ⟨gb832, 1, none⟩ = some (.slice none 0 0) := (blk_cell BK832.out 1).trans rfl
    have hfs55 := blk_frozen BK832.out 1
    have hns55_0 := NB811_832.out
    have hns55_1 := NB812_832.out
    have hns55_2 := NB822_832.out
    have hms55_0 := NB832_811.out
    have hms55_1 := NB832_812.out
    have hms55_2 := NB832_822.out
    refine skip_ (w1 := ?_) (by rfl) rfl ?_ ?_
    rotate_left
    ·go_simp
     rfl
    refine hK.out _ _ ⟨((cell_far (p := ⟨gb832, _, none⟩) NB811_832.out _).trans (((cell_far (p := ⟨gb832, _, none⟩) NB811_832.out _).trans (hHeld.1)))), ((cell_far (p := ⟨gb832, _, none⟩) NB811_832.out _).trans (((cell_far (p := ⟨gb832, _, none⟩) NB811_832.out _).trans (hHeld.2))))⟩ (fun hHeld => ?_)
    clear hK K
    refine done_ (by kernel_rfl) ?_
    have hnb56 := NB832_811.out
    have hnc56 := NB811_832.out
    have hnb57 := NB832_812.out
    have hnc57 := NB812_832.out
    have hnb58 := NB832_822.out
    have hnc58 := NB822_832.out
    have hcz59_0 := zc0 BK832
    have hcz59_1 := zc1 BK832
    have hfz59_0 := blk_frozen BK832.out 0
    have hfz59_1 := blk_frozen BK832.out 1
    have hnb60 := NB822_811.out
    have hnc60 := NB811_822.out
    have hnb61 := NB822_812.out
    have hnc61 := NB812_822.out
    have hcz62_0 := zc0 BK822
    have hcz62_1 := zc1 BK822
    have hfz62_0 := blk_frozen BK822.out 0
    have hfz62_1 := blk_frozen BK822.out 1
    obtain ⟨Ao63, co63, eo63⟩ := Kd.R_slice HO_823000.out
    subst eo63
    obtain ⟨Ao64, co64, eo64⟩ := Kd.R_slice HO_823001.out
    subst eo64
    try go_wp2_with (first | ((with_reducible refine gate_callee (f := 60) rfl ?_); refine gL (some 23) Try.func60 #[.agg #[.slice Ao52 t826.length co52, .slice Ao54 t829.length co54], .agg #[.slice Ao63 x823000_1.length co63, .slice Ao64 x823001_1.length co64]] ?_; (with_reducible refine (impl_compareMaps.calls k1 _ _ t826 _ _ t829 _ _ x823000_1 _ _ x823001_1 t833 _ ?side1 ?side2 ?side3 ?side4 ?side5 ?side6 ?side7 ?side8 A22.out).mono ?_); (case side1 => refine (Kd.R_reads' (e := 3) (base := w.heap.size) (ok := fun k_ => (some k_ ≠ (v824 : Value).ownBlock ∧ (some k_ ≠ (.slice Ao54 t829.length co54 : Value).ownBlock ∧ (some k_ ≠ (.slice Ao63 x823000_1.length co63 : Value).ownBlock ∧ some k_ ≠ (.slice Ao64 x823001_1.length co64 : Value).ownBlock)))) (n := t826.length) (c := co52) ?_).2.2; exact (rT (Kd.R_mono (rF gb832 1 (rF gb832 0 (rY HO828 BK832) (.slice Ao52 t826.length co52)) (.slice Ao54 t829.length co54)) (fun _ h_ => h_.1)))); (case side2 => exact (Kd.R_reads' HO828.out).2.1); (case side3 => refine (Kd.R_reads' (e := 3) (base := w.heap.size) (ok := fun k_ => (some k_ ≠ (v824 : Value).ownBlock ∧ (some k_ ≠ (.slice Ao52 t826.length co52 : Value).ownBlock ∧ (some k_ ≠ (.slice Ao63 x823000_1.length co63 : Value).ownBlock ∧ some k_ ≠ (.slice Ao64 x823001_1.length co64 : Value).ownBlock)))) (n := t829.length) (c := co54) ?_).2.2; exact (rT (Kd.R_mono (rF gb832 1 (rF gb832 0 (rY HO831 BK832) (.slice Ao52 t826.length co52)) (.slice Ao54 t829.length co54)) (fun _ h_ => h_.1)))); (case side4 => exact (Kd.R_reads' HO831.out).2.1); (case side5 => refine (Kd.R_reads' (e := 3) (base := w.heap.size) (ok := fun k_ => (some k_ ≠ (v824 : Value).ownBlock ∧ (some k_ ≠ (.slice Ao52 t826.length co52 : Value).ownBlock ∧ (some k_ ≠ (.slice Ao54 t829.length co54 : Value).ownBlock ∧ some k_ ≠ (.slice Ao64 x823001_1.length co64 : Value).ownBlock)))) (n := x823000_1.length) (c := co63) ?_).2.2; exact (rT (Kd.R_mono (rF gb832 1 (rF gb832 0 (rY HO_823000 BK832) (.slice Ao52 t826.length co52)) (.slice Ao54 t829.length co54)) (fun _ h_ => h_.1)))); (case side6 => exact (Kd.R_reads' HO_823000.out).2.1); (case side7 => refine (Kd.R_reads' (e := 3) (base := w.heap.size) (ok := fun k_ => (some k_ ≠ (v824 : Value).ownBlock ∧ (some k_ ≠ (.slice Ao52 t826.length co52 : Value).ownBlock ∧ (some k_ ≠ (.slice Ao54 t829.length co54 : Value).ownBlock ∧ some k_ ≠ (.slice Ao63 x823000_1.length co63 : Value).ownBlock)))) (n := x823001_1.length) (c := co64) ?_).2.2; exact (rT (Kd.R_mono (rF gb832 1 (rF gb832 0 (rY HO_823001 BK832) (.slice Ao52 t826.length co52)) (.slice Ao54 t829.length co54)) (fun _ h_ => h_.1)))); (case side8 => exact (Kd.R_reads' HO_823001.out).2.1); rintro e w65 ⟨rfl, hb⟩; refine ⟨_, rfl, ?_⟩; replace HO_823000 := Aside0.mk (Kd.R_below (rT (Kd.R_mono (rF gb832 1 (rF gb832 0 (rY HO_823000 BK832) (.slice Ao52 t826.length co52)) (.slice Ao54 t829.length co54)) (fun _ h_ => h_.1))) hb); replace HO_823001 := Aside0.mk (Kd.R_below (rT (Kd.R_mono (rF gb832 1 (rF gb832 0 (rY HO_823001 BK832) (.slice Ao52 t826.length co52)) (.slice Ao54 t829.length co54)) (fun _ h_ => h_.1))) hb); replace HO825 := Aside0.mk (Kd.R_below (rT (Kd.R_mono (rF gb832 1 (rF gb832 0 (rY HO825 BK832) (.slice Ao52 t826.length co52)) (.slice Ao54 t829.length co54)) (fun _ h_ => h_.1))) hb); replace HO828 := Aside0.mk (Kd.R_below (rT (Kd.R_mono (rF gb832 1 (rF gb832 0 (rY HO828 BK832) (.slice Ao52 t826.length co52)) (.slice Ao54 t829.length co54)) (fun _ h_ => h_.1))) hb); replace HO831 := Aside0.mk (Kd.R_below (rT (Kd.R_mono (rF gb832 1 (rF gb832 0 (rY HO831 BK832) (.slice Ao52 t826.length co52)) (.slice Ao54 t829.length co54)) (fun _ h_ => h_.1))) hb); replace BK811 := kG BK811 hb; replace BK812 := kG BK812 hb; replace BK822 := kG BK822 hb; replace BK832 := Aside0.mk (blk_below (g := gb832) (o := .cells #[.slice Ao52 t826.length co52, .slice Ao54 t829.length co54] 25 (0, 0)) (by (with_reducible repeat (first | refine blk_drewN ?_ _ | refine blk_drew ?_ | refine blk_alloc ?_ _)); refine blk_put (cs := #[.slice Ao52 t826.length co52, .slice none 0 0]) ?_ 1 _ rfl; (with_reducible repeat (first | refine blk_drewN ?_ _ | refine blk_drew ?_ | refine blk_alloc ?_ _)); refine blk_put (cs := #[.slice none 0 0, .slice none 0 0]) ?_ 0 _ rfl; (with_reducible repeat (first | refine blk_drewN ?_ _ | refine blk_drew ?_ | refine blk_alloc ?_ _)); exact BK832.out) hb); replace HB := bS HB hb; (try clear hb); (try clear hb2); (try clear hk); (try clear hi)))
    go_roundg k1
    case measure => have := HK1.out; omega
    case rel => exact ⟨(wrap64 (x13_1 + 1)), (x823000_1), (x823001_1), (.slice Ao63 x823000_1.length co63), (.slice Ao64 x823001_1.length co64), eS, H', ⟨by have := HK1.out; omega⟩, ⟨rT (Kd.R_mono HO_823000.out (fun _ hk => hk.2.2.2))⟩, ⟨rT (Kd.R_mono HO_823001.out (fun _ hk => hk.2.2.2))⟩, ⟨kP BK811⟩, ⟨kP BK812⟩, ⟨kP BK822⟩, ⟨bP HB⟩⟩
   ·rw [if_neg c19] at H
    have c19b0 : decide (x13_1 < (l0_0.length : Int)) = false := decide_eq_false c19
    clear c19
    simp only [Option.some.injEq, Prod.mk.injEq] at H
    obtain ⟨rfl, rfl⟩ := H
    have hnb66 := NB822_811.out
    have hnc66 := NB811_822.out
    have hnb67 := NB822_812.out
    have hnc67 := NB812_822.out
    have hcz68_0 := zc0 BK822
    have hcz68_1 := zc1 BK822
    have hfz68_0 := blk_frozen BK822.out 0
    have hfz68_1 := blk_frozen BK822.out 1
    obtain ⟨Ao69, co69, eo69⟩ := Kd.R_slice HO_823000.out
    subst eo69
    have hnb70 := NB812_811.out
    have hnc70 := NB811_812.out
    have hcz71_0 := zc0 BK812
    have hcz71_1 := zc1 BK812
    have hfz71_0 := blk_frozen BK812.out 0
    have hfz71_1 := blk_frozen BK812.out 1
    obtain ⟨Ao72, co72, eo72⟩ := Kd.R_slice HO_823001.out
    subst eo72
    go_wp2
    refine bodyPost_ret (results_cell_row rfl _ _ gb812 25 #[.slice Ao69 x823000_1.length co69, .slice Ao72 x823001_1.length co72] (0, 0) _ rfl (by (with_reducible repeat (first | refine blk_drewN ?_ _ | refine blk_drew ?_ | refine blk_alloc ?_ _)); refine blk_put (cs := #[.slice Ao69 x823000_1.length co69, .slice none 0 0]) ?_ 1 _ rfl; (with_reducible repeat (first | refine blk_drewN ?_ _ | refine blk_drew ?_ | refine blk_alloc ?_ _)); refine blk_put (cs := #[.slice none 0 0, .slice none 0 0]) ?_ 0 _ rfl; (with_reducible repeat (first | refine blk_drewN ?_ _ | refine blk_drew ?_ | refine blk_alloc ?_ _)); exact BK812.out) Try.underlying25 rfl (by kernel_rfl)) rfl ?_
    exact ⟨_, _, eR, rT (Kd.R_mono (rF gb812 1 (rF gb812 0 (rY HO_823000 BK812) (.slice Ao69 x823000_1.length co69)) (.slice Ao72 x823001_1.length co72)) (fun _ hk => hk.1)), rT (Kd.R_mono (rF gb812 1 (rF gb812 0 (rY HO_823001 BK812) (.slice Ao69 x823000_1.length co69)) (.slice Ao72 x823001_1.length co72)) (fun _ hk => hk.1)), bP HB⟩

end Go.Proofs.Ytihabnfccgjfbaa.F
