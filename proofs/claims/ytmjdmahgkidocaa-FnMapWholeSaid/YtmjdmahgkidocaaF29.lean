/- Contracts: what these Go functions return. -/
import Derived.Test.YtmjdmahgkidocaaF0
import Derived.Test.YtmjdmahgkidocaaF4
import Derived.Test.YtmjdmahgkidocaaF21
import Derived.Test.YtmjdmahgkidocaaF24
import Derived.Test.YtmjdmahgkidocaaF25
namespace Go.Proofs.Ytmjdmahgkidocaa.F
open Go.RowKit Go.Proofs.YtmjdmahgkidocaaW.PrintWords Go.Proofs.YtmjdmahgkidocaaW.PrintLast Go.Proofs.YtmjdmahgkidocaaW.PrintMore
attribute [local go_sem] max2_int min2_int max_two min_two max_three min_three max_four min_four
set_option linter.unusedVariables false
set_option linter.unusedSimpArgs false

/-! ### impl_MapTurns: function 18 -/
def impl_MapTurns.l0 : Nat → Int → Int → Int → List Int → List Int → List Int → List Int → Option (Int)
 | 0, _, _, _, _, _, _, _ => none
 | k + 1, x4, x15, x16, x409000, x409001, x420000, x420001 => if x16 < x15 then ((impl_namesFrom.f k x409000 x409001 x16).bind fun t420 => ((impl_renamed.f k x409000 x409001 t420).bind fun bt423 => ((impl_compareMaps.f k bt423.1 bt423.2 x420000 x420001).bind fun t429 => (if t429 = 0 then (impl_MapTurns.l0 k (wrap64 (x4 + 1)) x15 (wrap64 (x16 + 1)) x409000 x409001 x420000 x420001) else (impl_MapTurns.l0 k x4 x15 (wrap64 (x16 + 1)) x409000 x409001 x420000 x420001))))) else (some x4)
def impl_MapTurns.f (k : Nat) (l0_0 : List Int) (l0_1 : List Int) : Option (Int) := (impl_MapValid.f k l0_0 l0_1).bind fun t409 => (if t409 = true then ((impl_namesFrom.f k l0_0 l0_1 0).bind fun t410 => ((impl_renamed.f k l0_0 l0_1 t410).bind fun bt413 => (impl_MapTurns.l0 k 0 (l0_0.length : Int) 0 l0_0 l0_1 bt413.1 bt413.2))) else (some (-1)))
def impl_MapTurns.T7 : Bool × List (List Nat × List Nat) := (true, [([], []), ([], []), ([], []), ([1, 2], [1, 2]), ([0, 3, 3], [0, 3]), ([], []), ([4, 5, 4], [4, 5]), ([6], [6])])
def impl_MapTurns.B7 : List Nat := [0, 0, 0, 6, 15, 0, 63, 127]
theorem impl_MapTurns.tab7 : rtab .any (opsOf Try.f18 7) = impl_MapTurns.T7 := by kernel_rfl
theorem impl_MapTurns.bits7 : waitsOk impl_MapTurns.T7.2 impl_MapTurns.B7 = true := by kernel_rfl
set_option maxHeartbeats 8000000 in
set_option maxRecDepth 100000 in
theorem impl_MapTurns.calls (k : Nat) (A0_0 : Option Addr) (c0_0 : Nat) (l0_0 : List Int) (A0_1 : Option Addr) (c0_1 : Nat) (l0_1 : List Int) (r : Int) (w : World) (hr0_0 : Kd.C (Kd.int .i64) w A0_0 l0_0.length l0_0) (hc0_0 : l0_0.length ≤ c0_0) (hr0_1 : Kd.C (Kd.int .i64) w A0_1 l0_1.length l0_1) (hc0_1 : l0_1.length ≤ c0_1) (h : impl_MapTurns.f k l0_0 l0_1 = some r) :
 Calls Try.prog 18 #[.agg #[.slice A0_0 l0_0.length c0_0, .slice A0_1 l0_1.length c0_1]] w fun e w' => e = .returned (.int .i64 r) ∧ Below w.heap.size w w' := by
 have hu24 := Try.underlying24
 have HR0_0 := Aside0.mk hr0_0
 have HC0_0 := Aside0.mk hc0_0
 clear hr0_0 hc0_0
 have HR0_1 := Aside0.mk hr0_1
 have HC0_1 := Aside0.mk hc0_1
 clear hr0_1 hc0_1
 have HB := Aside0.mk (Below.refl w.heap.size w)
 have H : ((impl_MapValid.f k l0_0 l0_1).bind fun t409 => (if t409 = true then ((impl_namesFrom.f k l0_0 l0_1 0).bind fun t410 => ((impl_renamed.f k l0_0 l0_1 t410).bind fun bt413 => (impl_MapTurns.l0 k 0 (l0_0.length : Int) 0 l0_0 l0_1 bt413.1 bt413.2))) else (some (-1)))) = some r := h
 clear h
 obtain ⟨t409, A20, H⟩ := Option.bind_eq_some_iff.mp H
 have A2 := Aside0.mk A20
 clear A20
 by_cases c3 : t409 = true
 ·subst c3
  rw [if_pos rfl] at H
  obtain ⟨t410, A40, H⟩ := Option.bind_eq_some_iff.mp H
  have A4 := Aside0.mk A40
  clear A40
  obtain ⟨⟨t413, t416⟩, A50, H⟩ := Option.bind_eq_some_iff.mp H
  dsimp only at H
  have A5 := Aside0.mk A50
  clear A50
  have H' := Aside0.mk H
  clear H
  go_enter Try.func18, Try.ntmps18
  try go_wp2_with (first | ((with_reducible refine gate_dst (N := 1) rfl ?_); refine bE 1 #[.slice A0_0 l0_0.length c0_0, .slice A0_1 l0_1.length c0_1] 24 ?_; intro gb408 hg w6 hbox hb; have BK408 := Aside0.mk (hbox); have GW408 := gS HB hg; have GE408 := gS HB hg; replace HB := bS HB hb; clear hb hbox hg; have hcz7_0 := zc0 BK408; have hcz7_1 := zc1 BK408; have hfz7_0 := blk_frozen BK408.out 0; have hfz7_1 := blk_frozen BK408.out 1) | ((with_reducible refine gate_callee (f := 6) rfl ?_); refine gL (some 7) Try.func6 #[.agg #[.slice A0_0 l0_0.length c0_0, .slice A0_1 l0_1.length c0_1]] ?_; (with_reducible refine (impl_MapValid.calls k (fun k_ => k_ < w.heap.size) _ _ l0_0 (fun k_ => k_ < w.heap.size) _ _ l0_1 true _ ?side1 ?side2 A2.out).mono ?_); (case side1 => exact Kd.V_mk HC0_0.out (Kd.F_below (Kd.C_F (Kd.heap_int .i64) HR0_0.out) (bP HB))); (case side2 => exact Kd.V_mk HC0_1.out (Kd.F_below (Kd.C_F (Kd.heap_int .i64) HR0_1.out) (bP HB))); rintro e w8 ⟨rfl, hb⟩; refine ⟨_, rfl, ?_⟩; replace BK408 := kB BK408 hb; replace HB := bS HB hb; (try clear hb); (try clear hb2); (try clear hk); (try clear hi)))
  replace BK408 := Aside0.mk (blk_drew BK408.out)
  replace HB := Aside0.mk (below_drew1 HB.out)
  refine start_ (n := 7) (S := fun w' => w'.cell? ⟨gb408, 0, none⟩ = some (.slice A0_0 l0_0.length c0_0) ∧ w'.cell? ⟨gb408, 1, none⟩ = some (.slice A0_1 l0_1.length c0_1)) (ds := []) (tf 0 7) (by kernel_rfl) rfl rfl ⟨(blk_cell BK408.out 0).trans rfl, (blk_cell BK408.out 1).trans rfl⟩ (fun hHeld => ?_)
  generalize w8.drew = w9 at BK408 HB hHeld ⊢
  refine tK 0 9 (tf 1 6) hHeld ?_
  refine tK 1 10 (tf 2 5) hHeld ?_
  refine join_ (σ := Value × Value × Value × Nat) 2 (tf 5 2) (fun s_ => [(11, s_.1), (12, .agg #[s_.2.1, s_.2.2.1]), (3, .pointer (some ⟨s_.2.2.2, 0, none⟩))]) (fun s_ w' => (w'.cell? ⟨gb408, 0, none⟩ = some (.slice A0_0 l0_0.length c0_0) ∧ w'.cell? ⟨gb408, 1, none⟩ = some (.slice A0_1 l0_1.length c0_1)) ∧ (Kd.R (Kd.int .i64) 3 w' w.heap.size (fun k_ => some k_ ≠ (s_.2.1 : Value).ownBlock ∧ some k_ ≠ (s_.2.2.1 : Value).ownBlock) s_.1 t410) ∧ (Kd.R (Kd.int .i64) 3 w' w.heap.size (fun k_ => some k_ ≠ (s_.1 : Value).ownBlock ∧ some k_ ≠ (s_.2.2.1 : Value).ownBlock) s_.2.1 t413) ∧ (Kd.R (Kd.int .i64) 3 w' w.heap.size (fun k_ => some k_ ≠ (s_.1 : Value).ownBlock ∧ some k_ ≠ (s_.2.1 : Value).ownBlock) s_.2.2.1 t416) ∧ (w'.heap[gb408]? = some (.cells #[.slice A0_0 l0_0.length c0_0, .slice A0_1 l0_1.length c0_1] 24 (0, 0))) ∧ (w'.heap[s_.2.2.2]? = some (.cells #[.slice none 0 0, .slice none 0 0] 24 (0, 0))) ∧ (w.heap.size ≤ s_.2.2.2) ∧ (w.heap.size ≤ s_.2.2.2) ∧ (gb408 ≠ s_.2.2.2) ∧ (s_.2.2.2 ≠ gb408) ∧ (Below w.heap.size w w')) ?_ ?_
  rotate_left
  ·intro hCont
   refine two_ (i := 2) (j := 4) (Ni := some 11) (Nj := some 3) (tf 3 4) (tB 7 19) rfl rfl rfl rfl (by kernel_rfl) (by decide) (by decide) (fun K hK => ?_) (fun K hK => ?_)
   ·skip
    refine goes_ Try.func38 (by kernel_rfl) rfl #[.agg #[.slice A0_0 l0_0.length c0_0, .slice A0_1 l0_1.length c0_1], .int .i64 0] (by rfl) rfl rfl (by (try simp only [List.map_toArray, List.map_cons, List.map_nil]); first | done | rfl | (simp only [List.length_drop, List.length_take]; rfl)) ?_
    with_reducible refine (impl_namesFrom.calls k _ _ l0_0 _ _ l0_1 0 t410 _ ?side1 ?side2 ?side3 ?side4 A4.out).mono ?_
    (case side1 => exact cB HR0_0 HB)
    (case side2 => exact HC0_0.out)
    (case side3 => exact cB HR0_1 HB)
    (case side4 => exact HC0_1.out)
    rintro e w10 ⟨v411, rfl, ho0, hb⟩
    refine ⟨_, rfl, ?_⟩
    have HO412 := rL ho0 HB
    replace BK408 := kB BK408 hb
    replace HB := bS HB hb
    (try clear hb)
    (try clear hb2)
    (try clear hk)
    (try clear hi)
    (try clear ho0)
    obtain ⟨Ao11, co11, eo11⟩ := Kd.R_slice HO412.out
    (first | subst eo11 | (injection eo11 with f1_ f2_ f3_; have f4_ := f1_.symm; have f5_ := f3_.symm; clear f1_ f2_ f3_; subst f4_; subst f5_))
    refine hK.out _ _ ⟨(blk_cell BK408.out 0).trans rfl, (blk_cell BK408.out 1).trans rfl⟩ (fun hHeld => ?_)
    clear hK K
    refine norm_ (a' := ?_) ?_ ?_
    rotate_left
    ·show Act.put _ (some 11) _ = _
     simp only [Act.put, List.setIfInBounds_toArray, List.set_cons_zero, List.set_cons_succ, i64_w, i32_w]
     rfl
    refine two_ (i := 3) (j := 4) (Ni := some 12) (Nj := some 3) (tf 4 3) (tB 7 23) rfl rfl rfl rfl (by kernel_rfl) (by decide) (by decide) (fun K hK => ?_) (fun K hK => ?_)
    ·skip
     refine goes_ Try.func35 (by kernel_rfl) rfl #[.agg #[.slice A0_0 l0_0.length c0_0, .slice A0_1 l0_1.length c0_1], .slice Ao11 t410.length co11] (by rfl) rfl rfl (by (try simp only [List.map_toArray, List.map_cons, List.map_nil]); first | done | rfl | (simp only [List.length_drop, List.length_take]; rfl)) ?_
     with_reducible refine (impl_renamed.calls k _ _ l0_0 _ _ l0_1 _ _ t410 t413 t416 _ ?side1 ?side2 ?side3 ?side4 ?side5 ?side6 A5.out).mono ?_
     (case side1 => exact cB HR0_0 HB)
     (case side2 => exact HC0_0.out)
     (case side3 => exact cB HR0_1 HB)
     (case side4 => exact HC0_1.out)
     (case side5 => exact cP (Kd.R_reads' HO412.out).2.2)
     (case side6 => exact (Kd.R_reads' HO412.out).2.1)
     rintro e w12 ⟨v414, v417, rfl, ho0, ho1, hb⟩
     refine ⟨_, rfl, ?_⟩
     have HO415 := Aside0.mk (Kd.R_lower (Kd.R_new' ho0 (Kd.R_lt (rP HO412))) (below_size (bP HB)))
     have HO418 := Aside0.mk (Kd.R_lower (Kd.R_new' ho1 (Kd.R_lt (rP HO412))) (below_size (bP HB)))
     replace HO412 := Aside0.mk (Kd.R_mono (Kd.R_told (Kd.R_told (Kd.R_old (rP HO412) hb) (Kd.R_base ho0)) (Kd.R_base ho1)) (fun _ h_ => h_.1))
     replace BK408 := kB BK408 hb
     replace HB := bS HB hb
     (try clear hb)
     (try clear hb2)
     (try clear hk)
     (try clear hi)
     (try clear ho0)
     (try clear ho1)
     refine hK.out _ _ ⟨(blk_cell BK408.out 0).trans rfl, (blk_cell BK408.out 1).trans rfl⟩ (fun hHeld => ?_)
     clear hK K
     refine norm_ (a' := ?_) ?_ ?_
     rotate_left
     ·show Act.put _ (some 12) _ = _
      simp only [Act.put, List.setIfInBounds_toArray, List.set_cons_zero, List.set_cons_succ, i64_w, i32_w]
      rfl
     refine one_ (i := 4) (N := some 3) (tf 5 2) rfl rfl (by kernel_rfl) (by decide) (fun K hK => ?_)
     refine box_step ?hg (N := 3) ?hd (cs := #[.slice none 0 0, .slice none 0 0]) (t := 24) ?hr ?_; (case hd => rfl); (case hg => rfl); (case hr => first | (go_simp; done) | (go_simp; rfl))
     intro gb419 hg w13 hbox hb
     replace HO412 := rB HO412 hb
     replace HO415 := rB HO415 hb
     replace HO418 := rB HO418 hb
     have BK419 := Aside0.mk (hbox)
     have GW419 := gS HB hg
     have GE419 := gS HB hg
     replace HB := bS HB hb
     have NB408_419 := nL BK408 hg
     have NB419_408 := nG BK408 hg
     replace BK408 := kB BK408 hb
     clear hb hbox hg
     refine hK.out _ _ ⟨(blk_cell BK408.out 0).trans rfl, (blk_cell BK408.out 1).trans rfl⟩ (fun hHeld => ?_)
     clear hK K
     refine norm_ (a' := ?_) ?_ ?_
     rotate_left
     ·show Act.put _ (some 3) _ = _
      simp only [Act.put, List.setIfInBounds_toArray, List.set_cons_zero, List.set_cons_succ, i64_w, i32_w]
      rfl
     exact norm_ (by simp only [putAll, Act.put, List.setIfInBounds_toArray, List.set_cons_zero, List.set_cons_succ]) (hCont (.slice Ao11 t410.length co11, v414, v417, gb419) _ ⟨hHeld, (rT (Kd.R_mono HO412.out (fun _ hk => ⟨hk.1.2, hk.2⟩))), (rT (Kd.R_mono HO415.out (fun _ hk => ⟨hk.2, hk.1⟩))), (rT (Kd.R_mono HO418.out (fun _ hk => ⟨hk.2, hk.1⟩))), (kP BK408), (kP BK419), GW419.out, GE419.out, NB408_419.out, NB419_408.out, (bP HB)⟩)
    skip
    refine box_step ?hg (N := 3) ?hd (cs := #[.slice none 0 0, .slice none 0 0]) (t := 24) ?hr ?_; (case hd => rfl); (case hg => rfl); (case hr => first | (go_simp; done) | (go_simp; rfl))
    intro gb419 hg w11 hbox hb
    replace HO412 := rB HO412 hb
    have BK419 := Aside0.mk (hbox)
    have GW419 := gS HB hg
    have GE419 := gS HB hg
    replace HB := bS HB hb
    have NB408_419 := nL BK408 hg
    have NB419_408 := nG BK408 hg
    replace BK408 := kB BK408 hb
    clear hb hbox hg
    obtain ⟨Ao12, co12, eo12⟩ := Kd.R_slice HO412.out
    (first | subst eo12 | (injection eo12 with f1_ f2_ f3_; have f4_ := f1_.symm; have f5_ := f3_.symm; clear f1_ f2_ f3_; subst f4_; subst f5_))
    refine hK.out _ _ ⟨(blk_cell BK408.out 0).trans rfl, (blk_cell BK408.out 1).trans rfl⟩ (fun hHeld => ?_)
    clear hK K
    refine norm_ (a' := ?_) ?_ ?_
    rotate_left
    ·show Act.put _ (some 3) _ = _
     simp only [Act.put, List.setIfInBounds_toArray, List.set_cons_zero, List.set_cons_succ, i64_w, i32_w]
     rfl
    refine one_ (i := 3) (N := some 12) (tf 5 2) rfl rfl (by kernel_rfl) (by decide) (fun K hK => ?_)
    refine goes_ Try.func35 (by kernel_rfl) rfl #[.agg #[.slice A0_0 l0_0.length c0_0, .slice A0_1 l0_1.length c0_1], .slice Ao12 t410.length co12] (by rfl) rfl rfl (by (try simp only [List.map_toArray, List.map_cons, List.map_nil]); first | done | rfl | (simp only [List.length_drop, List.length_take]; rfl)) ?_
    with_reducible refine (impl_renamed.calls k _ _ l0_0 _ _ l0_1 _ _ t410 t413 t416 _ ?side1 ?side2 ?side3 ?side4 ?side5 ?side6 A5.out).mono ?_
    (case side1 => exact cB HR0_0 HB)
    (case side2 => exact HC0_0.out)
    (case side3 => exact cB HR0_1 HB)
    (case side4 => exact HC0_1.out)
    (case side5 => exact cP (Kd.R_reads' HO412.out).2.2)
    (case side6 => exact (Kd.R_reads' HO412.out).2.1)
    rintro e w13 ⟨v414, v417, rfl, ho0, ho1, hb⟩
    refine ⟨_, rfl, ?_⟩
    have HO415 := Aside0.mk (Kd.R_lower (Kd.R_new' ho0 (Kd.R_lt (rP HO412))) (below_size (bP HB)))
    have HO418 := Aside0.mk (Kd.R_lower (Kd.R_new' ho1 (Kd.R_lt (rP HO412))) (below_size (bP HB)))
    replace HO412 := Aside0.mk (Kd.R_mono (Kd.R_told (Kd.R_told (Kd.R_old (rP HO412) hb) (Kd.R_base ho0)) (Kd.R_base ho1)) (fun _ h_ => h_.1))
    replace BK408 := kB BK408 hb
    replace BK419 := kB BK419 hb
    replace HB := bS HB hb
    (try clear hb)
    (try clear hb2)
    (try clear hk)
    (try clear hi)
    (try clear ho0)
    (try clear ho1)
    refine hK.out _ _ ⟨(blk_cell BK408.out 0).trans rfl, (blk_cell BK408.out 1).trans rfl⟩ (fun hHeld => ?_)
    clear hK K
    refine norm_ (a' := ?_) ?_ ?_
    rotate_left
    ·show Act.put _ (some 12) _ = _
     simp only [Act.put, List.setIfInBounds_toArray, List.set_cons_zero, List.set_cons_succ, i64_w, i32_w]
     rfl
    exact norm_ (by simp only [putAll, Act.put, List.setIfInBounds_toArray, List.set_cons_zero, List.set_cons_succ]) (hCont (.slice Ao12 t410.length co12, v414, v417, gb419) _ ⟨hHeld, (rT (Kd.R_mono HO412.out (fun _ hk => ⟨hk.1.2, hk.2⟩))), (rT (Kd.R_mono HO415.out (fun _ hk => ⟨hk.2, hk.1⟩))), (rT (Kd.R_mono HO418.out (fun _ hk => ⟨hk.2, hk.1⟩))), (kP BK408), (kP BK419), GW419.out, GE419.out, NB408_419.out, NB419_408.out, (bP HB)⟩)
   skip
   refine box_step ?hg (N := 3) ?hd (cs := #[.slice none 0 0, .slice none 0 0]) (t := 24) ?hr ?_; (case hd => rfl); (case hg => rfl); (case hr => first | (go_simp; done) | (go_simp; rfl))
   intro gb419 hg w10 hbox hb
   have BK419 := Aside0.mk (hbox)
   have GW419 := gS HB hg
   have GE419 := gS HB hg
   replace HB := bS HB hb
   have NB408_419 := nL BK408 hg
   have NB419_408 := nG BK408 hg
   replace BK408 := kB BK408 hb
   clear hb hbox hg
   refine hK.out _ _ ⟨(blk_cell BK408.out 0).trans rfl, (blk_cell BK408.out 1).trans rfl⟩ (fun hHeld => ?_)
   clear hK K
   refine norm_ (a' := ?_) ?_ ?_
   rotate_left
   ·show Act.put _ (some 3) _ = _
    simp only [Act.put, List.setIfInBounds_toArray, List.set_cons_zero, List.set_cons_succ, i64_w, i32_w]
    rfl
   refine one_ (i := 2) (N := some 11) (tB 7 23) rfl rfl (by kernel_rfl) (by decide) (fun K hK => ?_)
   refine goes_ Try.func38 (by kernel_rfl) rfl #[.agg #[.slice A0_0 l0_0.length c0_0, .slice A0_1 l0_1.length c0_1], .int .i64 0] (by rfl) rfl rfl (by (try simp only [List.map_toArray, List.map_cons, List.map_nil]); first | done | rfl | (simp only [List.length_drop, List.length_take]; rfl)) ?_
   with_reducible refine (impl_namesFrom.calls k _ _ l0_0 _ _ l0_1 0 t410 _ ?side1 ?side2 ?side3 ?side4 A4.out).mono ?_
   (case side1 => exact cB HR0_0 HB)
   (case side2 => exact HC0_0.out)
   (case side3 => exact cB HR0_1 HB)
   (case side4 => exact HC0_1.out)
   rintro e w11 ⟨v411, rfl, ho0, hb⟩
   refine ⟨_, rfl, ?_⟩
   have HO412 := rL ho0 HB
   replace BK408 := kB BK408 hb
   replace BK419 := kB BK419 hb
   replace HB := bS HB hb
   (try clear hb)
   (try clear hb2)
   (try clear hk)
   (try clear hi)
   (try clear ho0)
   obtain ⟨Ao12, co12, eo12⟩ := Kd.R_slice HO412.out
   (first | subst eo12 | (injection eo12 with f1_ f2_ f3_; have f4_ := f1_.symm; have f5_ := f3_.symm; clear f1_ f2_ f3_; subst f4_; subst f5_))
   refine hK.out _ _ ⟨(blk_cell BK408.out 0).trans rfl, (blk_cell BK408.out 1).trans rfl⟩ (fun hHeld => ?_)
   clear hK K
   refine norm_ (a' := ?_) ?_ ?_
   rotate_left
   ·show Act.put _ (some 11) _ = _
    simp only [Act.put, List.setIfInBounds_toArray, List.set_cons_zero, List.set_cons_succ, i64_w, i32_w]
    rfl
   refine one_ (i := 3) (N := some 12) (tf 5 2) rfl rfl (by kernel_rfl) (by decide) (fun K hK => ?_)
   refine goes_ Try.func35 (by kernel_rfl) rfl #[.agg #[.slice A0_0 l0_0.length c0_0, .slice A0_1 l0_1.length c0_1], .slice Ao12 t410.length co12] (by rfl) rfl rfl (by (try simp only [List.map_toArray, List.map_cons, List.map_nil]); first | done | rfl | (simp only [List.length_drop, List.length_take]; rfl)) ?_
   with_reducible refine (impl_renamed.calls k _ _ l0_0 _ _ l0_1 _ _ t410 t413 t416 _ ?side1 ?side2 ?side3 ?side4 ?side5 ?side6 A5.out).mono ?_
   (case side1 => exact cB HR0_0 HB)
   (case side2 => exact HC0_0.out)
   (case side3 => exact cB HR0_1 HB)
   (case side4 => exact HC0_1.out)
   (case side5 => exact cP (Kd.R_reads' HO412.out).2.2)
   (case side6 => exact (Kd.R_reads' HO412.out).2.1)
   rintro e w13 ⟨v414, v417, rfl, ho0, ho1, hb⟩
   refine ⟨_, rfl, ?_⟩
   have HO415 := Aside0.mk (Kd.R_lower (Kd.R_new' ho0 (Kd.R_lt (rP HO412))) (below_size (bP HB)))
   have HO418 := Aside0.mk (Kd.R_lower (Kd.R_new' ho1 (Kd.R_lt (rP HO412))) (below_size (bP HB)))
   replace HO412 := Aside0.mk (Kd.R_mono (Kd.R_told (Kd.R_told (Kd.R_old (rP HO412) hb) (Kd.R_base ho0)) (Kd.R_base ho1)) (fun _ h_ => h_.1))
   replace BK408 := kB BK408 hb
   replace BK419 := kB BK419 hb
   replace HB := bS HB hb
   (try clear hb)
   (try clear hb2)
   (try clear hk)
   (try clear hi)
   (try clear ho0)
   (try clear ho1)
   refine hK.out _ _ ⟨(blk_cell BK408.out 0).trans rfl, (blk_cell BK408.out 1).trans rfl⟩ (fun hHeld => ?_)
   clear hK K
   refine norm_ (a' := ?_) ?_ ?_
   rotate_left
   ·show Act.put _ (some 12) _ = _
    simp only [Act.put, List.setIfInBounds_toArray, List.set_cons_zero, List.set_cons_succ, i64_w, i32_w]
    rfl
   exact norm_ (by simp only [putAll, Act.put, List.setIfInBounds_toArray, List.set_cons_zero, List.set_cons_succ]) (hCont (.slice Ao12 t410.length co12, v414, v417, gb419) _ ⟨hHeld, (rT (Kd.R_mono HO412.out (fun _ hk => ⟨hk.1.2, hk.2⟩))), (rT (Kd.R_mono HO415.out (fun _ hk => ⟨hk.2, hk.1⟩))), (rT (Kd.R_mono HO418.out (fun _ hk => ⟨hk.2, hk.1⟩))), (kP BK408), (kP BK419), GW419.out, GE419.out, NB408_419.out, NB419_408.out, (bP HB)⟩)
  rintro ⟨v411, v414, v417, gb419⟩ w14 ⟨hS_, h0_, h1_, h2_, h3_, h4_, h5_, h6_, h7_, h8_, h9_⟩
  have n0_ : Aside0 (Kd.R (Kd.int .i64) 3 w14 w.heap.size (fun k_ => some k_ ≠ (v414 : Value).ownBlock ∧ some k_ ≠ (v417 : Value).ownBlock) v411 t410) := ⟨h0_⟩
  have n1_ : Aside0 (Kd.R (Kd.int .i64) 3 w14 w.heap.size (fun k_ => some k_ ≠ (v411 : Value).ownBlock ∧ some k_ ≠ (v417 : Value).ownBlock) v414 t413) := ⟨h1_⟩
  have n2_ : Aside0 (Kd.R (Kd.int .i64) 3 w14 w.heap.size (fun k_ => some k_ ≠ (v411 : Value).ownBlock ∧ some k_ ≠ (v414 : Value).ownBlock) v417 t416) := ⟨h2_⟩
  have n3_ : Aside0 (w14.heap[gb408]? = some (.cells #[.slice A0_0 l0_0.length c0_0, .slice A0_1 l0_1.length c0_1] 24 (0, 0))) := ⟨h3_⟩
  have n4_ : Aside0 (w14.heap[gb419]? = some (.cells #[.slice none 0 0, .slice none 0 0] 24 (0, 0))) := ⟨h4_⟩
  have n5_ : Aside0 (w.heap.size ≤ gb419) := ⟨h5_⟩
  have n6_ : Aside0 (w.heap.size ≤ gb419) := ⟨h6_⟩
  have n7_ : Aside0 (gb408 ≠ gb419) := ⟨h7_⟩
  have n8_ : Aside0 (gb419 ≠ gb408) := ⟨h8_⟩
  have n9_ : Aside0 (Below w.heap.size w w14) := ⟨h9_⟩
  clear BK408 HB h0_ h1_ h2_ h3_ h4_ h5_ h6_ h7_ h8_ h9_
  have HO412 := n0_
  have HO415 := n1_
  have HO418 := n2_
  have BK408 := n3_
  have BK419 := n4_
  have GW419 := n5_
  have GE419 := n6_
  have NB408_419 := n7_
  have NB419_408 := n8_
  have HB := n9_
  clear n0_ n1_ n2_ n3_ n4_ n5_ n6_ n7_ n8_ n9_
  have hHeld : w14.cell? ⟨gb408, 0, none⟩ = some (.slice A0_0 l0_0.length c0_0) ∧ w14.cell? ⟨gb408, 1, none⟩ = some (.slice A0_1 l0_1.length c0_1) := hS_
  obtain ⟨Ao15, co15, eo15⟩ := Kd.R_slice HO415.out
  (first | subst eo15 | (injection eo15 with f1_ f2_ f3_; have f4_ := f1_.symm; have f5_ := f3_.symm; clear f1_ f2_ f3_; subst f4_; subst f5_))
  obtain ⟨Ao17, co17, eo17⟩ := Kd.R_slice HO418.out
  (first | subst eo17 | (injection eo17 with f1_ f2_ f3_; have f4_ := f1_.symm; have f5_ := f3_.symm; clear f1_ f2_ f3_; subst f4_; subst f5_))
  refine norm_ (a' := ?_) ?_ ?_
  rotate_left
  ·simp only [putAll, Act.put, List.setIfInBounds_toArray, List.set_cons_zero, List.set_cons_succ]
   rfl
  refine one_ (i := 5) (N := none) (tf 6 1) rfl rfl (by kernel_rfl) (by decide) (fun K hK => ?_)
  have hs16 : w14.cell? ⟨gb419, 0, none⟩ = some (.slice none 0 0) := (blk_cell BK419.out 0).trans rfl
  have hfs16 := blk_frozen BK419.out 0
  have hns16_0 := NB408_419.out
  have hms16_0 := NB419_408.out
  have hs18 : w14.cell? ⟨gb419, 1, none⟩ = some (.slice none 0 0) := (blk_cell BK419.out 1).trans rfl
  have hfs18 := blk_frozen BK419.out 1
  have hns18_0 := NB408_419.out
  have hms18_0 := NB419_408.out
  refine skip_ (w1 := ?_) (by rfl) rfl ?_ ?_
  rotate_left
  ·go_simp
   rfl
  refine hK.out _ _ ⟨((cell_far (p := ⟨gb419, _, none⟩) NB408_419.out _).trans (((cell_far (p := ⟨gb419, _, none⟩) NB408_419.out _).trans (hHeld.1)))), ((cell_far (p := ⟨gb419, _, none⟩) NB408_419.out _).trans (((cell_far (p := ⟨gb419, _, none⟩) NB408_419.out _).trans (hHeld.2))))⟩ (fun hHeld => ?_)
  clear hK K
  refine pK 6 4 (tf 7 0) ?_
  refine done_ (by kernel_rfl) ?_
  have hnb19 := NB408_419.out
  have hnc19 := NB419_408.out
  have hcz20_0 := zc0 BK408
  have hcz20_1 := zc1 BK408
  have hfz20_0 := blk_frozen BK408.out 0
  have hfz20_1 := blk_frozen BK408.out 1
  try go_wp2
  go_loopg [4, 16] k (fun kq v4 v16 w' => ∃ (x4_1 : Int) (x16_1 : Int), v4 = .int .i64 x4_1 ∧ v16 = .int .i64 x16_1 ∧ Aside0 (impl_MapTurns.l0 kq x4_1 (l0_0.length : Int) x16_1 l0_0 l0_1 t413 t416 = some r) ∧ Aside0 (kq ≤ k) ∧ Aside0 (Kd.R (Kd.int .i64) 3 w' w.heap.size (fun k_ => some k_ ≠ ((.slice Ao17 t416.length co17) : Value).ownBlock) (.slice Ao15 t413.length co15) t413) ∧ Aside0 (Kd.R (Kd.int .i64) 3 w' w.heap.size (fun k_ => some k_ ≠ ((.slice Ao15 t413.length co15) : Value).ownBlock) (.slice Ao17 t416.length co17) t416) ∧ Aside0 (w'.heap[gb408]? = some (.cells #[(.slice A0_0 l0_0.length c0_0), (.slice A0_1 l0_1.length c0_1)] 24 (0, 0))) ∧ Aside0 (w'.heap[gb419]? = some (.cells #[(.slice Ao15 t413.length co15), (.slice Ao17 t416.length co17)] 24 (0, 0))) ∧ Aside0 (Below w.heap.size w w'))
  case atStart => exact ⟨(0), (0), eS, eS, H', ⟨Nat.le_refl _⟩, ⟨rT (Kd.R_mono (rF gb419 1 (rF gb419 0 (rY HO415 BK419) (.slice Ao15 t413.length co15)) (.slice Ao17 t416.length co17)) (fun _ hk => hk.1.2))⟩, ⟨rT (Kd.R_mono (rF gb419 1 (rF gb419 0 (rY HO418 BK419) (.slice Ao15 t413.length co15)) (.slice Ao17 t416.length co17)) (fun _ hk => hk.1.2))⟩, ⟨kF BK408⟩, ⟨by (with_reducible repeat (first | refine blk_drewN ?_ _ | refine blk_drew ?_ | refine blk_alloc ?_ _)); refine blk_put (cs := #[.slice Ao15 t413.length co15, .slice none 0 0]) ?_ 1 _ rfl; (with_reducible repeat (first | refine blk_drewN ?_ _ | refine blk_drew ?_ | refine blk_alloc ?_ _)); refine blk_put (cs := #[.slice none 0 0, .slice none 0 0]) ?_ 0 _ rfl; (with_reducible repeat (first | refine blk_drewN ?_ _ | refine blk_drew ?_ | refine blk_alloc ?_ _)); exact BK419.out⟩, ⟨bP HB⟩⟩
  case round =>
   clear H'
   try clear c1
   try clear p2
   try clear c3
   try clear c6
   try clear c18
   try clear c19
   try clear hcz20_0
   try clear hcz20_1
   try clear hcz7_0
   try clear hcz7_1
   try clear hfz20_0
   try clear hfz20_1
   try clear hfz7_0
   try clear hfz7_1
   obtain ⟨x4_1, x16_1, rfl, rfl, HA, HK1, HO_420000, HO_420001, BK408, BK419, HB⟩ := hrel
   cases gk with
   | zero => exact absurd HA.out (by simp [impl_MapTurns.l0])
   | succ k1 =>
    have H := HA.out
    clear HA
    simp only [impl_MapTurns.l0] at H
    by_cases c21 : x16_1 < (l0_0.length : Int)
    case neg =>
     rw [if_neg c21] at H
     have c21b0 : decide (x16_1 < (l0_0.length : Int)) = false := decide_eq_false c21
     clear c21
     obtain rfl := Option.some.inj H
     go_wp2
     go_ret
     exact ⟨eR, bP HB⟩
    rw [if_pos c21] at H
    have c21b0 : decide (x16_1 < (l0_0.length : Int)) = true := decide_eq_true c21
    clear c21
    obtain ⟨t420, A220, H⟩ := Option.bind_eq_some_iff.mp H
    have A22 := Aside0.mk A220
    clear A220
    obtain ⟨⟨t423, t426⟩, A230, H⟩ := Option.bind_eq_some_iff.mp H
    dsimp only at H
    have A23 := Aside0.mk A230
    clear A230
    obtain ⟨t429, A240, H⟩ := Option.bind_eq_some_iff.mp H
    have A24 := Aside0.mk A240
    clear A240
    by_cases c25 : t429 = 0
    case neg =>
     rw [if_neg c25] at H
     have c25b0 : (t429 == 0) = false := beq_eq_false_iff_ne.mpr c25
     have c25b1 : (t429 != 0) = true := bne_iff_ne.mpr c25
     have H' := Aside0.mk H
     clear H
     try go_wp2
     replace HO_420000 := Aside0.mk (Kd.R_drew HO_420000.out)
     replace HO_420001 := Aside0.mk (Kd.R_drew HO_420001.out)
     replace BK408 := Aside0.mk (blk_drew BK408.out)
     replace BK419 := Aside0.mk (blk_drew BK419.out)
     replace HB := Aside0.mk (below_drew1 HB.out)
     refine start_ (n := 8) (S := fun w' => w'.cell? ⟨gb408, 0, none⟩ = some (.slice A0_0 l0_0.length c0_0) ∧ w'.cell? ⟨gb408, 1, none⟩ = some (.slice A0_1 l0_1.length c0_1) ∧ w'.cell? ⟨gb419, 0, none⟩ = some (.slice Ao15 t413.length co15) ∧ w'.cell? ⟨gb419, 1, none⟩ = some (.slice Ao17 t416.length co17)) (ds := []) (tf 0 8) (by kernel_rfl) rfl rfl ⟨(blk_cell BK408.out 0).trans rfl, (blk_cell BK408.out 1).trans rfl, (blk_cell BK419.out 0).trans rfl, (blk_cell BK419.out 1).trans rfl⟩ (fun hHeld => ?_); refine with_tabW impl_MapTurns.tab7 impl_MapTurns.bits7 (fun HT_ HW_ => ?_)
     generalize wr.drew = w33 at HO_420000 HO_420001 BK408 BK419 HB hHeld ⊢
     refine pV 2 21 (tB 8 4) HT_ ?_
     refine tV 0 19 (tB 8 5) HT_ HW_ hHeld ?_
     refine tV 1 20 (tf 3 5) HT_ HW_ hHeld ?_
     refine tV 5 24 (tB 8 39) HT_ HW_ hHeld ?_
     refine eN 3 (some 22) (tB 8 47) HT_ (fun K hK => ?_)
     refine goes_ Try.func38 (by kernel_rfl) rfl #[.agg #[.slice A0_0 l0_0.length c0_0, .slice A0_1 l0_1.length c0_1], .int .i64 x16_1] (by rfl) rfl rfl (by (try simp only [List.map_toArray, List.map_cons, List.map_nil]); first | done | rfl | (simp only [List.length_drop, List.length_take]; rfl)) ?_
     with_reducible refine (impl_namesFrom.calls k1 _ _ l0_0 _ _ l0_1 x16_1 t420 _ ?side1 ?side2 ?side3 ?side4 A22.out).mono ?_
     (case side1 => exact cB HR0_0 HB)
     (case side2 => exact HC0_0.out)
     (case side3 => exact cB HR0_1 HB)
     (case side4 => exact HC0_1.out)
     rintro e w34 ⟨v421, rfl, ho0, hb⟩
     refine ⟨_, rfl, ?_⟩
     have HO422 := Aside0.mk (Kd.R_lower (Kd.R_new' (Kd.R_new' ho0 (Kd.R_lt (rP HO_420000))) (Kd.R_lt (rP HO_420001))) (below_size (bP HB)))
     replace HO_420000 := Aside0.mk (Kd.R_elder' (rP HO_420000) (Kd.R_base ho0) hb)
     replace HO_420001 := Aside0.mk (Kd.R_elder' (rP HO_420001) (Kd.R_base ho0) hb)
     replace BK408 := kB BK408 hb
     replace BK419 := kB BK419 hb
     replace HB := bS HB hb
     (try clear hb)
     (try clear hb2)
     (try clear hk)
     (try clear hi)
     (try clear ho0)
     obtain ⟨Ao35, co35, eo35⟩ := Kd.R_slice HO422.out
     (first | subst eo35 | (injection eo35 with f1_ f2_ f3_; have f4_ := f1_.symm; have f5_ := f3_.symm; clear f1_ f2_ f3_; subst f4_; subst f5_))
     refine hK.out _ _ ⟨(blk_cell BK408.out 0).trans rfl, (blk_cell BK408.out 1).trans rfl, (blk_cell BK419.out 0).trans rfl, (blk_cell BK419.out 1).trans rfl⟩ (fun hHeld => ?_)
     clear hK K
     refine norm_ (a' := ?_) ?_ ?_
     rotate_left
     ·show Act.put _ (some 22) _ = _
      simp only [Act.put, List.setIfInBounds_toArray, List.set_cons_zero, List.set_cons_succ, i64_w, i32_w]
      rfl
     refine eN 4 (some 23) (tf 6 2) HT_ (fun K hK => ?_)
     refine goes_ Try.func35 (by kernel_rfl) rfl #[.agg #[.slice A0_0 l0_0.length c0_0, .slice A0_1 l0_1.length c0_1], .slice Ao35 t420.length co35] (by rfl) rfl rfl (by (try simp only [List.map_toArray, List.map_cons, List.map_nil]); first | done | rfl | (simp only [List.length_drop, List.length_take]; rfl)) ?_
     with_reducible refine (impl_renamed.calls k1 _ _ l0_0 _ _ l0_1 _ _ t420 t423 t426 _ ?side1 ?side2 ?side3 ?side4 ?side5 ?side6 A23.out).mono ?_
     (case side1 => exact cB HR0_0 HB)
     (case side2 => exact HC0_0.out)
     (case side3 => exact cB HR0_1 HB)
     (case side4 => exact HC0_1.out)
     (case side5 => exact cP (Kd.R_reads' HO422.out).2.2)
     (case side6 => exact (Kd.R_reads' HO422.out).2.1)
     rintro e w36 ⟨v424, v427, rfl, ho0, ho1, hb⟩
     refine ⟨_, rfl, ?_⟩
     have HO425 := Aside0.mk (Kd.R_lower (Kd.R_new' (Kd.R_new' (Kd.R_new' ho0 (Kd.R_lt (rP HO_420000))) (Kd.R_lt (rP HO_420001))) (Kd.R_lt (rP HO422))) (below_size (bP HB)))
     have HO428 := Aside0.mk (Kd.R_lower (Kd.R_new' (Kd.R_new' (Kd.R_new' ho1 (Kd.R_lt (rP HO_420000))) (Kd.R_lt (rP HO_420001))) (Kd.R_lt (rP HO422))) (below_size (bP HB)))
     replace HO_420000 := Aside0.mk (Kd.R_mono (Kd.R_told (Kd.R_told (Kd.R_old (rP HO_420000) hb) (Kd.R_base ho0)) (Kd.R_base ho1)) (fun _ h_ => h_.1))
     replace HO_420001 := Aside0.mk (Kd.R_mono (Kd.R_told (Kd.R_told (Kd.R_old (rP HO_420001) hb) (Kd.R_base ho0)) (Kd.R_base ho1)) (fun _ h_ => h_.1))
     replace HO422 := Aside0.mk (Kd.R_mono (Kd.R_told (Kd.R_told (Kd.R_old (rP HO422) hb) (Kd.R_base ho0)) (Kd.R_base ho1)) (fun _ h_ => h_.1))
     replace BK408 := kB BK408 hb
     replace BK419 := kB BK419 hb
     replace HB := bS HB hb
     (try clear hb)
     (try clear hb2)
     (try clear hk)
     (try clear hi)
     (try clear ho0)
     (try clear ho1)
     obtain ⟨Ao37, co37, eo37⟩ := Kd.R_slice HO425.out
     (first | subst eo37 | (injection eo37 with f1_ f2_ f3_; have f4_ := f1_.symm; have f5_ := f3_.symm; clear f1_ f2_ f3_; subst f4_; subst f5_))
     obtain ⟨Ao38, co38, eo38⟩ := Kd.R_slice HO428.out
     (first | subst eo38 | (injection eo38 with f1_ f2_ f3_; have f4_ := f1_.symm; have f5_ := f3_.symm; clear f1_ f2_ f3_; subst f4_; subst f5_))
     refine hK.out _ _ ⟨(blk_cell BK408.out 0).trans rfl, (blk_cell BK408.out 1).trans rfl, (blk_cell BK419.out 0).trans rfl, (blk_cell BK419.out 1).trans rfl⟩ (fun hHeld => ?_)
     clear hK K
     refine norm_ (a' := ?_) ?_ ?_
     rotate_left
     ·show Act.put _ (some 23) _ = _
      simp only [Act.put, List.setIfInBounds_toArray, List.set_cons_zero, List.set_cons_succ, i64_w, i32_w]
      rfl
     refine eN 6 (some 25) (tf 7 1) HT_ (fun K hK => ?_)
     refine goes_ Try.func37 (by kernel_rfl) rfl #[.agg #[.slice Ao37 t423.length co37, .slice Ao38 t426.length co38], .agg #[.slice Ao15 t413.length co15, .slice Ao17 t416.length co17]] (by rfl) rfl rfl (by (try simp only [List.map_toArray, List.map_cons, List.map_nil]); first | done | rfl | (simp only [List.length_drop, List.length_take]; rfl)) ?_
     with_reducible refine (impl_compareMaps.calls k1 _ _ t423 _ _ t426 _ _ t413 _ _ t416 t429 _ ?side1 ?side2 ?side3 ?side4 ?side5 ?side6 ?side7 ?side8 A24.out).mono ?_
     (case side1 => exact cP (Kd.R_reads' HO425.out).2.2)
     (case side2 => exact (Kd.R_reads' HO425.out).2.1)
     (case side3 => exact cP (Kd.R_reads' HO428.out).2.2)
     (case side4 => exact (Kd.R_reads' HO428.out).2.1)
     (case side5 => exact cP (Kd.R_reads' HO_420000.out).2.2)
     (case side6 => exact (Kd.R_reads' HO_420000.out).2.1)
     (case side7 => exact cP (Kd.R_reads' HO_420001.out).2.2)
     (case side8 => exact (Kd.R_reads' HO_420001.out).2.1)
     rintro e w39 ⟨rfl, hb⟩
     refine ⟨_, rfl, ?_⟩
     replace HO_420000 := rB HO_420000 hb
     replace HO_420001 := rB HO_420001 hb
     replace HO422 := rB HO422 hb
     replace HO425 := rB HO425 hb
     replace HO428 := rB HO428 hb
     replace BK408 := kB BK408 hb
     replace BK419 := kB BK419 hb
     replace HB := bS HB hb
     (try clear hb)
     (try clear hb2)
     (try clear hk)
     (try clear hi)
     refine hK.out _ _ ⟨(blk_cell BK408.out 0).trans rfl, (blk_cell BK408.out 1).trans rfl, (blk_cell BK419.out 0).trans rfl, (blk_cell BK419.out 1).trans rfl⟩ (fun hHeld => ?_)
     clear hK K
     refine norm_ (a' := ?_) ?_ ?_
     rotate_left
     ·show Act.put _ (some 25) _ = _
      simp only [Act.put, List.setIfInBounds_toArray, List.set_cons_zero, List.set_cons_succ, i64_w, i32_w]
      rfl
     refine pV 7 26 (tf 8 0) HT_ ?_
     refine done_ (done_of HT_.out (by kernel_rfl)) ?_
     try go_wp2
     go_roundg k1
     case measure => have := HK1.out; omega
     case rel => exact ⟨(x4_1), (wrap64 (x16_1 + 1)), eS, eS, H', ⟨by have := HK1.out; omega⟩, ⟨rT (Kd.R_mono HO_420000.out (fun _ hk => hk.1.1.1))⟩, ⟨rT (Kd.R_mono HO_420001.out (fun _ hk => hk.1.1.1))⟩, ⟨kP BK408⟩, ⟨kP BK419⟩, ⟨bP HB⟩⟩
    rw [if_pos c25] at H
    have c25b0 : (t429 == 0) = true := beq_iff_eq.mpr c25
    have c25b1 : (t429 != 0) = false := bne_eq_false_iff_eq.mpr c25
    clear c25
    have H' := Aside0.mk H
    clear H
    try go_wp2
    replace HO_420000 := Aside0.mk (Kd.R_drew HO_420000.out)
    replace HO_420001 := Aside0.mk (Kd.R_drew HO_420001.out)
    replace BK408 := Aside0.mk (blk_drew BK408.out)
    replace BK419 := Aside0.mk (blk_drew BK419.out)
    replace HB := Aside0.mk (below_drew1 HB.out)
    refine start_ (n := 8) (S := fun w' => w'.cell? ⟨gb408, 0, none⟩ = some (.slice A0_0 l0_0.length c0_0) ∧ w'.cell? ⟨gb408, 1, none⟩ = some (.slice A0_1 l0_1.length c0_1) ∧ w'.cell? ⟨gb419, 0, none⟩ = some (.slice Ao15 t413.length co15) ∧ w'.cell? ⟨gb419, 1, none⟩ = some (.slice Ao17 t416.length co17)) (ds := []) (tf 0 8) (by kernel_rfl) rfl rfl ⟨(blk_cell BK408.out 0).trans rfl, (blk_cell BK408.out 1).trans rfl, (blk_cell BK419.out 0).trans rfl, (blk_cell BK419.out 1).trans rfl⟩ (fun hHeld => ?_); refine with_tabW impl_MapTurns.tab7 impl_MapTurns.bits7 (fun HT_ HW_ => ?_)
    generalize wr.drew = w26 at HO_420000 HO_420001 BK408 BK419 HB hHeld ⊢
    refine pV 2 21 (tB 8 4) HT_ ?_
    refine tV 0 19 (tB 8 5) HT_ HW_ hHeld ?_
    refine tV 1 20 (tf 3 5) HT_ HW_ hHeld ?_
    refine tV 5 24 (tB 8 39) HT_ HW_ hHeld ?_
    refine eN 3 (some 22) (tB 8 47) HT_ (fun K hK => ?_)
    refine goes_ Try.func38 (by kernel_rfl) rfl #[.agg #[.slice A0_0 l0_0.length c0_0, .slice A0_1 l0_1.length c0_1], .int .i64 x16_1] (by rfl) rfl rfl (by (try simp only [List.map_toArray, List.map_cons, List.map_nil]); first | done | rfl | (simp only [List.length_drop, List.length_take]; rfl)) ?_
    with_reducible refine (impl_namesFrom.calls k1 _ _ l0_0 _ _ l0_1 x16_1 t420 _ ?side1 ?side2 ?side3 ?side4 A22.out).mono ?_
    (case side1 => exact cB HR0_0 HB)
    (case side2 => exact HC0_0.out)
    (case side3 => exact cB HR0_1 HB)
    (case side4 => exact HC0_1.out)
    rintro e w27 ⟨v421, rfl, ho0, hb⟩
    refine ⟨_, rfl, ?_⟩
    have HO422 := Aside0.mk (Kd.R_lower (Kd.R_new' (Kd.R_new' ho0 (Kd.R_lt (rP HO_420000))) (Kd.R_lt (rP HO_420001))) (below_size (bP HB)))
    replace HO_420000 := Aside0.mk (Kd.R_elder' (rP HO_420000) (Kd.R_base ho0) hb)
    replace HO_420001 := Aside0.mk (Kd.R_elder' (rP HO_420001) (Kd.R_base ho0) hb)
    replace BK408 := kB BK408 hb
    replace BK419 := kB BK419 hb
    replace HB := bS HB hb
    (try clear hb)
    (try clear hb2)
    (try clear hk)
    (try clear hi)
    (try clear ho0)
    obtain ⟨Ao28, co28, eo28⟩ := Kd.R_slice HO422.out
    (first | subst eo28 | (injection eo28 with f1_ f2_ f3_; have f4_ := f1_.symm; have f5_ := f3_.symm; clear f1_ f2_ f3_; subst f4_; subst f5_))
    refine hK.out _ _ ⟨(blk_cell BK408.out 0).trans rfl, (blk_cell BK408.out 1).trans rfl, (blk_cell BK419.out 0).trans rfl, (blk_cell BK419.out 1).trans rfl⟩ (fun hHeld => ?_)
    clear hK K
    refine norm_ (a' := ?_) ?_ ?_
    rotate_left
    ·show Act.put _ (some 22) _ = _
     simp only [Act.put, List.setIfInBounds_toArray, List.set_cons_zero, List.set_cons_succ, i64_w, i32_w]
     rfl
    refine eN 4 (some 23) (tf 6 2) HT_ (fun K hK => ?_)
    refine goes_ Try.func35 (by kernel_rfl) rfl #[.agg #[.slice A0_0 l0_0.length c0_0, .slice A0_1 l0_1.length c0_1], .slice Ao28 t420.length co28] (by rfl) rfl rfl (by (try simp only [List.map_toArray, List.map_cons, List.map_nil]); first | done | rfl | (simp only [List.length_drop, List.length_take]; rfl)) ?_
    with_reducible refine (impl_renamed.calls k1 _ _ l0_0 _ _ l0_1 _ _ t420 t423 t426 _ ?side1 ?side2 ?side3 ?side4 ?side5 ?side6 A23.out).mono ?_
    (case side1 => exact cB HR0_0 HB)
    (case side2 => exact HC0_0.out)
    (case side3 => exact cB HR0_1 HB)
    (case side4 => exact HC0_1.out)
    (case side5 => exact cP (Kd.R_reads' HO422.out).2.2)
    (case side6 => exact (Kd.R_reads' HO422.out).2.1)
    rintro e w29 ⟨v424, v427, rfl, ho0, ho1, hb⟩
    refine ⟨_, rfl, ?_⟩
    have HO425 := Aside0.mk (Kd.R_lower (Kd.R_new' (Kd.R_new' (Kd.R_new' ho0 (Kd.R_lt (rP HO_420000))) (Kd.R_lt (rP HO_420001))) (Kd.R_lt (rP HO422))) (below_size (bP HB)))
    have HO428 := Aside0.mk (Kd.R_lower (Kd.R_new' (Kd.R_new' (Kd.R_new' ho1 (Kd.R_lt (rP HO_420000))) (Kd.R_lt (rP HO_420001))) (Kd.R_lt (rP HO422))) (below_size (bP HB)))
    replace HO_420000 := Aside0.mk (Kd.R_mono (Kd.R_told (Kd.R_told (Kd.R_old (rP HO_420000) hb) (Kd.R_base ho0)) (Kd.R_base ho1)) (fun _ h_ => h_.1))
    replace HO_420001 := Aside0.mk (Kd.R_mono (Kd.R_told (Kd.R_told (Kd.R_old (rP HO_420001) hb) (Kd.R_base ho0)) (Kd.R_base ho1)) (fun _ h_ => h_.1))
    replace HO422 := Aside0.mk (Kd.R_mono (Kd.R_told (Kd.R_told (Kd.R_old (rP HO422) hb) (Kd.R_base ho0)) (Kd.R_base ho1)) (fun _ h_ => h_.1))
    replace BK408 := kB BK408 hb
    replace BK419 := kB BK419 hb
    replace HB := bS HB hb
    (try clear hb)
    (try clear hb2)
    (try clear hk)
    (try clear hi)
    (try clear ho0)
    (try clear ho1)
    obtain ⟨Ao30, co30, eo30⟩ := Kd.R_slice HO425.out
    (first | subst eo30 | (injection eo30 with f1_ f2_ f3_; have f4_ := f1_.symm; have f5_ := f3_.symm; clear f1_ f2_ f3_; subst f4_; subst f5_))
    obtain ⟨Ao31, co31, eo31⟩ := Kd.R_slice HO428.out
    (first | subst eo31 | (injection eo31 with f1_ f2_ f3_; have f4_ := f1_.symm; have f5_ := f3_.symm; clear f1_ f2_ f3_; subst f4_; subst f5_))
    refine hK.out _ _ ⟨(blk_cell BK408.out 0).trans rfl, (blk_cell BK408.out 1).trans rfl, (blk_cell BK419.out 0).trans rfl, (blk_cell BK419.out 1).trans rfl⟩ (fun hHeld => ?_)
    clear hK K
    refine norm_ (a' := ?_) ?_ ?_
    rotate_left
    ·show Act.put _ (some 23) _ = _
     simp only [Act.put, List.setIfInBounds_toArray, List.set_cons_zero, List.set_cons_succ, i64_w, i32_w]
     rfl
    refine eN 6 (some 25) (tf 7 1) HT_ (fun K hK => ?_)
    refine goes_ Try.func37 (by kernel_rfl) rfl #[.agg #[.slice Ao30 t423.length co30, .slice Ao31 t426.length co31], .agg #[.slice Ao15 t413.length co15, .slice Ao17 t416.length co17]] (by rfl) rfl rfl (by (try simp only [List.map_toArray, List.map_cons, List.map_nil]); first | done | rfl | (simp only [List.length_drop, List.length_take]; rfl)) ?_
    with_reducible refine (impl_compareMaps.calls k1 _ _ t423 _ _ t426 _ _ t413 _ _ t416 t429 _ ?side1 ?side2 ?side3 ?side4 ?side5 ?side6 ?side7 ?side8 A24.out).mono ?_
    (case side1 => exact cP (Kd.R_reads' HO425.out).2.2)
    (case side2 => exact (Kd.R_reads' HO425.out).2.1)
    (case side3 => exact cP (Kd.R_reads' HO428.out).2.2)
    (case side4 => exact (Kd.R_reads' HO428.out).2.1)
    (case side5 => exact cP (Kd.R_reads' HO_420000.out).2.2)
    (case side6 => exact (Kd.R_reads' HO_420000.out).2.1)
    (case side7 => exact cP (Kd.R_reads' HO_420001.out).2.2)
    (case side8 => exact (Kd.R_reads' HO_420001.out).2.1)
    rintro e w32 ⟨rfl, hb⟩
    refine ⟨_, rfl, ?_⟩
    replace HO_420000 := rB HO_420000 hb
    replace HO_420001 := rB HO_420001 hb
    replace HO422 := rB HO422 hb
    replace HO425 := rB HO425 hb
    replace HO428 := rB HO428 hb
    replace BK408 := kB BK408 hb
    replace BK419 := kB BK419 hb
    replace HB := bS HB hb
    (try clear hb)
    (try clear hb2)
    (try clear hk)
    (try clear hi)
    refine hK.out _ _ ⟨(blk_cell BK408.out 0).trans rfl, (blk_cell BK408.out 1).trans rfl, (blk_cell BK419.out 0).trans rfl, (blk_cell BK419.out 1).trans rfl⟩ (fun hHeld => ?_)
    clear hK K
    refine norm_ (a' := ?_) ?_ ?_
    rotate_left
    ·show Act.put _ (some 25) _ = _
     simp only [Act.put, List.setIfInBounds_toArray, List.set_cons_zero, List.set_cons_succ, i64_w, i32_w]
     rfl
    refine pV 7 26 (tf 8 0) HT_ ?_
    refine done_ (done_of HT_.out (by kernel_rfl)) ?_
    try go_wp2
    go_roundg k1
    case measure => have := HK1.out; omega
    case rel => exact ⟨(wrap64 (x4_1 + 1)), (wrap64 (x16_1 + 1)), eS, eS, H', ⟨by have := HK1.out; omega⟩, ⟨rT (Kd.R_mono HO_420000.out (fun _ hk => hk.1.1.1))⟩, ⟨rT (Kd.R_mono HO_420001.out (fun _ hk => hk.1.1.1))⟩, ⟨kP BK408⟩, ⟨kP BK419⟩, ⟨bP HB⟩⟩
 ·replace c3 := Bool.eq_false_iff.mpr c3
  subst c3
  rw [iF] at H
  obtain rfl := Option.some.inj H
  go_enter Try.func18, Try.ntmps18
  go_wp2_with (first | ((with_reducible refine gate_dst (N := 1) rfl ?_); refine bE 1 #[.slice A0_0 l0_0.length c0_0, .slice A0_1 l0_1.length c0_1] 24 ?_; intro gb408 hg w40 hbox hb; have BK408 := Aside0.mk (hbox); have GW408 := gS HB hg; have GE408 := gS HB hg; replace HB := bS HB hb; clear hb hbox hg; have hcz41_0 := zc0 BK408; have hcz41_1 := zc1 BK408; have hfz41_0 := blk_frozen BK408.out 0; have hfz41_1 := blk_frozen BK408.out 1) | ((with_reducible refine gate_callee (f := 6) rfl ?_); refine gL (some 7) Try.func6 #[.agg #[.slice A0_0 l0_0.length c0_0, .slice A0_1 l0_1.length c0_1]] ?_; (with_reducible refine (impl_MapValid.calls k (fun k_ => k_ < w.heap.size) _ _ l0_0 (fun k_ => k_ < w.heap.size) _ _ l0_1 false _ ?side1 ?side2 A2.out).mono ?_); (case side1 => exact Kd.V_mk HC0_0.out (Kd.F_below (Kd.C_F (Kd.heap_int .i64) HR0_0.out) (bP HB))); (case side2 => exact Kd.V_mk HC0_1.out (Kd.F_below (Kd.C_F (Kd.heap_int .i64) HR0_1.out) (bP HB))); rintro e w42 ⟨rfl, hb⟩; refine ⟨_, rfl, ?_⟩; replace BK408 := kB BK408 hb; replace HB := bS HB hb; (try clear hb); (try clear hb2); (try clear hk); (try clear hi)))
  go_ret
  exact ⟨eR, bP HB⟩

end Go.Proofs.Ytmjdmahgkidocaa.F
