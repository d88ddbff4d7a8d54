/- Contracts: what these Go functions return. -/
import Derived.Test.YteffimfifgnleaaF0
import Derived.Test.YteffimfifgnleaaF28
import Derived.Test.YteffimfifgnleaaF38
namespace Go.Proofs.Yteffimfifgnleaa.F
open Go.RowKit Go.Proofs.YteffimfifgnleaaW.PrintWords Go.Proofs.YteffimfifgnleaaW.PrintLast Go.Proofs.YteffimfifgnleaaW.PrintMore
attribute [local go_sem] max2_int min2_int max_two min_two max_three min_three max_four min_four
set_option linter.unusedVariables false
set_option linter.unusedSimpArgs false

/-! ### spec_l2Form: function 82 -/
def spec_l2Form.f (k : Nat) (l0_0 : List Int) (l0_1 : List Int) (a1 : Int) : Option (List Int × List Int) := (spec_l2Names.f k l0_0 l0_1 a1).bind fun t594 => ((spec_l2Rename.f k l0_0 l0_1 t594).bind fun bt597 => (some (bt597.1, bt597.2)))
set_option maxHeartbeats 8000000 in
set_option maxRecDepth 100000 in
theorem spec_l2Form.calls (k : Nat) (A0_0 : Option Addr) (c0_0 : Nat) (l0_0 : List Int) (A0_1 : Option Addr) (c0_1 : Nat) (l0_1 : List Int) (a1 : Int) (r1 : List Int) (r2 : List Int) (w : World) (hr0_0 : Kd.C (Kd.int .i64) w A0_0 l0_0.length l0_0) (hc0_0 : l0_0.length ≤ c0_0) (hr0_1 : Kd.C (Kd.int .i64) w A0_1 l0_1.length l0_1) (hc0_1 : l0_1.length ≤ c0_1) (h : spec_l2Form.f k l0_0 l0_1 a1 = some (r1, r2)) :
 Calls Try.prog 82 #[.agg #[.slice A0_0 l0_0.length c0_0, .slice A0_1 l0_1.length c0_1], .int .i64 a1] w fun e w' => ∃ v0_ v1_ : Value, e = .returned (.agg #[v0_, v1_]) ∧ Kd.R (Kd.int .i64) 3 w' w.heap.size (fun k_ => some k_ ≠ (v1_ : Value).ownBlock) v0_ r1 ∧ Kd.R (Kd.int .i64) 3 w' w.heap.size (fun k_ => some k_ ≠ (v0_ : Value).ownBlock) v1_ r2 ∧ Below w.heap.size w w' := by
 have hu40 := Try.underlying40
 have HR0_0 := Aside0.mk hr0_0
 have HC0_0 := Aside0.mk hc0_0
 clear hr0_0 hc0_0
 have HR0_1 := Aside0.mk hr0_1
 have HC0_1 := Aside0.mk hc0_1
 clear hr0_1 hc0_1
 have HB := Aside0.mk (Below.refl w.heap.size w)
 have H : ((spec_l2Names.f k l0_0 l0_1 a1).bind fun t594 => ((spec_l2Rename.f k l0_0 l0_1 t594).bind fun bt597 => (some (bt597.1, bt597.2)))) = some (r1, r2) := h
 clear h
 obtain ⟨t594, A30, H⟩ := Option.bind_eq_some_iff.mp H
 have A3 := Aside0.mk A30
 clear A30
 obtain ⟨⟨t597, t600⟩, A40, H⟩ := Option.bind_eq_some_iff.mp H
 dsimp only at H
 have A4 := Aside0.mk A40
 clear A40
 simp only [Option.some.injEq, Prod.mk.injEq] at H
 obtain ⟨rfl, rfl⟩ := H
 go_enter Try.func82, Try.ntmps82
 try go_wp2_with (first | ((with_reducible refine gate_dst (N := 2) rfl ?_); refine bE 2 #[.slice A0_0 l0_0.length c0_0, .slice A0_1 l0_1.length c0_1] 40 ?_; intro gb592 hg w5 hbox hb; have BK592 := Aside0.mk (hbox); have GW592 := gS HB hg; have GE592 := gS HB hg; replace HB := bS HB hb; clear hb hbox hg) | ((with_reducible refine gate_dst (N := 4) rfl ?_); refine bE 4 #[.slice none 0 0, .slice none 0 0] 40 ?_; intro gb593 hg w6 hbox hb; have BK593 := Aside0.mk (hbox); have GW593 := gS HB hg; have GE593 := gS HB hg; replace HB := bS HB hb; have NB592_593 := nL BK592 hg; have NB593_592 := nG BK592 hg; replace BK592 := kB BK592 hb; clear hb hbox hg))
 replace BK592 := Aside0.mk (blk_drew BK592.out)
 replace BK593 := Aside0.mk (blk_drew BK593.out)
 replace HB := Aside0.mk (below_drew1 HB.out)
 refine start_ (n := 6) (S := fun w' => w'.cell? ⟨gb592, 0, none⟩ = some (.slice A0_0 l0_0.length c0_0) ∧ w'.cell? ⟨gb592, 1, none⟩ = some (.slice A0_1 l0_1.length c0_1)) (ds := []) (tf 0 6) (by kernel_rfl) rfl rfl ⟨(blk_cell BK592.out 0).trans rfl, (blk_cell BK592.out 1).trans rfl⟩ (fun hHeld => ?_)
 generalize w6.drew = w7 at BK592 BK593 HB hHeld ⊢
 refine pK 2 7 (tB 6 4) ?_
 refine tK 0 5 (tB 6 5) hHeld ?_
 refine tK 1 6 (tf 3 3) hHeld ?_
 refine one_ (i := 3) (N := some 8) (tf 4 2) rfl rfl (by kernel_rfl) (by decide) (fun K hK => ?_)
 refine goes_ Try.func87 (by kernel_rfl) rfl #[.agg #[.slice A0_0 l0_0.length c0_0, .slice A0_1 l0_1.length c0_1], .int .i64 a1] (by rfl) rfl rfl (by (try simp only [List.map_toArray, List.map_cons, List.map_nil]); first | done | rfl | (simp only [List.length_drop, List.length_take]; rfl)) ?_
 with_reducible refine (spec_l2Names.calls k _ _ l0_0 _ _ l0_1 a1 t594 _ ?side1 ?side2 ?side3 ?side4 A3.out).mono ?_
 (case side1 => exact cB HR0_0 HB)
 (case side2 => exact HC0_0.out)
 (case side3 => exact cB HR0_1 HB)
 (case side4 => exact HC0_1.out)
 rintro e w8 ⟨v595, rfl, ho0, hb⟩
 refine ⟨_, rfl, ?_⟩
 have HO596 := rL ho0 HB
 replace BK592 := kB BK592 hb
 replace BK593 := kB BK593 hb
 replace HB := bS HB hb
 (try clear hb)
 (try clear hb2)
 (try clear hk)
 (try clear hi)
 (try clear ho0)
 obtain ⟨Ao9, co9, eo9⟩ := Kd.R_slice HO596.out
 (first | subst eo9 | (injection eo9 with f1_ f2_ f3_; have f4_ := f1_.symm; have f5_ := f3_.symm; clear f1_ f2_ f3_; subst f4_; subst f5_))
 refine hK.out _ _ ⟨(blk_cell BK592.out 0).trans rfl, (blk_cell BK592.out 1).trans rfl⟩ (fun hHeld => ?_)
 clear hK K
 refine norm_ (a' := ?_) ?_ ?_
 rotate_left
 ·show Act.put _ (some 8) _ = _
  simp only [Act.put, List.setIfInBounds_toArray, List.set_cons_zero, List.set_cons_succ, i64_w, i32_w]
  rfl
 refine one_ (i := 4) (N := some 9) (tf 5 1) rfl rfl (by kernel_rfl) (by decide) (fun K hK => ?_)
 refine goes_ Try.func63 (by kernel_rfl) rfl #[.agg #[.slice A0_0 l0_0.length c0_0, .slice A0_1 l0_1.length c0_1], .slice Ao9 t594.length co9] (by rfl) rfl rfl (by (try simp only [List.map_toArray, List.map_cons, List.map_nil]); first | done | rfl | (simp only [List.length_drop, List.length_take]; rfl)) ?_
 with_reducible refine (spec_l2Rename.calls k _ _ l0_0 _ _ l0_1 _ _ t594 t597 t600 _ ?side1 ?side2 ?side3 ?side4 ?side5 ?side6 A4.out).mono ?_
 (case side1 => exact cB HR0_0 HB)
 (case side2 => exact HC0_0.out)
 (case side3 => exact cB HR0_1 HB)
 (case side4 => exact HC0_1.out)
 (case side5 => exact cP (Kd.R_reads' HO596.out).2.2)
 (case side6 => exact (Kd.R_reads' HO596.out).2.1)
 rintro e w10 ⟨v598, v601, rfl, ho0, ho1, hb⟩
 refine ⟨_, rfl, ?_⟩
 have HO599 := Aside0.mk (Kd.R_lower (Kd.R_new' ho0 (Kd.R_lt (rP HO596))) (below_size (bP HB)))
 have HO602 := Aside0.mk (Kd.R_lower (Kd.R_new' ho1 (Kd.R_lt (rP HO596))) (below_size (bP HB)))
 replace HO596 := Aside0.mk (Kd.R_mono (Kd.R_told (Kd.R_told (Kd.R_old (rP HO596) hb) (Kd.R_base ho0)) (Kd.R_base ho1)) (fun _ h_ => h_.1))
 replace BK592 := kB BK592 hb
 replace BK593 := kB BK593 hb
 replace HB := bS HB hb
 (try clear hb)
 (try clear hb2)
 (try clear hk)
 (try clear hi)
 (try clear ho0)
 (try clear ho1)
 obtain ⟨Ao11, co11, eo11⟩ := Kd.R_slice HO599.out
 (first | subst eo11 | (injection eo11 with f1_ f2_ f3_; have f4_ := f1_.symm; have f5_ := f3_.symm; clear f1_ f2_ f3_; subst f4_; subst f5_))
 obtain ⟨Ao13, co13, eo13⟩ := Kd.R_slice HO602.out
 (first | subst eo13 | (injection eo13 with f1_ f2_ f3_; have f4_ := f1_.symm; have f5_ := f3_.symm; clear f1_ f2_ f3_; subst f4_; subst f5_))
 refine hK.out _ _ ⟨(blk_cell BK592.out 0).trans rfl, (blk_cell BK592.out 1).trans rfl⟩ (fun hHeld => ?_)
 clear hK K
 refine norm_ (a' := ?_) ?_ ?_
 rotate_left
 ·show Act.put _ (some 9) _ = _
  simp only [Act.put, List.setIfInBounds_toArray, List.set_cons_zero, List.set_cons_succ, i64_w, i32_w]
  rfl
 refine one_ (i := 5) (N := none) (tf 6 0) rfl rfl (by kernel_rfl) (by decide) (fun K hK => ?_)
 have hs12 : w10.cell? ⟨gb593, 0, none⟩ = some (.slice none 0 0) := (blk_cell BK593.out 0).trans rfl
 have hfs12 := blk_frozen BK593.out 0
 have hns12_0 := NB592_593.out
 have hms12_0 := NB593_592.out
 have hs14 : w10.cell? ⟨gb593, 1, none⟩ = some (.slice none 0 0) := (blk_cell BK593.out 1).trans rfl
 have hfs14 := blk_frozen BK593.out 1
 have hns14_0 := NB592_593.out
 have hms14_0 := NB593_592.out
 refine skip_ (w1 := ?_) (by rfl) rfl ?_ ?_
 rotate_left
 ·go_simp
  rfl
 refine hK.out _ _ ⟨((cell_far (p := ⟨gb593, _, none⟩) NB592_593.out _).trans (((cell_far (p := ⟨gb593, _, none⟩) NB592_593.out _).trans (hHeld.1)))), ((cell_far (p := ⟨gb593, _, none⟩) NB592_593.out _).trans (((cell_far (p := ⟨gb593, _, none⟩) NB592_593.out _).trans (hHeld.2))))⟩ (fun hHeld => ?_)
 clear hK K
 refine done_ (by kernel_rfl) ?_
 try go_wp2
 refine bodyPost_ret (results_cell_row rfl _ _ gb593 40 #[.slice Ao11 t597.length co11, .slice Ao13 t600.length co13] (0, 0) _ rfl (by (with_reducible repeat (first | refine blk_drewN ?_ _ | refine blk_drew ?_ | refine blk_alloc ?_ _)); refine blk_put (cs := #[.slice Ao11 t597.length co11, .slice none 0 0]) ?_ 1 _ rfl; (with_reducible repeat (first | refine blk_drewN ?_ _ | refine blk_drew ?_ | refine blk_alloc ?_ _)); refine blk_put (cs := #[.slice none 0 0, .slice none 0 0]) ?_ 0 _ rfl; (with_reducible repeat (first | refine blk_drewN ?_ _ | refine blk_drew ?_ | refine blk_alloc ?_ _)); exact BK593.out) Try.underlying40 rfl (by kernel_rfl)) rfl ?_
 exact ⟨_, _, eR, rT (Kd.R_mono (rF gb593 1 (rF gb593 0 (rY HO599 BK593) (.slice Ao11 t597.length co11)) (.slice Ao13 t600.length co13)) (fun _ hk => hk.1.1)), rT (Kd.R_mono (rF gb593 1 (rF gb593 0 (rY HO602 BK593) (.slice Ao11 t597.length co11)) (.slice Ao13 t600.length co13)) (fun _ hk => hk.1.1)), bP HB⟩

end Go.Proofs.Yteffimfifgnleaa.F
