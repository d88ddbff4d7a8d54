/- Contracts: what these Go functions return. -/
import Derived.Test.YtjnbbnaidjodlaaF0
import Derived.Test.YtjnbbnaidjodlaaF24
import Derived.Test.YtjnbbnaidjodlaaF25
namespace Go.Proofs.Ytjnbbnaidjodlaa.F
open Go.RowKit Go.Proofs.YtjnbbnaidjodlaaW.PrintWords Go.Proofs.YtjnbbnaidjodlaaW.PrintLast Go.Proofs.YtjnbbnaidjodlaaW.PrintMore
attribute [local go_sem] max2_int min2_int max_two min_two max_three min_three max_four min_four
set_option linter.unusedVariables false
set_option linter.unusedSimpArgs false

/-! ### spec_l2Form: function 19 -/
def spec_l2Form.f (k : Nat) (l0_0 : List Int) (l0_1 : List Int) (a1 : Int) : Option (List Int × List Int) := (spec_l2Names.f k l0_0 l0_1 a1).bind fun t405 => ((spec_l2Rename.f k l0_0 l0_1 t405).bind fun bt408 => (some (bt408.1, bt408.2)))
set_option maxHeartbeats 8000000 in
set_option maxRecDepth 100000 in
theorem spec_l2Form.calls (k : Nat) (A0_0 : Option Addr) (c0_0 : Nat) (l0_0 : List Int) (A0_1 : Option Addr) (c0_1 : Nat) (l0_1 : List Int) (a1 : Int) (r1 : List Int) (r2 : List Int) (w : World) (hr0_0 : Kd.C (Kd.int .i64) w A0_0 l0_0.length l0_0) (hc0_0 : l0_0.length ≤ c0_0) (hr0_1 : Kd.C (Kd.int .i64) w A0_1 l0_1.length l0_1) (hc0_1 : l0_1.length ≤ c0_1) (h : spec_l2Form.f k l0_0 l0_1 a1 = some (r1, r2)) :
 Calls Try.prog 19 #[.agg #[.slice A0_0 l0_0.length c0_0, .slice A0_1 l0_1.length c0_1], .int .i64 a1] w fun e w' => ∃ v0_ v1_ : Value, e = .returned (.agg #[v0_, v1_]) ∧ Kd.R (Kd.int .i64) 3 w' w.heap.size (fun k_ => some k_ ≠ (v1_ : Value).ownBlock) v0_ r1 ∧ Kd.R (Kd.int .i64) 3 w' w.heap.size (fun k_ => some k_ ≠ (v0_ : Value).ownBlock) v1_ r2 ∧ Below w.heap.size w w' := by
 have hu25 := Try.underlying25
 have HR0_0 := Aside0.mk hr0_0
 have HC0_0 := Aside0.mk hc0_0
 clear hr0_0 hc0_0
 have HR0_1 := Aside0.mk hr0_1
 have HC0_1 := Aside0.mk hc0_1
 clear hr0_1 hc0_1
 have HB := Aside0.mk (Below.refl w.heap.size w)
 have H : ((spec_l2Names.f k l0_0 l0_1 a1).bind fun t405 => ((spec_l2Rename.f k l0_0 l0_1 t405).bind fun bt408 => (some (bt408.1, bt408.2)))) = some (r1, r2) := h
 clear h
 obtain ⟨t405, A30, H⟩ := Option.bind_eq_some_iff.mp H
 have A3 := Aside0.mk A30
 clear A30
 obtain ⟨⟨t408, t411⟩, A40, H⟩ := Option.bind_eq_some_iff.mp H
 dsimp only at H
 have A4 := Aside0.mk A40
 clear A40
 simp only [Option.some.injEq, Prod.mk.injEq] at H
 obtain ⟨rfl, rfl⟩ := H
 go_enter Try.func19, Try.ntmps19
 try go_wp2_with (first | ((with_reducible refine gate_dst (N := 2) rfl ?_); refine bE 2 #[.slice A0_0 l0_0.length c0_0, .slice A0_1 l0_1.length c0_1] 25 ?_; intro gb403 hg w5 hbox hb; have BK403 := Aside0.mk (hbox); have GW403 := gS HB hg; have GE403 := gS HB hg; replace HB := bS HB hb; clear hb hbox hg) | ((with_reducible refine gate_dst (N := 4) rfl ?_); refine bE 4 #[.slice none 0 0, .slice none 0 0] 25 ?_; intro gb404 hg w6 hbox hb; have BK404 := Aside0.mk (hbox); have GW404 := gS HB hg; have GE404 := gS HB hg; replace HB := bS HB hb; have NB403_404 := nL BK403 hg; have NB404_403 := nG BK403 hg; replace BK403 := kB BK403 hb; clear hb hbox hg))
 replace BK403 := Aside0.mk (blk_drew BK403.out)
 replace BK404 := Aside0.mk (blk_drew BK404.out)
 replace HB := Aside0.mk (below_drew1 HB.out)
 refine start_ (n := 6) (S := fun w' => w'.cell? ⟨gb403, 0, none⟩ = some (.slice A0_0 l0_0.length c0_0) ∧ w'.cell? ⟨gb403, 1, none⟩ = some (.slice A0_1 l0_1.length c0_1)) (ds := []) (tf 0 6) (by kernel_rfl) rfl rfl ⟨(blk_cell BK403.out 0).trans rfl, (blk_cell BK403.out 1).trans rfl⟩ (fun hHeld => ?_)
 generalize w6.drew = w7 at BK403 BK404 HB hHeld ⊢
 refine pK 2 7 (tB 6 4) ?_
 refine tK 0 5 (tB 6 5) hHeld ?_
 refine tK 1 6 (tf 3 3) hHeld ?_
 refine one_ (i := 3) (N := some 8) (tf 4 2) rfl rfl (by kernel_rfl) (by decide) (fun K hK => ?_)
 refine goes_ Try.func33 (by kernel_rfl) rfl #[.agg #[.slice A0_0 l0_0.length c0_0, .slice A0_1 l0_1.length c0_1], .int .i64 a1] (by rfl) rfl rfl (by (try simp only [List.map_toArray, List.map_cons, List.map_nil]); first | done | rfl | (simp only [List.length_drop, List.length_take]; rfl)) ?_
 with_reducible refine (spec_l2Names.calls k _ _ l0_0 _ _ l0_1 a1 t405 _ ?side1 ?side2 ?side3 ?side4 A3.out).mono ?_
 (case side1 => exact cB HR0_0 HB)
 (case side2 => exact HC0_0.out)
 (case side3 => exact cB HR0_1 HB)
 (case side4 => exact HC0_1.out)
 rintro e w8 ⟨v406, rfl, ho0, hb⟩
 refine ⟨_, rfl, ?_⟩
 have HO407 := rL ho0 HB
 replace BK403 := kB BK403 hb
 replace BK404 := kB BK404 hb
 replace HB := bS HB hb
 (try clear hb)
 (try clear hb2)
 (try clear hk)
 (try clear hi)
 (try clear ho0)
 obtain ⟨Ao9, co9, eo9⟩ := Kd.R_slice HO407.out
 (first | subst eo9 | (injection eo9 with f1_ f2_ f3_; have f4_ := f1_.symm; have f5_ := f3_.symm; clear f1_ f2_ f3_; subst f4_; subst f5_))
 refine hK.out _ _ ⟨(blk_cell BK403.out 0).trans rfl, (blk_cell BK403.out 1).trans rfl⟩ (fun hHeld => ?_)
 clear hK K
 refine norm_ (a' := ?_) ?_ ?_
 rotate_left
 ·show Act.put _ (some 8) _ = _
  simp only [Act.put, List.setIfInBounds_toArray, List.set_cons_zero, List.set_cons_succ, i64_w, i32_w]
  rfl
 refine one_ (i := 4) (N := some 9) (tf 5 1) rfl rfl (by kernel_rfl) (by decide) (fun K hK => ?_)
 refine goes_ Try.func32 (by kernel_rfl) rfl #[.agg #[.slice A0_0 l0_0.length c0_0, .slice A0_1 l0_1.length c0_1], .slice Ao9 t405.length co9] (by rfl) rfl rfl (by (try simp only [List.map_toArray, List.map_cons, List.map_nil]); first | done | rfl | (simp only [List.length_drop, List.length_take]; rfl)) ?_
 with_reducible refine (spec_l2Rename.calls k _ _ l0_0 _ _ l0_1 _ _ t405 t408 t411 _ ?side1 ?side2 ?side3 ?side4 ?side5 ?side6 A4.out).mono ?_
 (case side1 => exact cB HR0_0 HB)
 (case side2 => exact HC0_0.out)
 (case side3 => exact cB HR0_1 HB)
 (case side4 => exact HC0_1.out)
 (case side5 => exact cP (Kd.R_reads' HO407.out).2.2)
 (case side6 => exact (Kd.R_reads' HO407.out).2.1)
 rintro e w10 ⟨v409, v412, rfl, ho0, ho1, hb⟩
 refine ⟨_, rfl, ?_⟩
 have HO410 := Aside0.mk (Kd.R_lower (Kd.R_new' ho0 (Kd.R_lt (rP HO407))) (below_size (bP HB)))
 have HO413 := Aside0.mk (Kd.R_lower (Kd.R_new' ho1 (Kd.R_lt (rP HO407))) (below_size (bP HB)))
 replace HO407 := Aside0.mk (Kd.R_mono (Kd.R_told (Kd.R_told (Kd.R_old (rP HO407) hb) (Kd.R_base ho0)) (Kd.R_base ho1)) (fun _ h_ => h_.1))
 replace BK403 := kB BK403 hb
 replace BK404 := kB BK404 hb
 replace HB := bS HB hb
 (try clear hb)
 (try clear hb2)
 (try clear hk)
 (try clear hi)
 (try clear ho0)
 (try clear ho1)
 obtain ⟨Ao11, co11, eo11⟩ := Kd.R_slice HO410.out
 (first | subst eo11 | (injection eo11 with f1_ f2_ f3_; have f4_ := f1_.symm; have f5_ := f3_.symm; clear f1_ f2_ f3_; subst f4_; subst f5_))
 obtain ⟨Ao13, co13, eo13⟩ := Kd.R_slice HO413.out
 (first | subst eo13 | (injection eo13 with f1_ f2_ f3_; have f4_ := f1_.symm; have f5_ := f3_.symm; clear f1_ f2_ f3_; subst f4_; subst f5_))
 refine hK.out _ _ ⟨(blk_cell BK403.out 0).trans rfl, (blk_cell BK403.out 1).trans rfl⟩ (fun hHeld => ?_)
 clear hK K
 refine norm_ (a' := ?_) ?_ ?_
 rotate_left
 ·show Act.put _ (some 9) _ = _
  simp only [Act.put, List.setIfInBounds_toArray, List.set_cons_zero, List.set_cons_succ, i64_w, i32_w]
  rfl
 refine one_ (i := 5) (N := none) (tf 6 0) rfl rfl (by kernel_rfl) (by decide) (fun K hK => ?_)
 have hs12 : w10.cell? ⟨gb404, 0, none⟩ = some (.slice none 0 0) := (blk_cell BK404.out 0).trans rfl
 have hfs12 := blk_frozen BK404.out 0
 have hns12_0 := NB403_404.out
 have hms12_0 := NB404_403.out
 have hs14 : w10.cell? ⟨gb404, 1, none⟩ = some (.slice none 0 0) := (blk_cell BK404.out 1).trans rfl
 have hfs14 := blk_frozen BK404.out 1
 have hns14_0 := NB403_404.out
 have hms14_0 := NB404_403.out
 refine skip_ (w1 := ?_) (by rfl) rfl ?_ ?_
 rotate_left
 ·go_simp
  rfl
 refine hK.out _ _ ⟨((cell_far (p := ⟨gb404, _, none⟩) NB403_404.out _).trans (((cell_far (p := ⟨gb404, _, none⟩) NB403_404.out _).trans (hHeld.1)))), ((cell_far (p := ⟨gb404, _, none⟩) NB403_404.out _).trans (((cell_far (p := ⟨gb404, _, none⟩) NB403_404.out _).trans (hHeld.2))))⟩ (fun hHeld => ?_)
 clear hK K
 refine done_ (by kernel_rfl) ?_
 try go_wp2
 refine bodyPost_ret (results_cell_row rfl _ _ gb404 25 #[.slice Ao11 t408.length co11, .slice Ao13 t411.length co13] (0, 0) _ rfl (by (with_reducible repeat (first | refine blk_drewN ?_ _ | refine blk_drew ?_ | refine blk_alloc ?_ _)); refine blk_put (cs := #[.slice Ao11 t408.length co11, .slice none 0 0]) ?_ 1 _ rfl; (with_reducible repeat (first | refine blk_drewN ?_ _ | refine blk_drew ?_ | refine blk_alloc ?_ _)); refine blk_put (cs := #[.slice none 0 0, .slice none 0 0]) ?_ 0 _ rfl; (with_reducible repeat (first | refine blk_drewN ?_ _ | refine blk_drew ?_ | refine blk_alloc ?_ _)); exact BK404.out) Try.underlying25 rfl (by kernel_rfl)) rfl ?_
 exact ⟨_, _, eR, rT (Kd.R_mono (rF gb404 1 (rF gb404 0 (rY HO410 BK404) (.slice Ao11 t408.length co11)) (.slice Ao13 t411.length co13)) (fun _ hk => hk.1.1)), rT (Kd.R_mono (rF gb404 1 (rF gb404 0 (rY HO413 BK404) (.slice Ao11 t408.length co11)) (.slice Ao13 t411.length co13)) (fun _ hk => hk.1.1)), bP HB⟩

end Go.Proofs.Ytjnbbnaidjodlaa.F
