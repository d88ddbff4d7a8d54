/- Contracts: what these Go functions return. -/
import Derived.Test.YtihabnfccgjfbaaF0
import Derived.Test.YtihabnfccgjfbaaF5
import Derived.Test.YtihabnfccgjfbaaF7
import Derived.Test.YtihabnfccgjfbaaF8
namespace Go.Proofs.Ytihabnfccgjfbaa.F
open Go.RowKit Go.Proofs.YtihabnfccgjfbaaW.PrintWords Go.Proofs.YtihabnfccgjfbaaW.PrintLast Go.Proofs.YtihabnfccgjfbaaW.PrintMore
attribute [local go_sem] max2_int min2_int max_two min_two max_three min_three max_four min_four
set_option linter.unusedVariables false
set_option linter.unusedSimpArgs false

/-! ### spec_DrawMapGenus: function 25 -/
def spec_DrawMapGenus.f (k : Nat) (l0 : List Int) : Option (List Int × List Int) := (spec_l6Open.f l0).bind fun bt564 => ((spec_l91Map.f k bt564.1 bt564.2 6).bind fun bt567 => (some (bt567.1, bt567.2.1)))
set_option maxHeartbeats 8000000 in
set_option maxRecDepth 100000 in
theorem spec_DrawMapGenus.calls (k : Nat) (A0 : Option Addr) (c0 : Nat) (l0 : List Int) (r1 : List Int) (r2 : List Int) (w : World) (hr0 : Kd.C (Kd.int .u8) w A0 l0.length l0) (hc0 : l0.length ≤ c0) (h : spec_DrawMapGenus.f k l0 = some (r1, r2)) :
 Calls Try.prog 25 #[.slice A0 l0.length c0] w fun e w' => ∃ v0_ v1_ : Value, e = .returned (.agg #[v0_, v1_]) ∧ Kd.Q (Kd.int .i64) 3 w' w.heap.size (fun k_ => some k_ ≠ (v1_ : Value).ownBlock) v0_ r1 ∧ Kd.R (Kd.int .i64) 3 w' w.heap.size (fun k_ => some k_ ≠ (v0_ : Value).ownBlock) v1_ r2 ∧ Below w.heap.size w w' := by
 have hu25 := Try.underlying25
 have HR0 := Aside0.mk hr0
 have HC0 := Aside0.mk hc0
 clear hr0 hc0
 have HB := Aside0.mk (Below.refl w.heap.size w)
 have H : ((spec_l6Open.f l0).bind fun bt564 => ((spec_l91Map.f k bt564.1 bt564.2 6).bind fun bt567 => (some (bt567.1, bt567.2.1)))) = some (r1, r2) := h
 clear h
 replace H := Option.bind_eq_some_iff.mp H
 obtain ⟨⟨t564, t565⟩, A20, H⟩ := H
 replace H : ((spec_l91Map.f k t564 t565 6).bind fun bt567 => (some (bt567.1, bt567.2.1))) = some (r1, r2) := H
 have A2 := Aside0.mk A20
 clear A20
 replace H := Option.bind_eq_some_iff.mp H
 obtain ⟨⟨t567, t570, t573⟩, A30, H⟩ := H
 replace H : (some (t567, t570)) = some (r1, r2) := H
 have A3 := Aside0.mk A30
 clear A30
 simp only [Option.some.injEq, Prod.mk.injEq] at H
 obtain ⟨rfl, rfl⟩ := H
 go_enter Try.func25, Try.ntmps25
 go_wp2_with (first | ((with_reducible refine gate_dst (N := 2) rfl ?_); refine bE 2 #[.slice none 0 0, .slice none 0 0] 25 ?_; intro gb563 hg w4 hbox hb; have BK563 := Aside0.mk (hbox); have GW563 := gS HB hg; have GE563 := gS HB hg; replace HB := bS HB hb; clear hb hbox hg) | ((with_reducible refine gate_callee (f := 37) rfl ?_); refine gL (some 4) Try.func37 #[.slice A0 l0.length c0] ?_; (with_reducible refine (spec_l6Open.calls _ _ l0 t564 t565 w _ ?side1 ?side2 ?side3 A2.out).mono ?_); (case side1 => exact bP HB); (case side2 => exact HR0.out); (case side3 => exact HC0.out); rintro e w5 ⟨g566, rfl, hi, hb, hb2⟩; refine ⟨_, rfl, ?_⟩; replace HB := Aside0.mk (hb); have HI566 := Aside0.mk (hi); have NB566_563 := Aside0.mk (IsS70.ne_blk hi (blk_below (kP BK563) hb2) (by decide)); have NB563_566 := Aside0.mk (Ne.symm (IsS70.ne_blk hi (blk_below (kP BK563) hb2) (by decide))); replace BK563 := kB BK563 hb2; (try clear hb); (try clear hb2); (try clear hk); (try clear hi)) | ((with_reducible refine gate_callee (f := 36) rfl ?_); refine gL (some 5) Try.func36 #[.pointer (some ⟨g566, 0, none⟩), .int .i64 6] ?_; (with_reducible refine (spec_l91Map.calls k g566 t564 t565 6 t567 t570 t573 w _ ?side1 ?side2 A3.out).mono ?_); (case side1 => repeat (first | (with_reducible first | exact HI566.out | apply IsS70.alloc | apply IsS70.drewN | apply IsS70.drew | apply IsS70.set_1 | refine IsS70.far ?_ NB566_563.out _) | exact HI566.out)); (case side2 => repeat (first | (with_reducible first | exact HB.out | apply below_alloc | apply pw_below_drewN | apply below_drew1 | refine below_set ?_ (IsS70.ge HI566.out) | refine below_set ?_ GE563.out) | exact HB.out)); rintro e w6 ⟨v568, v571, rfl, ho0, ho1, hi, hb, hk⟩; refine ⟨_, rfl, ?_⟩; replace BK563 := Aside0.mk (KeepBut.blk hk (g' := gb563) (o := .cells #[.slice none 0 0, .slice none 0 0] 25 (0, 0)) (kP BK563) NB563_566.out (by simp)); have HO569 := Aside0.mk (Kd.Q_lower ho0 (below_size (by repeat (first | (with_reducible first | exact HB.out | apply below_alloc | apply pw_below_drewN | apply below_drew1 | refine below_set ?_ (IsS70.ge HI566.out) | refine below_set ?_ GE563.out) | exact HB.out)))); have HO572 := Aside0.mk (Kd.R_lower ho1 (below_size (by repeat (first | (with_reducible first | exact HB.out | apply below_alloc | apply pw_below_drewN | apply below_drew1 | refine below_set ?_ (IsS70.ge HI566.out) | refine below_set ?_ GE563.out) | exact HB.out)))); replace HB := Aside0.mk (hb); replace HI566 := Aside0.mk (hi); (try clear hb); (try clear hb2); (try clear hk); (try clear hi); (try clear ho0); (try clear ho1); obtain ⟨Ao7, co7, eo7, _⟩ := Kd.Q_slice HO569.out; subst eo7; have hnb8 := NB563_566.out; have hnc8 := NB566_563.out; have hcz9_0 := zc0 BK563; have hcz9_1 := zc1 BK563; have hfz9_0 := blk_frozen BK563.out 0; have hfz9_1 := blk_frozen BK563.out 1; obtain ⟨Ao10, co10, eo10⟩ := Kd.R_slice HO572.out; subst eo10))
 refine bodyPost_ret (results_cell_row rfl _ _ gb563 25 #[.slice Ao7 t567.length co7, .slice Ao10 t570.length co10] (0, 0) _ rfl (by (with_reducible repeat (first | refine blk_drewN ?_ _ | refine blk_drew ?_ | refine blk_alloc ?_ _)); refine blk_put (cs := #[.slice Ao7 t567.length co7, .slice none 0 0]) ?_ 1 _ rfl; (with_reducible repeat (first | refine blk_drewN ?_ _ | refine blk_drew ?_ | refine blk_alloc ?_ _)); refine blk_put (cs := #[.slice none 0 0, .slice none 0 0]) ?_ 0 _ rfl; (with_reducible repeat (first | refine blk_drewN ?_ _ | refine blk_drew ?_ | refine blk_alloc ?_ _)); exact BK563.out) Try.underlying25 rfl (by kernel_rfl)) rfl ?_
 exact ⟨_, _, eR, by (with_reducible repeat (first | apply Kd.Q_alloc | apply Kd.Q_drewN | apply Kd.Q_drew)); exact Kd.Q_mono (Kd.Q_far (p := ⟨gb563, 1, none⟩) (Kd.Q_far (p := ⟨gb563, 0, none⟩) (Kd.Q_types HO569.out BK563.out (by decide)) (fun _ hk => hk.2) (.slice Ao7 t567.length co7)) (fun _ hk => hk.2) (.slice Ao10 t570.length co10)) (fun _ hk => hk.1), by (with_reducible repeat (first | apply Kd.R_alloc | apply Kd.R_drewN | apply Kd.R_drew)); exact Kd.R_mono (Kd.R_far (p := ⟨gb563, 1, none⟩) (Kd.R_far (p := ⟨gb563, 0, none⟩) (Kd.R_types HO572.out BK563.out (by decide)) (fun _ hk => hk.2) (.slice Ao7 t567.length co7)) (fun _ hk => hk.2) (.slice Ao10 t570.length co10)) (fun _ hk => hk.1), by repeat (first | (with_reducible first | exact HB.out | apply below_alloc | apply pw_below_drewN | apply below_drew1 | refine below_set ?_ (IsS70.ge HI566.out) | refine below_set ?_ GE563.out) | exact HB.out)⟩

end Go.Proofs.Ytihabnfccgjfbaa.F
