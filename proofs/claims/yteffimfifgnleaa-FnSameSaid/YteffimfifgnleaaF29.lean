/- Contracts: what these Go functions return. -/
import Derived.Test.YteffimfifgnleaaF0
import Derived.Test.YteffimfifgnleaaF19
import Derived.Test.YteffimfifgnleaaF23
import Derived.Test.YteffimfifgnleaaF24
import Derived.Test.YteffimfifgnleaaF25
import Derived.Test.YteffimfifgnleaaF26
import Derived.Test.YteffimfifgnleaaF28
namespace Go.Proofs.Yteffimfifgnleaa.F
open Go.RowKit Go.Proofs.YteffimfifgnleaaW.PrintWords Go.Proofs.YteffimfifgnleaaW.PrintLast Go.Proofs.YteffimfifgnleaaW.PrintMore
attribute [local go_sem] max2_int min2_int max_two min_two max_three min_three max_four min_four
set_option linter.unusedVariables false
set_option linter.unusedSimpArgs false

/-! ### spec_DrawMapSame: function 36 -/
def spec_DrawMapSame.j0 : Nat → Bool → List Int → Int → List Int → List Int → Option (List Int × List Int × List Int × List Int)
 | 0, _, _, _, _, _ => none
 | k + 1, x16, x430000, x430001, x438000, x438001 => if x16 = true then ((spec_l91Perm.f k x430000 x430001 (x438000.length : Int)).bind fun bt441 => ((spec_l2Rename.f k x438000 x438001 bt441.1).bind fun bt445 => (some (x438000, x438001, bt445.1, bt445.2)))) else ((spec_l91Map.f k x430000 x430001 2).bind fun bt451 => (some (x438000, x438001, bt451.1, bt451.2.1)))
def spec_DrawMapSame.f (k : Nat) (l0 : List Int) : Option (List Int × List Int × List Int × List Int) := (spec_l6Open.f l0).bind fun bt427 => ((spec_l91Map.f k bt427.1 bt427.2 4).bind fun bt430 => ((spec_l6Rd_pick.f k bt427.1 bt430.2.2 3).bind fun bt438 => (if bt438.1 > 0 then ((spec_MapValid.f k bt430.1 bt430.2.1).bind fun t440 => (spec_DrawMapSame.j0 k t440 bt427.1 bt438.2 bt430.1 bt430.2.1)) else (spec_DrawMapSame.j0 k false bt427.1 bt438.2 bt430.1 bt430.2.1))))
def spec_DrawMapSame.T4 : Bool × List (List Nat × List Nat) := (true, [([], []), ([], []), ([], []), ([], []), ([3], [3]), ([4], [4]), ([2, 5], [2, 5]), ([1, 6, 6], [1, 6]), ([0, 7, 0], [0]), ([7, 8, 0, 1, 2, 3, 4, 5, 6, 7, 8], [7])])
def spec_DrawMapSame.B4 : List Nat := [0, 0, 0, 0, 8, 24, 60, 126, 255, 511]
theorem spec_DrawMapSame.tab4 : rtab .any (opsOf Try.f36 4) = spec_DrawMapSame.T4 := by kernel_rfl
theorem spec_DrawMapSame.bits4 : waitsOk spec_DrawMapSame.T4.2 spec_DrawMapSame.B4 = true := by kernel_rfl
set_option maxHeartbeats 8000000 in
set_option maxRecDepth 100000 in
theorem spec_DrawMapSame.calls (k : Nat) (A0 : Option Addr) (c0 : Nat) (l0 : List Int) (r1 : List Int) (r2 : List Int) (r3 : List Int) (r4 : List Int) (w : World) (hr0 : Kd.C (Kd.int .u8) w A0 l0.length l0) (hc0 : l0.length ≤ c0) (h : spec_DrawMapSame.f k l0 = some (r1, r2, r3, r4)) :
 Calls Try.prog 36 #[.slice A0 l0.length c0] w fun e w' => ∃ v0_ v1_ v2_ v3_ : Value, e = .returned (.tuple #[.agg #[v0_, v1_], .agg #[v2_, v3_]]) ∧ Kd.Q (Kd.int .i64) 3 w' w.heap.size (fun k_ => some k_ ≠ (v1_ : Value).ownBlock ∧ some k_ ≠ (v2_ : Value).ownBlock ∧ some k_ ≠ (v3_ : Value).ownBlock) v0_ r1 ∧ Kd.R (Kd.int .i64) 3 w' w.heap.size (fun k_ => some k_ ≠ (v0_ : Value).ownBlock ∧ some k_ ≠ (v2_ : Value).ownBlock ∧ some k_ ≠ (v3_ : Value).ownBlock) v1_ r2 ∧ Kd.Q (Kd.int .i64) 3 w' w.heap.size (fun k_ => some k_ ≠ (v0_ : Value).ownBlock ∧ some k_ ≠ (v1_ : Value).ownBlock ∧ some k_ ≠ (v3_ : Value).ownBlock) v2_ r3 ∧ Kd.R (Kd.int .i64) 3 w' w.heap.size (fun k_ => some k_ ≠ (v0_ : Value).ownBlock ∧ some k_ ≠ (v1_ : Value).ownBlock ∧ some k_ ≠ (v2_ : Value).ownBlock) v3_ r4 ∧ Below w.heap.size w w' := by
 have hu40 := Try.underlying40
 have HR0 := Aside0.mk hr0
 have HC0 := Aside0.mk hc0
 clear hr0 hc0
 have HB := Aside0.mk (Below.refl w.heap.size w)
 have H : ((spec_l6Open.f l0).bind fun bt427 => ((spec_l91Map.f k bt427.1 bt427.2 4).bind fun bt430 => ((spec_l6Rd_pick.f k bt427.1 bt430.2.2 3).bind fun bt438 => (if bt438.1 > 0 then ((spec_MapValid.f k bt430.1 bt430.2.1).bind fun t440 => (spec_DrawMapSame.j0 k t440 bt427.1 bt438.2 bt430.1 bt430.2.1)) else (spec_DrawMapSame.j0 k false bt427.1 bt438.2 bt430.1 bt430.2.1))))) = some (r1, r2, r3, r4) := h
 clear h
 obtain ⟨⟨t427, t428⟩, A20, H⟩ := Option.bind_eq_some_iff.mp H
 dsimp only at H
 have A2 := Aside0.mk A20
 clear A20
 obtain ⟨⟨t430, t433, t436⟩, A30, H⟩ := Option.bind_eq_some_iff.mp H
 dsimp only at H
 have A3 := Aside0.mk A30
 clear A30
 have HC4 := Aside0.mk H
 clear H
 go_enter Try.func36, Try.ntmps36
 go_upto_region 3 with (first | ((with_reducible refine gate_dst (N := 2) rfl ?_); refine bE 2 #[.slice none 0 0, .slice none 0 0] 40 ?_; intro gb425 hg w5 hbox hb; have BK425 := Aside0.mk (hbox); have GW425 := gS HB hg; have GE425 := gS HB hg; replace HB := bS HB hb; clear hb hbox hg) | ((with_reducible refine gate_dst (N := 3) rfl ?_); refine bE 3 #[.slice none 0 0, .slice none 0 0] 40 ?_; intro gb426 hg w6 hbox hb; have BK426 := Aside0.mk (hbox); have GW426 := gS HB hg; have GE426 := gS HB hg; replace HB := bS HB hb; have NB425_426 := nL BK425 hg; have NB426_425 := nG BK425 hg; replace BK425 := kB BK425 hb; clear hb hbox hg) | ((with_reducible refine gate_callee (f := 47) rfl ?_); refine gL (some 7) Try.func47 #[.slice A0 l0.length c0] ?_; (with_reducible refine (spec_l6Open.calls _ _ l0 t427 t428 w _ ?side1 ?side2 ?side3 A2.out).mono ?_); (case side1 => exact bP HB); (case side2 => exact HR0.out); (case side3 => exact HC0.out); rintro e w7 ⟨g429, rfl, hi, hb, hb2⟩; refine ⟨_, rfl, ?_⟩; replace HB := Aside0.mk (hb); have HI429 := Aside0.mk (hi); have NB429_425 := Aside0.mk (IsS68.ne_blk hi (blk_below (kP BK425) hb2) (by decide)); have NB425_429 := Aside0.mk (Ne.symm (IsS68.ne_blk hi (blk_below (kP BK425) hb2) (by decide))); replace BK425 := kB BK425 hb2; have NB429_426 := Aside0.mk (IsS68.ne_blk hi (blk_below (kP BK426) hb2) (by decide)); have NB426_429 := Aside0.mk (Ne.symm (IsS68.ne_blk hi (blk_below (kP BK426) hb2) (by decide))); replace BK426 := kB BK426 hb2; (try clear hb); (try clear hb2); (try clear hk); (try clear hi)) | ((with_reducible refine gate_callee (f := 59) rfl ?_); refine gL (some 9) Try.func59 #[.pointer (some ⟨g429, 0, none⟩), .int .i64 4] ?_; (with_reducible refine (spec_l91Map.calls k g429 t427 t428 4 t430 t433 t436 w _ ?side1 ?side2 A3.out).mono ?_); (case side1 => repeat (first | (with_reducible first | exact HI429.out | apply IsS68.alloc | apply IsS68.drewN | apply IsS68.drew | apply IsS68.set_1 | refine IsS68.far ?_ NB429_425.out _ | refine IsS68.far ?_ NB429_426.out _) | exact HI429.out)); (case side2 => repeat (first | (with_reducible first | exact HB.out | apply below_alloc | apply pw_below_drewN | apply below_drew1 | refine below_set ?_ (IsS68.ge HI429.out) | refine below_set ?_ GE425.out | refine below_set ?_ GE426.out) | exact HB.out)); rintro e w8 ⟨v431, v434, rfl, ho0, ho1, hi, hb, hk⟩; refine ⟨_, rfl, ?_⟩; replace BK425 := Aside0.mk (KeepBut.blk hk (g' := gb425) (o := .cells #[.slice none 0 0, .slice none 0 0] 40 (0, 0)) (kP BK425) NB425_429.out (by simp)); replace BK426 := Aside0.mk (KeepBut.blk hk (g' := gb426) (o := .cells #[.slice none 0 0, .slice none 0 0] 40 (0, 0)) (kP BK426) NB426_429.out (by simp)); have HO432 := Aside0.mk (Kd.Q_lower ho0 (below_size (by repeat (first | (with_reducible first | exact HB.out | apply below_alloc | apply pw_below_drewN | apply below_drew1 | refine below_set ?_ (IsS68.ge HI429.out) | refine below_set ?_ GE425.out | refine below_set ?_ GE426.out) | exact HB.out)))); have HO435 := Aside0.mk (Kd.R_lower ho1 (below_size (by repeat (first | (with_reducible first | exact HB.out | apply below_alloc | apply pw_below_drewN | apply below_drew1 | refine below_set ?_ (IsS68.ge HI429.out) | refine below_set ?_ GE425.out | refine below_set ?_ GE426.out) | exact HB.out)))); replace HB := Aside0.mk (hb); replace HI429 := Aside0.mk (hi); (try clear hb); (try clear hb2); (try clear hk); (try clear hi); (try clear ho0); (try clear ho1)) | ((with_reducible refine gate_dst (N := 5) rfl ?_); refine bE 5 #[.slice none 0 0, .slice none 0 0] 40 ?_; intro gb437 hg w9 hbox hb; replace HO432 := Aside0.mk (Kd.Q_below (qP HO432) hb); replace HO435 := rB HO435 hb; have BK437 := Aside0.mk (hbox); have GW437 := Aside0.mk ((by rw [hg]; exact (below_size (by repeat (first | (with_reducible first | exact HB.out | apply below_alloc | apply pw_below_drewN | apply below_drew1 | refine below_set ?_ (IsS68.ge HI429.out) | refine below_set ?_ GE425.out | refine below_set ?_ GE426.out) | exact HB.out))) : w.heap.size ≤ gb437)); have GE437 := Aside0.mk ((by rw [hg]; exact (below_size (by repeat (first | (with_reducible first | exact HB.out | apply below_alloc | apply pw_below_drewN | apply below_drew1 | refine below_set ?_ (IsS68.ge HI429.out) | refine below_set ?_ GE425.out | refine below_set ?_ GE426.out) | exact HB.out))) : w.heap.size ≤ gb437)); replace HB := Aside0.mk (below_step (by repeat (first | (with_reducible first | exact HB.out | apply below_alloc | apply pw_below_drewN | apply below_drew1 | refine below_set ?_ (IsS68.ge HI429.out) | refine below_set ?_ GE425.out | refine below_set ?_ GE426.out) | exact HB.out)) hb); have NB425_437 := nL BK425 hg; have NB437_425 := nG BK425 hg; replace BK425 := kB BK425 hb; have NB426_437 := nL BK426 hg; have NB437_426 := nG BK426 hg; replace BK426 := kB BK426 hb; have NB429_437 := Aside0.mk ((by rw [hg]; exact Nat.ne_of_lt (IsS68.lt (show IsS68 w _ g429 t427 t436 from by repeat (first | (with_reducible first | exact HI429.out | apply IsS68.alloc | apply IsS68.drewN | apply IsS68.drew | apply IsS68.set_1 | refine IsS68.far ?_ NB429_425.out _ | refine IsS68.far ?_ NB429_426.out _) | exact HI429.out))) : g429 ≠ gb437)); have NB437_429 := Aside0.mk ((by rw [hg]; exact Nat.ne_of_gt (IsS68.lt (show IsS68 w _ g429 t427 t436 from by repeat (first | (with_reducible first | exact HI429.out | apply IsS68.alloc | apply IsS68.drewN | apply IsS68.drew | apply IsS68.set_1 | refine IsS68.far ?_ NB429_425.out _ | refine IsS68.far ?_ NB429_426.out _) | exact HI429.out))) : gb437 ≠ g429)); replace HI429 := Aside0.mk (IsS68.below (by repeat (first | (with_reducible first | exact HI429.out | apply IsS68.alloc | apply IsS68.drewN | apply IsS68.drew | apply IsS68.set_1 | refine IsS68.far ?_ NB429_425.out _ | refine IsS68.far ?_ NB429_426.out _) | exact HI429.out)) hb); clear hb hbox hg; obtain ⟨Ao10, co10, eo10, _⟩ := Kd.Q_slice HO432.out; subst eo10; have hnb11 := NB437_425.out; have hnc11 := NB425_437.out; have hnb12 := NB437_426.out; have hnc12 := NB426_437.out; have hnb13 := NB437_429.out; have hnc13 := NB429_437.out; have hcz14_0 := zc0 BK437; have hcz14_1 := zc1 BK437; have hfz14_0 := blk_frozen BK437.out 0; have hfz14_1 := blk_frozen BK437.out 1; obtain ⟨Ao15, co15, eo15⟩ := Kd.R_slice HO435.out; subst eo15))
 (try simp only [Act.put, List.setIfInBounds_toArray, List.set_cons_zero, List.set_cons_succ])
 go_cut [16] (fun v16 wc => ∃ (kq : Nat) (x16_3 : Bool) (x430001_3 : Int), v16 = .bool x16_3 ∧ Aside0 (spec_DrawMapSame.j0 kq x16_3 t427 x430001_3 t430 t433 = some (r1, r2, r3, r4)) ∧ Aside0 (kq ≤ k) ∧ Aside0 (Kd.Q (Kd.int .i64) 3 wc w.heap.size (fun k_ => some k_ ≠ ((.slice Ao15 t433.length co15) : Value).ownBlock) (.slice Ao10 t430.length co10) t430) ∧ Aside0 (Kd.R (Kd.int .i64) 3 wc w.heap.size (fun k_ => some k_ ≠ ((.slice Ao10 t430.length co10) : Value).ownBlock) (.slice Ao15 t433.length co15) t433) ∧ Aside0 (wc.heap[gb425]? = some (.cells #[(.slice none 0 0), (.slice none 0 0)] 40 (0, 0))) ∧ Aside0 (wc.heap[gb426]? = some (.cells #[(.slice none 0 0), (.slice none 0 0)] 40 (0, 0))) ∧ Aside0 (wc.heap[gb437]? = some (.cells #[(.slice Ao10 t430.length co10), (.slice Ao15 t433.length co15)] 40 (0, 0))) ∧ Aside0 (IsS68 w wc g429 t427 x430001_3) ∧ Aside0 (Below w.heap.size w wc))
 case first =>
  have H := HC4.out
  clear HC4
  obtain ⟨⟨t438, t439⟩, A160, H⟩ := Option.bind_eq_some_iff.mp H
  dsimp only at H
  have A16 := Aside0.mk A160
  clear A160
  by_cases c17 : t438 > 0
  case neg =>
   rw [if_neg c17] at H
   have c17b0 : decide (0 < t438) = false := decide_eq_false c17
   clear c17
   (first | rw [c17b0] | (simp only [i64_w, i32_w]; rw [c17b0]) | skip)
   have H' := Aside0.mk H
   clear H
   go_wp2_with (first | ((with_reducible refine gate_callee (f := 62) rfl ?_); refine gL (some 11) Try.func62 #[.pointer (some ⟨g429, 0, none⟩), .int .i64 3] ?_; (with_reducible refine (spec_l6Rd_pick.calls k g429 t427 t436 3 t438 t439 w _ ?side1 ?side2 A16.out).mono ?_); (case side1 => repeat (first | (with_reducible first | exact HI429.out | apply IsS68.alloc | apply IsS68.drewN | apply IsS68.drew | apply IsS68.set_1 | refine IsS68.far ?_ NB429_425.out _ | refine IsS68.far ?_ NB429_426.out _ | refine IsS68.far ?_ NB429_437.out _) | exact HI429.out)); (case side2 => repeat (first | (with_reducible first | exact HB.out | apply below_alloc | apply pw_below_drewN | apply below_drew1 | refine below_set ?_ (IsS68.ge HI429.out) | refine below_set ?_ GE425.out | refine below_set ?_ GE426.out | refine below_set ?_ GE437.out) | exact HB.out)); rintro e w25 ⟨rfl, hi, hb, hk⟩; refine ⟨_, rfl, ?_⟩; replace BK425 := Aside0.mk (KeepBut.blk hk (g' := gb425) (o := .cells #[.slice none 0 0, .slice none 0 0] 40 (0, 0)) (kF BK425) NB425_429.out (by simp)); replace BK426 := Aside0.mk (KeepBut.blk hk (g' := gb426) (o := .cells #[.slice none 0 0, .slice none 0 0] 40 (0, 0)) (kF BK426) NB426_429.out (by simp)); replace HO432 := Aside0.mk (Kd.Q_mono (Kd.Q_keep (IsS68.apartQ (show IsS68 w _ g429 t427 t436 from by repeat (first | (with_reducible first | exact HI429.out | apply IsS68.alloc | apply IsS68.drewN | apply IsS68.drew | apply IsS68.set_1 | refine IsS68.far ?_ NB429_425.out _ | refine IsS68.far ?_ NB429_426.out _ | refine IsS68.far ?_ NB429_437.out _) | exact HI429.out)) (qT (Kd.Q_mono (qF gb437 1 (qF gb437 0 (Kd.Q_types HO432.out BK437.out (by decide)) (.slice Ao10 t430.length co10)) (.slice Ao15 t433.length co15)) (fun _ h_ => h_.1))) (by decide)) hk (fun _ h => h.2)) (fun _ h => h.1)); replace HO435 := Aside0.mk (Kd.R_mono (Kd.R_keep (IsS68.apart (show IsS68 w _ g429 t427 t436 from by repeat (first | (with_reducible first | exact HI429.out | apply IsS68.alloc | apply IsS68.drewN | apply IsS68.drew | apply IsS68.set_1 | refine IsS68.far ?_ NB429_425.out _ | refine IsS68.far ?_ NB429_426.out _ | refine IsS68.far ?_ NB429_437.out _) | exact HI429.out)) (rT (Kd.R_mono (rF gb437 1 (rF gb437 0 (rY HO435 BK437) (.slice Ao10 t430.length co10)) (.slice Ao15 t433.length co15)) (fun _ h_ => h_.1))) (by decide)) hk (fun _ h => h.2)) (fun _ h => h.1)); replace BK437 := Aside0.mk (KeepBut.blk hk (g' := gb437) (o := .cells #[.slice Ao10 t430.length co10, .slice Ao15 t433.length co15] 40 (0, 0)) (by (with_reducible repeat (first | refine blk_drewN ?_ _ | refine blk_drew ?_ | refine blk_alloc ?_ _)); refine blk_put (cs := #[.slice Ao10 t430.length co10, .slice none 0 0]) ?_ 1 _ rfl; (with_reducible repeat (first | refine blk_drewN ?_ _ | refine blk_drew ?_ | refine blk_alloc ?_ _)); refine blk_put (cs := #[.slice none 0 0, .slice none 0 0]) ?_ 0 _ rfl; (with_reducible repeat (first | refine blk_drewN ?_ _ | refine blk_drew ?_ | refine blk_alloc ?_ _)); exact BK437.out) NB437_429.out (by simp)); replace HB := Aside0.mk (hb); replace HI429 := Aside0.mk (hi); (try clear hb); (try clear hb2); (try clear hk); (try clear hi)))
   go_meet
   case rel => exact ⟨_, (false), (t439), eS, H', ⟨by first | omega | exact Nat.le_refl _⟩, ⟨qP HO432⟩, ⟨rP HO435⟩, ⟨kP BK425⟩, ⟨kP BK426⟩, ⟨kP BK437⟩, ⟨by repeat (first | (with_reducible first | exact HI429.out | apply IsS68.alloc | apply IsS68.drewN | apply IsS68.drew | apply IsS68.set_1 | refine IsS68.far ?_ NB429_425.out _ | refine IsS68.far ?_ NB429_426.out _ | refine IsS68.far ?_ NB429_437.out _) | exact HI429.out)⟩, ⟨by repeat (first | (with_reducible first | exact HB.out | apply below_alloc | apply pw_below_drewN | apply below_drew1 | refine below_set ?_ (IsS68.ge HI429.out) | refine below_set ?_ GE425.out | refine below_set ?_ GE426.out | refine below_set ?_ GE437.out) | exact HB.out)⟩⟩
  rw [if_pos c17] at H
  have c17b0 : decide (0 < t438) = true := decide_eq_true c17
  clear c17
  (first | rw [c17b0] | (simp only [i64_w, i32_w]; rw [c17b0]) | skip)
  obtain ⟨t440, A180, H⟩ := Option.bind_eq_some_iff.mp H
  have A18 := Aside0.mk A180
  clear A180
  have H' := Aside0.mk H
  clear H
  go_wp2_with (first | ((with_reducible refine gate_callee (f := 62) rfl ?_); refine gL (some 11) Try.func62 #[.pointer (some ⟨g429, 0, none⟩), .int .i64 3] ?_; (with_reducible refine (spec_l6Rd_pick.calls k g429 t427 t436 3 t438 t439 w _ ?side1 ?side2 A16.out).mono ?_); (case side1 => repeat (first | (with_reducible first | exact HI429.out | apply IsS68.alloc | apply IsS68.drewN | apply IsS68.drew | apply IsS68.set_1 | refine IsS68.far ?_ NB429_425.out _ | refine IsS68.far ?_ NB429_426.out _ | refine IsS68.far ?_ NB429_437.out _) | exact HI429.out)); (case side2 => repeat (first | (with_reducible first | exact HB.out | apply below_alloc | apply pw_below_drewN | apply below_drew1 | refine below_set ?_ (IsS68.ge HI429.out) | refine below_set ?_ GE425.out | refine below_set ?_ GE426.out | refine below_set ?_ GE437.out) | exact HB.out)); rintro e w19 ⟨rfl, hi, hb, hk⟩; refine ⟨_, rfl, ?_⟩; replace BK425 := Aside0.mk (KeepBut.blk hk (g' := gb425) (o := .cells #[.slice none 0 0, .slice none 0 0] 40 (0, 0)) (kF BK425) NB425_429.out (by simp)); replace BK426 := Aside0.mk (KeepBut.blk hk (g' := gb426) (o := .cells #[.slice none 0 0, .slice none 0 0] 40 (0, 0)) (kF BK426) NB426_429.out (by simp)); replace HO432 := Aside0.mk (Kd.Q_mono (Kd.Q_keep (IsS68.apartQ (show IsS68 w _ g429 t427 t436 from by repeat (first | (with_reducible first | exact HI429.out | apply IsS68.alloc | apply IsS68.drewN | apply IsS68.drew | apply IsS68.set_1 | refine IsS68.far ?_ NB429_425.out _ | refine IsS68.far ?_ NB429_426.out _ | refine IsS68.far ?_ NB429_437.out _) | exact HI429.out)) (qT (Kd.Q_mono (qF gb437 1 (qF gb437 0 (Kd.Q_types HO432.out BK437.out (by decide)) (.slice Ao10 t430.length co10)) (.slice Ao15 t433.length co15)) (fun _ h_ => h_.1))) (by decide)) hk (fun _ h => h.2)) (fun _ h => h.1)); replace HO435 := Aside0.mk (Kd.R_mono (Kd.R_keep (IsS68.apart (show IsS68 w _ g429 t427 t436 from by repeat (first | (with_reducible first | exact HI429.out | apply IsS68.alloc | apply IsS68.drewN | apply IsS68.drew | apply IsS68.set_1 | refine IsS68.far ?_ NB429_425.out _ | refine IsS68.far ?_ NB429_426.out _ | refine IsS68.far ?_ NB429_437.out _) | exact HI429.out)) (rT (Kd.R_mono (rF gb437 1 (rF gb437 0 (rY HO435 BK437) (.slice Ao10 t430.length co10)) (.slice Ao15 t433.length co15)) (fun _ h_ => h_.1))) (by decide)) hk (fun _ h => h.2)) (fun _ h => h.1)); replace BK437 := Aside0.mk (KeepBut.blk hk (g' := gb437) (o := .cells #[.slice Ao10 t430.length co10, .slice Ao15 t433.length co15] 40 (0, 0)) (by (with_reducible repeat (first | refine blk_drewN ?_ _ | refine blk_drew ?_ | refine blk_alloc ?_ _)); refine blk_put (cs := #[.slice Ao10 t430.length co10, .slice none 0 0]) ?_ 1 _ rfl; (with_reducible repeat (first | refine blk_drewN ?_ _ | refine blk_drew ?_ | refine blk_alloc ?_ _)); refine blk_put (cs := #[.slice none 0 0, .slice none 0 0]) ?_ 0 _ rfl; (with_reducible repeat (first | refine blk_drewN ?_ _ | refine blk_drew ?_ | refine blk_alloc ?_ _)); exact BK437.out) NB437_429.out (by simp)); replace HB := Aside0.mk (hb); replace HI429 := Aside0.mk (hi); (try clear hb); (try clear hb2); (try clear hk); (try clear hi); have hnb20 := NB437_425.out; have hnc20 := NB425_437.out; have hnb21 := NB437_426.out; have hnc21 := NB426_437.out; have hnb22 := NB437_429.out; have hnc22 := NB429_437.out; have hcz23_0 := zc0 BK437; have hcz23_1 := zc1 BK437; have hfz23_0 := blk_frozen BK437.out 0; have hfz23_1 := blk_frozen BK437.out 1) | (go_at_call 57; (with_reducible refine (spec_MapValid.calls k _ _ t430 _ _ t433 t440 _ ?side1 ?side2 ?side3 ?side4 A18.out).mono ?_); (case side1 => exact cP (Kd.Q_reads' HO432.out).2.2); (case side2 => exact (Kd.Q_reads' HO432.out).2.1); (case side3 => exact cP (Kd.R_reads' HO435.out).2.2); (case side4 => exact (Kd.R_reads' HO435.out).2.1); rintro e w24 ⟨rfl, hb⟩; replace HO432 := Aside0.mk (Kd.Q_below (qP HO432) hb); replace HO435 := rB HO435 hb; replace BK425 := kB BK425 hb; replace BK426 := kB BK426 hb; replace BK437 := kB BK437 hb; replace HB := Aside0.mk (below_step (by repeat (first | (with_reducible first | exact HB.out | apply below_alloc | apply pw_below_drewN | apply below_drew1 | refine below_set ?_ (IsS68.ge HI429.out) | refine below_set ?_ GE425.out | refine below_set ?_ GE426.out | refine below_set ?_ GE437.out) | exact HB.out)) hb); replace HI429 := Aside0.mk (IsS68.below (by repeat (first | (with_reducible first | exact HI429.out | apply IsS68.alloc | apply IsS68.drewN | apply IsS68.drew | apply IsS68.set_1 | refine IsS68.far ?_ NB429_425.out _ | refine IsS68.far ?_ NB429_426.out _ | refine IsS68.far ?_ NB429_437.out _) | exact HI429.out)) hb); (try clear hb); (try clear hb2); (try clear hk); (try clear hi)))
  go_meet
  case rel => exact ⟨_, (t440), (t439), eS, H', ⟨by first | omega | exact Nat.le_refl _⟩, ⟨qP HO432⟩, ⟨rP HO435⟩, ⟨kP BK425⟩, ⟨kP BK426⟩, ⟨kP BK437⟩, ⟨by repeat (first | (with_reducible first | exact HI429.out | apply IsS68.alloc | apply IsS68.drewN | apply IsS68.drew | apply IsS68.set_1 | refine IsS68.far ?_ NB429_425.out _ | refine IsS68.far ?_ NB429_426.out _ | refine IsS68.far ?_ NB429_437.out _) | exact HI429.out)⟩, ⟨by repeat (first | (with_reducible first | exact HB.out | apply below_alloc | apply pw_below_drewN | apply below_drew1 | refine below_set ?_ (IsS68.ge HI429.out) | refine below_set ?_ GE425.out | refine below_set ?_ GE426.out | refine below_set ?_ GE437.out) | exact HB.out)⟩⟩
 case rest =>
  clear HC4
  try clear c1
  try clear c2
  try clear p2
  try clear c3
  try clear c4
  try clear c5
  try clear c6
  try clear c11
  try clear c12
  try clear c13
  try clear c17
  try clear c17b0
  try clear c20
  try clear c21
  try clear c22
  try clear hcz14_0
  try clear hcz14_1
  try clear hcz23_0
  try clear hcz23_1
  try clear hfz14_0
  try clear hfz14_1
  try clear hfz23_0
  try clear hfz23_1
  obtain ⟨kq, x16_3, x430001_3, rfl, HA, HJ3, HO_438000, HO_438001, BK425, BK426, BK437, HI429, HB⟩ := hcut
  cases kq with
  | zero => exact absurd HA.out (by simp [spec_DrawMapSame.j0])
  | succ kj3 =>
   have H := HA.out
   clear HA
   simp only [spec_DrawMapSame.j0] at H
   by_cases c26 : x16_3 = true
   ·subst c26
    rw [if_pos rfl] at H
    obtain ⟨⟨t441, t444⟩, A270, H⟩ := Option.bind_eq_some_iff.mp H
    dsimp only at H
    have A27 := Aside0.mk A270
    clear A270
    obtain ⟨⟨t445, t448⟩, A280, H⟩ := Option.bind_eq_some_iff.mp H
    dsimp only at H
    have A28 := Aside0.mk A280
    clear A280
    simp only [Option.some.injEq, Prod.mk.injEq] at H
    obtain ⟨rfl, rfl, rfl, rfl⟩ := H
    try go_wp2
    replace HO_438000 := Aside0.mk (Kd.Q_drew HO_438000.out)
    replace HO_438001 := Aside0.mk (Kd.R_drew HO_438001.out)
    replace BK425 := Aside0.mk (blk_drew BK425.out)
    replace BK426 := Aside0.mk (blk_drew BK426.out)
    replace BK437 := Aside0.mk (blk_drew BK437.out)
    replace HI429 := Aside0.mk (IsS68.drew HI429.out)
    replace HB := Aside0.mk (below_drew1 HB.out)
    refine start_ (n := 10) (S := fun w' => w'.cell? ⟨gb437, 0, none⟩ = some (.slice Ao10 t430.length co10) ∧ w'.cell? ⟨gb437, 1, none⟩ = some (.slice Ao15 t433.length co15)) (ds := []) (tf 0 10) (by kernel_rfl) rfl rfl ⟨(blk_cell BK437.out 0).trans rfl, (blk_cell BK437.out 1).trans rfl⟩ (fun hHeld => ?_); refine with_tabW spec_DrawMapSame.tab4 spec_DrawMapSame.bits4 (fun HT_ HW_ => ?_)
    generalize wc.drew = w29 at HO_438000 HO_438001 BK425 BK426 BK437 HI429 HB hHeld ⊢
    refine pV 2 19 (tB 10 4) HT_ ?_
    refine pV 3 20 (tB 10 12) HT_ ?_
    refine tV 0 17 (tB 10 13) HT_ HW_ hHeld ?_
    refine tV 1 18 (tf 4 6) HT_ HW_ hHeld ?_
    refine tV 4 21 (tf 5 5) HT_ HW_ hHeld ?_
    refine pV 5 22 (tf 6 4) HT_ ?_
    refine eN 6 (some 23) (tf 7 3) HT_ (fun K hK => ?_)
    refine goes_ Try.func64 (by kernel_rfl) rfl #[.pointer (some ⟨g429, 0, none⟩), .int .i64 (t430.length : Int)] (by rfl) rfl rfl (by (try simp only [List.map_toArray, List.map_cons, List.map_nil]); first | done | rfl | (simp only [List.length_drop, List.length_take]; rfl)) ?_
    with_reducible refine (spec_l91Perm.calls kj3 g429 t427 x430001_3 (t430.length : Int) t441 t444 w _ ?side1 ?side2 A27.out).mono ?_
    (case side1 => repeat (first | (with_reducible first | exact HI429.out | apply IsS68.alloc | apply IsS68.drewN | apply IsS68.drew | apply IsS68.set_1 | refine IsS68.far ?_ NB429_425.out _ | refine IsS68.far ?_ NB429_426.out _ | refine IsS68.far ?_ NB429_437.out _) | exact HI429.out))
    (case side2 => repeat (first | (with_reducible first | exact HB.out | apply below_alloc | apply pw_below_drewN | apply below_drew1 | refine below_set ?_ (IsS68.ge HI429.out) | refine below_set ?_ GE425.out | refine below_set ?_ GE426.out | refine below_set ?_ GE437.out) | exact HB.out))
    rintro e w30 ⟨v442, rfl, ho0, hi, hb, hk⟩
    refine ⟨_, rfl, ?_⟩
    replace BK425 := Aside0.mk (KeepBut.blk hk (g' := gb425) (o := .cells #[.slice none 0 0, .slice none 0 0] 40 (0, 0)) (kP BK425) NB425_429.out (by simp))
    replace BK426 := Aside0.mk (KeepBut.blk hk (g' := gb426) (o := .cells #[.slice none 0 0, .slice none 0 0] 40 (0, 0)) (kP BK426) NB426_429.out (by simp))
    replace BK437 := Aside0.mk (KeepBut.blk hk (g' := gb437) (o := .cells #[.slice Ao10 t430.length co10, .slice Ao15 t433.length co15] 40 (0, 0)) (kP BK437) NB437_429.out (by simp))
    have HO443 := Aside0.mk (Kd.R_lower (Kd.R_new' (Kd.R_new' ho0 (Kd.Q_lt (qP HO_438000))) (Kd.R_lt (rP HO_438001))) (below_size (by repeat (first | (with_reducible first | exact HB.out | apply below_alloc | apply pw_below_drewN | apply below_drew1 | refine below_set ?_ (IsS68.ge HI429.out) | refine below_set ?_ GE425.out | refine below_set ?_ GE426.out | refine below_set ?_ GE437.out) | exact HB.out))))
    replace HO_438000 := Aside0.mk (Kd.Q_mono (Kd.Q_told (Kd.Q_oldK (IsS68.apartQ (show IsS68 w _ g429 t427 x430001_3 from by repeat (first | (with_reducible first | exact HI429.out | apply IsS68.alloc | apply IsS68.drewN | apply IsS68.drew | apply IsS68.set_1 | refine IsS68.far ?_ NB429_425.out _ | refine IsS68.far ?_ NB429_426.out _ | refine IsS68.far ?_ NB429_437.out _) | exact HI429.out)) (qP HO_438000) (by decide)) hk) (Kd.R_base ho0)) (fun _ h_ => h_.1))
    replace HO_438001 := Aside0.mk (Kd.R_mono (Kd.R_told (Kd.R_oldK (IsS68.apart (show IsS68 w _ g429 t427 x430001_3 from by repeat (first | (with_reducible first | exact HI429.out | apply IsS68.alloc | apply IsS68.drewN | apply IsS68.drew | apply IsS68.set_1 | refine IsS68.far ?_ NB429_425.out _ | refine IsS68.far ?_ NB429_426.out _ | refine IsS68.far ?_ NB429_437.out _) | exact HI429.out)) (rP HO_438001) (by decide)) hk) (Kd.R_base ho0)) (fun _ h_ => h_.1))
    replace HB := Aside0.mk (hb)
    replace HI429 := Aside0.mk (hi)
    (try clear hb)
    (try clear hb2)
    (try clear hk)
    (try clear hi)
    (try clear ho0)
    obtain ⟨Ao31, co31, eo31⟩ := Kd.R_slice HO443.out
    (first | subst eo31 | (injection eo31 with f1_ f2_ f3_; have f4_ := f1_.symm; have f5_ := f3_.symm; clear f1_ f2_ f3_; subst f4_; subst f5_))
    refine hK.out _ _ ⟨(blk_cell BK437.out 0).trans rfl, (blk_cell BK437.out 1).trans rfl⟩ (fun hHeld => ?_)
    clear hK K
    refine norm_ (a' := ?_) ?_ ?_
    rotate_left
    ·show Act.put _ (some 23) _ = _
     simp only [Act.put, List.setIfInBounds_toArray, List.set_cons_zero, List.set_cons_succ, i64_w, i32_w]
     rfl
    refine eN 7 (some 24) (tf 8 2) HT_ (fun K hK => ?_)
    refine goes_ Try.func63 (by kernel_rfl) rfl #[.agg #[.slice Ao10 t430.length co10, .slice Ao15 t433.length co15], .slice Ao31 t441.length co31] (by rfl) rfl rfl (by (try simp only [List.map_toArray, List.map_cons, List.map_nil]); first | done | rfl | (simp only [List.length_drop, List.length_take]; rfl)) ?_
    with_reducible refine (spec_l2Rename.calls kj3 _ _ t430 _ _ t433 _ _ t441 t445 t448 _ ?side1 ?side2 ?side3 ?side4 ?side5 ?side6 A28.out).mono ?_
    (case side1 => exact cP (Kd.Q_reads' HO_438000.out).2.2)
    (case side2 => exact (Kd.Q_reads' HO_438000.out).2.1)
    (case side3 => exact cP (Kd.R_reads' HO_438001.out).2.2)
    (case side4 => exact (Kd.R_reads' HO_438001.out).2.1)
    (case side5 => exact cP (Kd.R_reads' HO443.out).2.2)
    (case side6 => exact (Kd.R_reads' HO443.out).2.1)
    rintro e w32 ⟨v446, v449, rfl, ho0, ho1, hb⟩
    refine ⟨_, rfl, ?_⟩
    have HO447 := Aside0.mk (Kd.R_lower (Kd.R_new' (Kd.R_new' (Kd.R_new' ho0 (Kd.Q_lt (qP HO_438000))) (Kd.R_lt (rP HO_438001))) (Kd.R_lt (rP HO443))) (below_size (by repeat (first | (with_reducible first | exact HB.out | apply below_alloc | apply pw_below_drewN | apply below_drew1 | refine below_set ?_ (IsS68.ge HI429.out) | refine below_set ?_ GE425.out | refine below_set ?_ GE426.out | refine below_set ?_ GE437.out) | exact HB.out))))
    have HO450 := Aside0.mk (Kd.R_lower (Kd.R_new' (Kd.R_new' (Kd.R_new' ho1 (Kd.Q_lt (qP HO_438000))) (Kd.R_lt (rP HO_438001))) (Kd.R_lt (rP HO443))) (below_size (by repeat (first | (with_reducible first | exact HB.out | apply below_alloc | apply pw_below_drewN | apply below_drew1 | refine below_set ?_ (IsS68.ge HI429.out) | refine below_set ?_ GE425.out | refine below_set ?_ GE426.out | refine below_set ?_ GE437.out) | exact HB.out))))
    replace HO_438000 := Aside0.mk (Kd.Q_mono (Kd.Q_told (Kd.Q_told (Kd.Q_old (qP HO_438000) hb) (Kd.R_base ho0)) (Kd.R_base ho1)) (fun _ h_ => h_.1))
    replace HO_438001 := Aside0.mk (Kd.R_mono (Kd.R_told (Kd.R_told (Kd.R_old (rP HO_438001) hb) (Kd.R_base ho0)) (Kd.R_base ho1)) (fun _ h_ => h_.1))
    replace HO443 := Aside0.mk (Kd.R_mono (Kd.R_told (Kd.R_told (Kd.R_old (rP HO443) hb) (Kd.R_base ho0)) (Kd.R_base ho1)) (fun _ h_ => h_.1))
    replace BK425 := kB BK425 hb
    replace BK426 := kB BK426 hb
    replace BK437 := kB BK437 hb
    replace HB := Aside0.mk (below_step (by repeat (first | (with_reducible first | exact HB.out | apply below_alloc | apply pw_below_drewN | apply below_drew1 | refine below_set ?_ (IsS68.ge HI429.out) | refine below_set ?_ GE425.out | refine below_set ?_ GE426.out | refine below_set ?_ GE437.out) | exact HB.out)) hb)
    replace HI429 := Aside0.mk (IsS68.below (by repeat (first | (with_reducible first | exact HI429.out | apply IsS68.alloc | apply IsS68.drewN | apply IsS68.drew | apply IsS68.set_1 | refine IsS68.far ?_ NB429_425.out _ | refine IsS68.far ?_ NB429_426.out _ | refine IsS68.far ?_ NB429_437.out _) | exact HI429.out)) hb)
    (try clear hb)
    (try clear hb2)
    (try clear hk)
    (try clear hi)
    (try clear ho0)
    (try clear ho1)
    obtain ⟨Ao35, co35, eo35⟩ := Kd.R_slice HO447.out
    (first | subst eo35 | (injection eo35 with f1_ f2_ f3_; have f4_ := f1_.symm; have f5_ := f3_.symm; clear f1_ f2_ f3_; subst f4_; subst f5_))
    obtain ⟨Ao37, co37, eo37⟩ := Kd.R_slice HO450.out
    (first | subst eo37 | (injection eo37 with f1_ f2_ f3_; have f4_ := f1_.symm; have f5_ := f3_.symm; clear f1_ f2_ f3_; subst f4_; subst f5_))
    refine hK.out _ _ ⟨(blk_cell BK437.out 0).trans rfl, (blk_cell BK437.out 1).trans rfl⟩ (fun hHeld => ?_)
    clear hK K
    refine norm_ (a' := ?_) ?_ ?_
    rotate_left
    ·show Act.put _ (some 24) _ = _
     simp only [Act.put, List.setIfInBounds_toArray, List.set_cons_zero, List.set_cons_succ, i64_w, i32_w]
     rfl
    refine eN 8 none (tf 9 1) HT_ (fun K hK => ?_)
    have hs33 : w32.cell? ⟨gb425, 0, none⟩ = some (.slice none 0 0) := (blk_cell BK425.out 0).trans rfl
    have hfs33 := blk_frozen BK425.out 0
    have hns33_1 := NB426_425.out
    have hns33_2 := NB437_425.out
    have hms33_1 := NB425_426.out
    have hms33_2 := NB425_437.out
    have hs34 : w32.cell? ⟨gb425, 1, none⟩ = some (.slice none 0 0) := (blk_cell BK425.out 1).trans rfl
    have hfs34 := blk_frozen BK425.out 1
    have hns34_1 := NB426_425.out
    have hns34_2 := NB437_425.out
    have hms34_1 := NB425_426.out
    have hms34_2 := NB425_437.out
    refine skip_ (w1 := ?_) (by rfl) rfl ?_ ?_
    rotate_left
    ·go_simp
     rfl
    refine hK.out _ _ ⟨((cell_far (p := ⟨gb425, _, none⟩) NB437_425.out _).trans (((cell_far (p := ⟨gb425, _, none⟩) NB437_425.out _).trans (hHeld.1)))), ((cell_far (p := ⟨gb425, _, none⟩) NB437_425.out _).trans (((cell_far (p := ⟨gb425, _, none⟩) NB437_425.out _).trans (hHeld.2))))⟩ (fun hHeld => ?_)
    clear hK K
    refine eN 9 none (tf 10 0) HT_ (fun K hK => ?_)
    have hs36 : w32.cell? ⟨gb426, 0, none⟩ = some (.slice none 0 0) := (blk_cell BK426.out 0).trans rfl
    have hfs36 := blk_frozen BK426.out 0
    have hns36_0 := NB425_426.out
    have hns36_2 := NB437_426.out
    have hms36_0 := NB426_425.out
    have hms36_2 := NB426_437.out
    have hs38 : w32.cell? ⟨gb426, 1, none⟩ = some (.slice none 0 0) := (blk_cell BK426.out 1).trans rfl
    have hfs38 := blk_frozen BK426.out 1
    have hns38_0 := NB425_426.out
    have hns38_2 := NB437_426.out
    have hms38_0 := NB426_425.out
    have hms38_2 := NB426_437.out
    refine skip_ (w1 := ?_) (by rfl) rfl ?_ ?_
    rotate_left
    ·go_simp
     rfl
    refine hK.out _ _ ⟨((cell_far (p := ⟨gb426, _, none⟩) NB437_426.out _).trans (((cell_far (p := ⟨gb426, _, none⟩) NB437_426.out _).trans (hHeld.1)))), ((cell_far (p := ⟨gb426, _, none⟩) NB437_426.out _).trans (((cell_far (p := ⟨gb426, _, none⟩) NB437_426.out _).trans (hHeld.2))))⟩ (fun hHeld => ?_)
    clear hK K
    refine done_ (done_of HT_.out (by kernel_rfl)) ?_
    try go_wp2
    refine bodyPost_ret (results_cc rfl _ _ gb425 gb426 40 40 #[.slice Ao10 t430.length co10, .slice Ao15 t433.length co15] #[.slice Ao35 t445.length co35, .slice Ao37 t448.length co37] (0, 0) (0, 0) _ _ rfl (by (with_reducible repeat (first | refine blk_drewN ?_ _ | refine blk_drew ?_ | refine blk_alloc ?_ _)); refine blk_far ?_ NB425_426.out _; (with_reducible repeat (first | refine blk_drewN ?_ _ | refine blk_drew ?_ | refine blk_alloc ?_ _)); refine blk_far ?_ NB425_426.out _; (with_reducible repeat (first | refine blk_drewN ?_ _ | refine blk_drew ?_ | refine blk_alloc ?_ _)); refine blk_put (cs := #[.slice Ao10 t430.length co10, .slice none 0 0]) ?_ 1 _ rfl; (with_reducible repeat (first | refine blk_drewN ?_ _ | refine blk_drew ?_ | refine blk_alloc ?_ _)); refine blk_put (cs := #[.slice none 0 0, .slice none 0 0]) ?_ 0 _ rfl; (with_reducible repeat (first | refine blk_drewN ?_ _ | refine blk_drew ?_ | refine blk_alloc ?_ _)); exact BK425.out) Try.underlying40 rfl (by kernel_rfl) rfl (by (with_reducible repeat (first | refine blk_drewN ?_ _ | refine blk_drew ?_ | refine blk_alloc ?_ _)); refine blk_put (cs := #[.slice Ao35 t445.length co35, .slice none 0 0]) ?_ 1 _ rfl; (with_reducible repeat (first | refine blk_drewN ?_ _ | refine blk_drew ?_ | refine blk_alloc ?_ _)); refine blk_put (cs := #[.slice none 0 0, .slice none 0 0]) ?_ 0 _ rfl; (with_reducible repeat (first | refine blk_drewN ?_ _ | refine blk_drew ?_ | refine blk_alloc ?_ _)); refine blk_far ?_ NB426_425.out _; (with_reducible repeat (first | refine blk_drewN ?_ _ | refine blk_drew ?_ | refine blk_alloc ?_ _)); refine blk_far ?_ NB426_425.out _; (with_reducible repeat (first | refine blk_drewN ?_ _ | refine blk_drew ?_ | refine blk_alloc ?_ _)); exact BK426.out) Try.underlying40 rfl (by kernel_rfl)) rfl ?_
    exact ⟨_, _, _, _, eR, qT (Kd.Q_mono (qF gb426 1 (qF gb426 0 (Kd.Q_far (p := ⟨gb425, 1, none⟩) (Kd.Q_far (p := ⟨gb425, 0, none⟩) (Kd.Q_types (Kd.Q_types HO_438000.out BK425.out (by decide)) BK426.out (by decide)) (fun _ hk => hk.1.2) (.slice Ao10 t430.length co10)) (fun _ hk => hk.1.2) (.slice Ao15 t433.length co15)) (.slice Ao35 t445.length co35)) (.slice Ao37 t448.length co37)) (fun _ hk => ⟨hk.1.1.1.1.1, ⟨hk.1.1.1.2, hk.1.1.2⟩⟩)), rT (Kd.R_mono (rF gb426 1 (rF gb426 0 (Kd.R_far (p := ⟨gb425, 1, none⟩) (Kd.R_far (p := ⟨gb425, 0, none⟩) (Kd.R_types (rY HO_438001 BK425) BK426.out (by decide)) (fun _ hk => hk.1.2) (.slice Ao10 t430.length co10)) (fun _ hk => hk.1.2) (.slice Ao15 t433.length co15)) (.slice Ao35 t445.length co35)) (.slice Ao37 t448.length co37)) (fun _ hk => ⟨hk.1.1.1.1.1, ⟨hk.1.1.1.2, hk.1.1.2⟩⟩)), Kd.Q_of_R (rT (Kd.R_mono (rF gb426 1 (rF gb426 0 (Kd.R_far (p := ⟨gb425, 1, none⟩) (Kd.R_far (p := ⟨gb425, 0, none⟩) (Kd.R_types (rY HO447 BK425) BK426.out (by decide)) (fun _ hk => hk.1.2) (.slice Ao10 t430.length co10)) (fun _ hk => hk.1.2) (.slice Ao15 t433.length co15)) (.slice Ao35 t445.length co35)) (.slice Ao37 t448.length co37)) (fun _ hk => ⟨hk.1.1.1.1.2, ⟨hk.1.1.1.2, hk.1.1.1.1.1⟩⟩))), rT (Kd.R_mono (rF gb426 1 (rF gb426 0 (Kd.R_far (p := ⟨gb425, 1, none⟩) (Kd.R_far (p := ⟨gb425, 0, none⟩) (Kd.R_types (rY HO450 BK425) BK426.out (by decide)) (fun _ hk => hk.1.2) (.slice Ao10 t430.length co10)) (fun _ hk => hk.1.2) (.slice Ao15 t433.length co15)) (.slice Ao35 t445.length co35)) (.slice Ao37 t448.length co37)) (fun _ hk => ⟨hk.1.1.1.1.2, ⟨hk.1.1.1.2, hk.1.1.1.1.1⟩⟩)), by repeat (first | (with_reducible first | exact HB.out | apply below_alloc | apply pw_below_drewN | apply below_drew1 | refine below_set ?_ (IsS68.ge HI429.out) | refine below_set ?_ GE425.out | refine below_set ?_ GE426.out | refine below_set ?_ GE437.out) | exact HB.out)⟩
   ·replace c26 := Bool.eq_false_iff.mpr c26
    subst c26
    rw [iF] at H
    obtain ⟨⟨t451, t454, t457⟩, A390, H⟩ := Option.bind_eq_some_iff.mp H
    dsimp only at H
    have A39 := Aside0.mk A390
    clear A390
    simp only [Option.some.injEq, Prod.mk.injEq] at H
    obtain ⟨rfl, rfl, rfl, rfl⟩ := H
    try go_wp2
    replace HO_438000 := Aside0.mk (Kd.Q_drew HO_438000.out)
    replace HO_438001 := Aside0.mk (Kd.R_drew HO_438001.out)
    replace BK425 := Aside0.mk (blk_drew BK425.out)
    replace BK426 := Aside0.mk (blk_drew BK426.out)
    replace BK437 := Aside0.mk (blk_drew BK437.out)
    replace HI429 := Aside0.mk (IsS68.drew HI429.out)
    replace HB := Aside0.mk (below_drew1 HB.out)
    refine start_ (n := 5) (S := fun w' => w'.cell? ⟨gb437, 0, none⟩ = some (.slice Ao10 t430.length co10) ∧ w'.cell? ⟨gb437, 1, none⟩ = some (.slice Ao15 t433.length co15)) (ds := []) (tf 0 5) (by kernel_rfl) rfl rfl ⟨(blk_cell BK437.out 0).trans rfl, (blk_cell BK437.out 1).trans rfl⟩ (fun hHeld => ?_)
    generalize wc.drew = w40 at HO_438000 HO_438001 BK425 BK426 BK437 HI429 HB hHeld ⊢
    refine pK 1 26 (tB 5 2) ?_
    refine tK 0 25 (tf 2 3) hHeld ?_
    refine one_ (i := 2) (N := some 27) (tf 3 2) rfl rfl (by kernel_rfl) (by decide) (fun K hK => ?_)
    refine goes_ Try.func59 (by kernel_rfl) rfl #[.pointer (some ⟨g429, 0, none⟩), .int .i64 2] (by rfl) rfl rfl (by (try simp only [List.map_toArray, List.map_cons, List.map_nil]); first | done | rfl | (simp only [List.length_drop, List.length_take]; rfl)) ?_
    with_reducible refine (spec_l91Map.calls kj3 g429 t427 x430001_3 2 t451 t454 t457 w _ ?side1 ?side2 A39.out).mono ?_
    (case side1 => repeat (first | (with_reducible first | exact HI429.out | apply IsS68.alloc | apply IsS68.drewN | apply IsS68.drew | apply IsS68.set_1 | refine IsS68.far ?_ NB429_425.out _ | refine IsS68.far ?_ NB429_426.out _ | refine IsS68.far ?_ NB429_437.out _) | exact HI429.out))
    (case side2 => repeat (first | (with_reducible first | exact HB.out | apply below_alloc | apply pw_below_drewN | apply below_drew1 | refine below_set ?_ (IsS68.ge HI429.out) | refine below_set ?_ GE425.out | refine below_set ?_ GE426.out | refine below_set ?_ GE437.out) | exact HB.out))
    rintro e w41 ⟨v452, v455, rfl, ho0, ho1, hi, hb, hk⟩
    refine ⟨_, rfl, ?_⟩
    replace BK425 := Aside0.mk (KeepBut.blk hk (g' := gb425) (o := .cells #[.slice none 0 0, .slice none 0 0] 40 (0, 0)) (kP BK425) NB425_429.out (by simp))
    replace BK426 := Aside0.mk (KeepBut.blk hk (g' := gb426) (o := .cells #[.slice none 0 0, .slice none 0 0] 40 (0, 0)) (kP BK426) NB426_429.out (by simp))
    replace BK437 := Aside0.mk (KeepBut.blk hk (g' := gb437) (o := .cells #[.slice Ao10 t430.length co10, .slice Ao15 t433.length co15] 40 (0, 0)) (kP BK437) NB437_429.out (by simp))
    have HO453 := Aside0.mk (Kd.Q_lower (Kd.Q_new' (Kd.Q_new' ho0 (Kd.Q_lt (qP HO_438000))) (Kd.R_lt (rP HO_438001))) (below_size (by repeat (first | (with_reducible first | exact HB.out | apply below_alloc | apply pw_below_drewN | apply below_drew1 | refine below_set ?_ (IsS68.ge HI429.out) | refine below_set ?_ GE425.out | refine below_set ?_ GE426.out | refine below_set ?_ GE437.out) | exact HB.out))))
    have HO456 := Aside0.mk (Kd.R_lower (Kd.R_new' (Kd.R_new' ho1 (Kd.Q_lt (qP HO_438000))) (Kd.R_lt (rP HO_438001))) (below_size (by repeat (first | (with_reducible first | exact HB.out | apply below_alloc | apply pw_below_drewN | apply below_drew1 | refine below_set ?_ (IsS68.ge HI429.out) | refine below_set ?_ GE425.out | refine below_set ?_ GE426.out | refine below_set ?_ GE437.out) | exact HB.out))))
    replace HO_438000 := Aside0.mk (Kd.Q_mono (Kd.Q_told (Kd.Q_told (Kd.Q_oldK (IsS68.apartQ (show IsS68 w _ g429 t427 x430001_3 from by repeat (first | (with_reducible first | exact HI429.out | apply IsS68.alloc | apply IsS68.drewN | apply IsS68.drew | apply IsS68.set_1 | refine IsS68.far ?_ NB429_425.out _ | refine IsS68.far ?_ NB429_426.out _ | refine IsS68.far ?_ NB429_437.out _) | exact HI429.out)) (qP HO_438000) (by decide)) hk) (Kd.Q_base ho0)) (Kd.R_base ho1)) (fun _ h_ => h_.1))
    replace HO_438001 := Aside0.mk (Kd.R_mono (Kd.R_told (Kd.R_told (Kd.R_oldK (IsS68.apart (show IsS68 w _ g429 t427 x430001_3 from by repeat (first | (with_reducible first | exact HI429.out | apply IsS68.alloc | apply IsS68.drewN | apply IsS68.drew | apply IsS68.set_1 | refine IsS68.far ?_ NB429_425.out _ | refine IsS68.far ?_ NB429_426.out _ | refine IsS68.far ?_ NB429_437.out _) | exact HI429.out)) (rP HO_438001) (by decide)) hk) (Kd.Q_base ho0)) (Kd.R_base ho1)) (fun _ h_ => h_.1))
    replace HB := Aside0.mk (hb)
    replace HI429 := Aside0.mk (hi)
    (try clear hb)
    (try clear hb2)
    (try clear hk)
    (try clear hi)
    (try clear ho0)
    (try clear ho1)
    obtain ⟨Ao44, co44, eo44, _⟩ := Kd.Q_slice HO453.out
    (first | subst eo44 | (injection eo44 with f1_ f2_ f3_; have f4_ := f1_.symm; have f5_ := f3_.symm; clear f1_ f2_ f3_; subst f4_; subst f5_))
    obtain ⟨Ao46, co46, eo46⟩ := Kd.R_slice HO456.out
    (first | subst eo46 | (injection eo46 with f1_ f2_ f3_; have f4_ := f1_.symm; have f5_ := f3_.symm; clear f1_ f2_ f3_; subst f4_; subst f5_))
    refine hK.out _ _ ⟨(blk_cell BK437.out 0).trans rfl, (blk_cell BK437.out 1).trans rfl⟩ (fun hHeld => ?_)
    clear hK K
    refine norm_ (a' := ?_) ?_ ?_
    rotate_left
    ·show Act.put _ (some 27) _ = _
     simp only [Act.put, List.setIfInBounds_toArray, List.set_cons_zero, List.set_cons_succ, i64_w, i32_w]
     rfl
    refine one_ (i := 3) (N := none) (tf 4 1) rfl rfl (by kernel_rfl) (by decide) (fun K hK => ?_)
    have hs42 : w41.cell? ⟨gb425, 0, none⟩ = some (.slice none 0 0) := (blk_cell BK425.out 0).trans rfl
    have hfs42 := blk_frozen BK425.out 0
    have hns42_1 := NB426_425.out
    have hns42_2 := NB437_425.out
    have hms42_1 := NB425_426.out
    have hms42_2 := NB425_437.out
    have hs43 : w41.cell? ⟨gb425, 1, none⟩ = some (.slice none 0 0) := (blk_cell BK425.out 1).trans rfl
    have hfs43 := blk_frozen BK425.out 1
    have hns43_1 := NB426_425.out
    have hns43_2 := NB437_425.out
    have hms43_1 := NB425_426.out
    have hms43_2 := NB425_437.out
    refine skip_ (w1 := ?_) (by rfl) rfl ?_ ?_
    rotate_left
    ·go_simp
     rfl
    refine hK.out _ _ ⟨((cell_far (p := ⟨gb425, _, none⟩) NB437_425.out _).trans (((cell_far (p := ⟨gb425, _, none⟩) NB437_425.out _).trans (hHeld.1)))), ((cell_far (p := ⟨gb425, _, none⟩) NB437_425.out _).trans (((cell_far (p := ⟨gb425, _, none⟩) NB437_425.out _).trans (hHeld.2))))⟩ (fun hHeld => ?_)
    clear hK K
    refine one_ (i := 4) (N := none) (tf 5 0) rfl rfl (by kernel_rfl) (by decide) (fun K hK => ?_)
    have hs45 : w41.cell? ⟨gb426, 0, none⟩ = some (.slice none 0 0) := (blk_cell BK426.out 0).trans rfl
    have hfs45 := blk_frozen BK426.out 0
    have hns45_0 := NB425_426.out
    have hns45_2 := NB437_426.out
    have hms45_0 := NB426_425.out
    have hms45_2 := NB426_437.out
    have hs47 : w41.cell? ⟨gb426, 1, none⟩ = some (.slice none 0 0) := (blk_cell BK426.out 1).trans rfl
    have hfs47 := blk_frozen BK426.out 1
    have hns47_0 := NB425_426.out
    have hns47_2 := NB437_426.out
    have hms47_0 := NB426_425.out
    have hms47_2 := NB426_437.out
    refine skip_ (w1 := ?_) (by rfl) rfl ?_ ?_
    rotate_left
    ·go_simp
     rfl
    refine hK.out _ _ ⟨((cell_far (p := ⟨gb426, _, none⟩) NB437_426.out _).trans (((cell_far (p := ⟨gb426, _, none⟩) NB437_426.out _).trans (hHeld.1)))), ((cell_far (p := ⟨gb426, _, none⟩) NB437_426.out _).trans (((cell_far (p := ⟨gb426, _, none⟩) NB437_426.out _).trans (hHeld.2))))⟩ (fun hHeld => ?_)
    clear hK K
    refine done_ (by kernel_rfl) ?_
    try go_wp2
    refine bodyPost_ret (results_cc rfl _ _ gb425 gb426 40 40 #[.slice Ao10 t430.length co10, .slice Ao15 t433.length co15] #[.slice Ao44 t451.length co44, .slice Ao46 t454.length co46] (0, 0) (0, 0) _ _ rfl (by (with_reducible repeat (first | refine blk_drewN ?_ _ | refine blk_drew ?_ | refine blk_alloc ?_ _)); refine blk_far ?_ NB425_426.out _; (with_reducible repeat (first | refine blk_drewN ?_ _ | refine blk_drew ?_ | refine blk_alloc ?_ _)); refine blk_far ?_ NB425_426.out _; (with_reducible repeat (first | refine blk_drewN ?_ _ | refine blk_drew ?_ | refine blk_alloc ?_ _)); refine blk_put (cs := #[.slice Ao10 t430.length co10, .slice none 0 0]) ?_ 1 _ rfl; (with_reducible repeat (first | refine blk_drewN ?_ _ | refine blk_drew ?_ | refine blk_alloc ?_ _)); refine blk_put (cs := #[.slice none 0 0, .slice none 0 0]) ?_ 0 _ rfl; (with_reducible repeat (first | refine blk_drewN ?_ _ | refine blk_drew ?_ | refine blk_alloc ?_ _)); exact BK425.out) Try.underlying40 rfl (by kernel_rfl) rfl (by (with_reducible repeat (first | refine blk_drewN ?_ _ | refine blk_drew ?_ | refine blk_alloc ?_ _)); refine blk_put (cs := #[.slice Ao44 t451.length co44, .slice none 0 0]) ?_ 1 _ rfl; (with_reducible repeat (first | refine blk_drewN ?_ _ | refine blk_drew ?_ | refine blk_alloc ?_ _)); refine blk_put (cs := #[.slice none 0 0, .slice none 0 0]) ?_ 0 _ rfl; (with_reducible repeat (first | refine blk_drewN ?_ _ | refine blk_drew ?_ | refine blk_alloc ?_ _)); refine blk_far ?_ NB426_425.out _; (with_reducible repeat (first | refine blk_drewN ?_ _ | refine blk_drew ?_ | refine blk_alloc ?_ _)); refine blk_far ?_ NB426_425.out _; (with_reducible repeat (first | refine blk_drewN ?_ _ | refine blk_drew ?_ | refine blk_alloc ?_ _)); exact BK426.out) Try.underlying40 rfl (by kernel_rfl)) rfl ?_
    exact ⟨_, _, _, _, eR, qT (Kd.Q_mono (qF gb426 1 (qF gb426 0 (Kd.Q_far (p := ⟨gb425, 1, none⟩) (Kd.Q_far (p := ⟨gb425, 0, none⟩) (Kd.Q_types (Kd.Q_types HO_438000.out BK425.out (by decide)) BK426.out (by decide)) (fun _ hk => hk.1.2) (.slice Ao10 t430.length co10)) (fun _ hk => hk.1.2) (.slice Ao15 t433.length co15)) (.slice Ao44 t451.length co44)) (.slice Ao46 t454.length co46)) (fun _ hk => ⟨hk.1.1.1.1, ⟨hk.1.1.1.2, hk.1.1.2⟩⟩)), rT (Kd.R_mono (rF gb426 1 (rF gb426 0 (Kd.R_far (p := ⟨gb425, 1, none⟩) (Kd.R_far (p := ⟨gb425, 0, none⟩) (Kd.R_types (rY HO_438001 BK425) BK426.out (by decide)) (fun _ hk => hk.1.2) (.slice Ao10 t430.length co10)) (fun _ hk => hk.1.2) (.slice Ao15 t433.length co15)) (.slice Ao44 t451.length co44)) (.slice Ao46 t454.length co46)) (fun _ hk => ⟨hk.1.1.1.1, ⟨hk.1.1.1.2, hk.1.1.2⟩⟩)), qT (Kd.Q_mono (qF gb426 1 (qF gb426 0 (Kd.Q_far (p := ⟨gb425, 1, none⟩) (Kd.Q_far (p := ⟨gb425, 0, none⟩) (Kd.Q_types (Kd.Q_types HO453.out BK425.out (by decide)) BK426.out (by decide)) (fun _ hk => hk.1.2) (.slice Ao10 t430.length co10)) (fun _ hk => hk.1.2) (.slice Ao15 t433.length co15)) (.slice Ao44 t451.length co44)) (.slice Ao46 t454.length co46)) (fun _ hk => ⟨hk.1.1.1.2, ⟨hk.1.1.2, hk.1.1.1.1⟩⟩)), rT (Kd.R_mono (rF gb426 1 (rF gb426 0 (Kd.R_far (p := ⟨gb425, 1, none⟩) (Kd.R_far (p := ⟨gb425, 0, none⟩) (Kd.R_types (rY HO456 BK425) BK426.out (by decide)) (fun _ hk => hk.1.2) (.slice Ao10 t430.length co10)) (fun _ hk => hk.1.2) (.slice Ao15 t433.length co15)) (.slice Ao44 t451.length co44)) (.slice Ao46 t454.length co46)) (fun _ hk => ⟨hk.1.1.1.2, ⟨hk.1.1.2, hk.1.1.1.1⟩⟩)), by repeat (first | (with_reducible first | exact HB.out | apply below_alloc | apply pw_below_drewN | apply below_drew1 | refine below_set ?_ (IsS68.ge HI429.out) | refine below_set ?_ GE425.out | refine below_set ?_ GE426.out | refine below_set ?_ GE437.out) | exact HB.out)⟩

end Go.Proofs.Yteffimfifgnleaa.F
