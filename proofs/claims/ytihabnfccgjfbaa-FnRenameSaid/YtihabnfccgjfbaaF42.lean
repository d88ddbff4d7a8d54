/- Contracts: what these Go functions return. -/
import Derived.Test.YtihabnfccgjfbaaF0
import Derived.Test.YtihabnfccgjfbaaF2
import Derived.Test.YtihabnfccgjfbaaF4
import Derived.Test.YtihabnfccgjfbaaF8
import Derived.Test.YtihabnfccgjfbaaF25
import Derived.Test.YtihabnfccgjfbaaF41
namespace Go.Proofs.Ytihabnfccgjfbaa.F
open Go.RowKit Go.Proofs.YtihabnfccgjfbaaW.PrintWords Go.Proofs.YtihabnfccgjfbaaW.PrintLast Go.Proofs.YtihabnfccgjfbaaW.PrintMore
attribute [local go_sem] max2_int min2_int max_two min_two max_three min_three max_four min_four
set_option linter.unusedVariables false
set_option linter.unusedSimpArgs false

/-! ### spec_MapRename: function 31 -/
def spec_MapRename.f (k : Nat) (l0_0 : List Int) (l0_1 : List Int) (l1 : List Int) : Option (List Int × List Int × Bool) := (spec_MapValid.f k l0_0 l0_1).bind fun t790 => (if t790 = true then ((spec_l1Both.f k l0_0 l1).bind fun t791 => (if t791 = true then ((spec_l2Rename.f k l0_0 l0_1 l1).bind fun bt792 => (some (bt792.1, bt792.2, true))) else (some (([] : List Int), ([] : List Int), false)))) else (some (([] : List Int), ([] : List Int), false)))
set_option maxHeartbeats 8000000 in
set_option maxRecDepth 100000 in
theorem spec_MapRename.calls (k : Nat) (A0_0 : Option Addr) (c0_0 : Nat) (l0_0 : List Int) (A0_1 : Option Addr) (c0_1 : Nat) (l0_1 : List Int) (A1 : Option Addr) (c1 : Nat) (l1 : List Int) (r1 : List Int) (r2 : List Int) (r3 : Bool) (w : World) (hr0_0 : Kd.C (Kd.int .i64) w A0_0 l0_0.length l0_0) (hc0_0 : l0_0.length ≤ c0_0) (hr0_1 : Kd.C (Kd.int .i64) w A0_1 l0_1.length l0_1) (hc0_1 : l0_1.length ≤ c0_1) (hr1 : Kd.C (Kd.int .i64) w A1 l1.length l1) (hc1 : l1.length ≤ c1) (h : spec_MapRename.f k l0_0 l0_1 l1 = some (r1, r2, r3)) :
 Calls Try.prog 31 #[.agg #[.slice A0_0 l0_0.length c0_0, .slice A0_1 l0_1.length c0_1], .slice A1 l1.length c1] w fun e w' => ∃ v0_ v1_ : Value, e = .returned (.tuple #[.agg #[v0_, v1_], .bool r3]) ∧ Kd.R (Kd.int .i64) 3 w' w.heap.size (fun k_ => some k_ ≠ (v1_ : Value).ownBlock) v0_ r1 ∧ Kd.R (Kd.int .i64) 3 w' w.heap.size (fun k_ => some k_ ≠ (v0_ : Value).ownBlock) v1_ r2 ∧ Below w.heap.size w w' := by
 have hu25 := Try.underlying25
 have HR0_0 := Aside0.mk hr0_0
 have HC0_0 := Aside0.mk hc0_0
 clear hr0_0 hc0_0
 have HR0_1 := Aside0.mk hr0_1
 have HC0_1 := Aside0.mk hc0_1
 clear hr0_1 hc0_1
 have HR1 := Aside0.mk hr1
 have HC1 := Aside0.mk hc1
 clear hr1 hc1
 have HB := Aside0.mk (Below.refl w.heap.size w)
 have H : ((spec_MapValid.f k l0_0 l0_1).bind fun t790 => (if t790 = true then ((spec_l1Both.f k l0_0 l1).bind fun t791 => (if t791 = true then ((spec_l2Rename.f k l0_0 l0_1 l1).bind fun bt792 => (some (bt792.1, bt792.2, true))) else (some (([] : List Int), ([] : List Int), false)))) else (some (([] : List Int), ([] : List Int), false)))) = some (r1, r2, r3) := h
 clear h
 replace H := Option.bind_eq_some_iff.mp H
 obtain ⟨t790, A30, H⟩ := H
 replace H : (if t790 = true then ((spec_l1Both.f k l0_0 l1).bind fun t791 => (if t791 = true then ((spec_l2Rename.f k l0_0 l0_1 l1).bind fun bt792 => (some (bt792.1, bt792.2, true))) else (some (([] : List Int), ([] : List Int), false)))) else (some (([] : List Int), ([] : List Int), false))) = some (r1, r2, r3) := H
 have A3 := Aside0.mk A30
 clear A30
 by_cases c4 : t790 = true
 ·subst c4
  replace H : ((spec_l1Both.f k l0_0 l1).bind fun t791 => (if t791 = true then ((spec_l2Rename.f k l0_0 l0_1 l1).bind fun bt792 => (some (bt792.1, bt792.2, true))) else (some (([] : List Int), ([] : List Int), false)))) = some (r1, r2, r3) := by rw [if_pos rfl] at H; exact H
  replace H := Option.bind_eq_some_iff.mp H
  obtain ⟨t791, A50, H⟩ := H
  replace H : (if t791 = true then ((spec_l2Rename.f k l0_0 l0_1 l1).bind fun bt792 => (some (bt792.1, bt792.2, true))) else (some (([] : List Int), ([] : List Int), false))) = some (r1, r2, r3) := H
  have A5 := Aside0.mk A50
  clear A50
  by_cases c6 : t791 = true
  ·subst c6
   replace H : ((spec_l2Rename.f k l0_0 l0_1 l1).bind fun bt792 => (some (bt792.1, bt792.2, true))) = some (r1, r2, r3) := by rw [if_pos rfl] at H; exact H
   replace H := Option.bind_eq_some_iff.mp H
   obtain ⟨⟨t792, t795⟩, A70, H⟩ := H
   replace H : (some (t792, t795, true)) = some (r1, r2, r3) := H
   have A7 := Aside0.mk A70
   clear A70
   simp only [Option.some.injEq, Prod.mk.injEq] at H
   obtain ⟨rfl, rfl, rfl⟩ := H
   go_enter Try.func31, Try.ntmps31
   go_wp2_with (first | ((with_reducible refine gate_dst (N := 2) rfl ?_); refine bE 2 #[.slice A0_0 l0_0.length c0_0, .slice A0_1 l0_1.length c0_1] 25 ?_; intro gb788 hg w8 hbox hb; have BK788 := Aside0.mk (hbox); have GW788 := gS HB hg; have GE788 := gS HB hg; replace HB := bS HB hb; clear hb hbox hg) | ((with_reducible refine gate_dst (N := 4) rfl ?_); refine bE 4 #[.slice none 0 0, .slice none 0 0] 25 ?_; intro gb789 hg w9 hbox hb; have BK789 := Aside0.mk (hbox); have GW789 := gS HB hg; have GE789 := gS HB hg; replace HB := bS HB hb; have NB788_789 := nL BK788 hg; have NB789_788 := nG BK788 hg; replace BK788 := kB BK788 hb; clear hb hbox hg; have hnb10 := NB788_789.out; have hnc10 := NB789_788.out; have hcz11_0 := zc0 BK788; have hcz11_1 := zc1 BK788; have hfz11_0 := blk_frozen BK788.out 0; have hfz11_1 := blk_frozen BK788.out 1) | ((with_reducible refine gate_callee (f := 40) rfl ?_); refine gL (some 7) Try.func40 #[.agg #[.slice A0_0 l0_0.length c0_0, .slice A0_1 l0_1.length c0_1]] ?_; (with_reducible refine (spec_MapValid.calls k _ _ l0_0 _ _ l0_1 true _ ?side1 ?side2 ?side3 ?side4 A3.out).mono ?_); (case side1 => exact cB HR0_0 HB); (case side2 => exact HC0_0.out); (case side3 => exact cB HR0_1 HB); (case side4 => exact HC0_1.out); rintro e w12 ⟨rfl, hb⟩; refine ⟨_, rfl, ?_⟩; replace BK788 := kB BK788 hb; replace BK789 := kB BK789 hb; replace HB := bS HB hb; (try clear hb); (try clear hb2); (try clear hk); (try clear hi); have hcz13_0 := zc0 BK788; have hcz13_1 := zc1 BK788; have hfz13_0 := blk_frozen BK788.out 0; have hfz13_1 := blk_frozen BK788.out 1) | (go_at_call 58; (with_reducible refine (spec_l1Both.calls k _ _ l0_0 _ _ l1 true _ ?side1 ?side2 ?side3 ?side4 A5.out).mono ?_); (case side1 => exact cB HR0_0 HB); (case side2 => exact HC0_0.out); (case side3 => exact cB HR1 HB); (case side4 => exact HC1.out); rintro e w' ⟨rfl, ⟨nd, rfl⟩⟩; (try (rw [drewN_self w12]; generalize hq_ : World.drewN w12 _ = w12; have n0_ : Aside0 (w12.heap[gb788]? = some (.cells #[.slice A0_0 l0_0.length c0_0, .slice A0_1 l0_1.length c0_1] 25 (0, 0))) := ⟨by rw [← hq_]; exact (kP BK788)⟩; have n1_ : Aside0 (w12.heap[gb789]? = some (.cells #[.slice none 0 0, .slice none 0 0] 25 (0, 0))) := ⟨by rw [← hq_]; exact (kP BK789)⟩; have n2_ : Aside0 (Below w.heap.size w w12) := ⟨by rw [← hq_]; exact (bP HB)⟩; clear BK788 BK789 HB hq_; have BK788 := n0_; have BK789 := n1_; have HB := n2_; clear n0_ n1_ n2_; have hcy788_0 : w12.cell? ⟨gb788, 0, none⟩ = some (.slice A0_0 l0_0.length c0_0) := (blk_cell BK788.out 0).trans rfl; have hfy788_0 := blk_frozen BK788.out 0; have hcy788_1 : w12.cell? ⟨gb788, 1, none⟩ = some (.slice A0_1 l0_1.length c0_1) := (blk_cell BK788.out 1).trans rfl; have hfy788_1 := blk_frozen BK788.out 1; have hcy789_0 : w12.cell? ⟨gb789, 0, none⟩ = some (.slice none 0 0) := (blk_cell BK789.out 0).trans rfl; have hfy789_0 := blk_frozen BK789.out 0; have hcy789_1 : w12.cell? ⟨gb789, 1, none⟩ = some (.slice none 0 0) := (blk_cell BK789.out 1).trans rfl; have hfy789_1 := blk_frozen BK789.out 1))) | ((with_reducible refine gate_callee (f := 59) rfl ?_); refine gL (some 19) Try.func59 #[.agg #[.slice A0_0 l0_0.length c0_0, .slice A0_1 l0_1.length c0_1], .slice A1 l1.length c1] ?_; (with_reducible refine (spec_l2Rename.calls k _ _ l0_0 _ _ l0_1 _ _ l1 t792 t795 _ ?side1 ?side2 ?side3 ?side4 ?side5 ?side6 A7.out).mono ?_); (case side1 => exact cB HR0_0 HB); (case side2 => exact HC0_0.out); (case side3 => exact cB HR0_1 HB); (case side4 => exact HC0_1.out); (case side5 => exact cB HR1 HB); (case side6 => exact HC1.out); rintro e w14 ⟨v793, v796, rfl, ho0, ho1, hb⟩; refine ⟨_, rfl, ?_⟩; have HO794 := rL ho0 HB; have HO797 := rL ho1 HB; replace BK788 := kB BK788 hb; replace BK789 := kB BK789 hb; replace HB := bS HB hb; (try clear hb); (try clear hb2); (try clear hk); (try clear hi); (try clear ho0); (try clear ho1); obtain ⟨Ao15, co15, eo15⟩ := Kd.R_slice HO794.out; subst eo15; have hcz16_0 := zc0 BK789; have hcz16_1 := zc1 BK789; have hfz16_0 := blk_frozen BK789.out 0; have hfz16_1 := blk_frozen BK789.out 1; obtain ⟨Ao17, co17, eo17⟩ := Kd.R_slice HO797.out; subst eo17))
   refine bodyPost_ret (results_ct rfl _ _ gb789 25 #[.slice Ao15 t792.length co15, .slice Ao17 t795.length co17] (0, 0) _ rfl (by (with_reducible repeat (first | refine blk_drewN ?_ _ | refine blk_drew ?_ | refine blk_alloc ?_ _)); refine blk_put (cs := #[.slice Ao15 t792.length co15, .slice none 0 0]) ?_ 1 _ rfl; (with_reducible repeat (first | refine blk_drewN ?_ _ | refine blk_drew ?_ | refine blk_alloc ?_ _)); refine blk_put (cs := #[.slice none 0 0, .slice none 0 0]) ?_ 0 _ rfl; (with_reducible repeat (first | refine blk_drewN ?_ _ | refine blk_drew ?_ | refine blk_alloc ?_ _)); exact BK789.out) Try.underlying25 rfl (by kernel_rfl)) rfl ?_
   exact ⟨_, _, eR, rT (Kd.R_mono (rF gb789 1 (rF gb789 0 (rY HO794 BK789) (.slice Ao15 t792.length co15)) (.slice Ao17 t795.length co17)) (fun _ hk => hk.1)), rT (Kd.R_mono (rF gb789 1 (rF gb789 0 (rY HO797 BK789) (.slice Ao15 t792.length co15)) (.slice Ao17 t795.length co17)) (fun _ hk => hk.1)), bP HB⟩
  replace c6 := Bool.eq_false_iff.mpr c6
  subst c6
  replace H : (some (([] : List Int), ([] : List Int), false)) = some (r1, r2, r3) := by rw [if_neg (show ¬ (false = true) by decide)] at H; exact H
  simp only [Option.some.injEq, Prod.mk.injEq] at H
  obtain ⟨rfl, rfl, rfl⟩ := H
  go_enter Try.func31, Try.ntmps31
  go_wp2_with (first | ((with_reducible refine gate_dst (N := 2) rfl ?_); refine bE 2 #[.slice A0_0 l0_0.length c0_0, .slice A0_1 l0_1.length c0_1] 25 ?_; intro gb788 hg w18 hbox hb; have BK788 := Aside0.mk (hbox); have GW788 := gS HB hg; have GE788 := gS HB hg; replace HB := bS HB hb; clear hb hbox hg) | ((with_reducible refine gate_dst (N := 4) rfl ?_); refine bE 4 #[.slice none 0 0, .slice none 0 0] 25 ?_; intro gb789 hg w19 hbox hb; have BK789 := Aside0.mk (hbox); have GW789 := gS HB hg; have GE789 := gS HB hg; replace HB := bS HB hb; have NB788_789 := nL BK788 hg; have NB789_788 := nG BK788 hg; replace BK788 := kB BK788 hb; clear hb hbox hg; have hnb20 := NB788_789.out; have hnc20 := NB789_788.out; have hcz21_0 := zc0 BK788; have hcz21_1 := zc1 BK788; have hfz21_0 := blk_frozen BK788.out 0; have hfz21_1 := blk_frozen BK788.out 1) | ((with_reducible refine gate_callee (f := 40) rfl ?_); refine gL (some 7) Try.func40 #[.agg #[.slice A0_0 l0_0.length c0_0, .slice A0_1 l0_1.length c0_1]] ?_; (with_reducible refine (spec_MapValid.calls k _ _ l0_0 _ _ l0_1 true _ ?side1 ?side2 ?side3 ?side4 A3.out).mono ?_); (case side1 => exact cB HR0_0 HB); (case side2 => exact HC0_0.out); (case side3 => exact cB HR0_1 HB); (case side4 => exact HC0_1.out); rintro e w22 ⟨rfl, hb⟩; refine ⟨_, rfl, ?_⟩; replace BK788 := kB BK788 hb; replace BK789 := kB BK789 hb; replace HB := bS HB hb; (try clear hb); (try clear hb2); (try clear hk); (try clear hi); have hcz23_0 := zc0 BK788; have hcz23_1 := zc1 BK788; have hfz23_0 := blk_frozen BK788.out 0; have hfz23_1 := blk_frozen BK788.out 1) | (go_at_call 58; (with_reducible refine (spec_l1Both.calls k _ _ l0_0 _ _ l1 false _ ?side1 ?side2 ?side3 ?side4 A5.out).mono ?_); (case side1 => exact cB HR0_0 HB); (case side2 => exact HC0_0.out); (case side3 => exact cB HR1 HB); (case side4 => exact HC1.out); rintro e w' ⟨rfl, ⟨nd, rfl⟩⟩; (try (rw [drewN_self w22]; generalize hq_ : World.drewN w22 _ = w22; have n0_ : Aside0 (w22.heap[gb788]? = some (.cells #[.slice A0_0 l0_0.length c0_0, .slice A0_1 l0_1.length c0_1] 25 (0, 0))) := ⟨by rw [← hq_]; exact (kP BK788)⟩; have n1_ : Aside0 (w22.heap[gb789]? = some (.cells #[.slice none 0 0, .slice none 0 0] 25 (0, 0))) := ⟨by rw [← hq_]; exact (kP BK789)⟩; have n2_ : Aside0 (Below w.heap.size w w22) := ⟨by rw [← hq_]; exact (bP HB)⟩; clear BK788 BK789 HB hq_; have BK788 := n0_; have BK789 := n1_; have HB := n2_; clear n0_ n1_ n2_)); have hcz24_0 := zc0 BK789; have hcz24_1 := zc1 BK789; have hfz24_0 := blk_frozen BK789.out 0; have hfz24_1 := blk_frozen BK789.out 1))
  refine bodyPost_ret (results_ct rfl _ _ gb789 25 #[.slice none 0 0, .slice none 0 0] (0, 0) _ rfl (by (with_reducible repeat (first | refine blk_drewN ?_ _ | refine blk_drew ?_ | refine blk_alloc ?_ _)); refine blk_put (cs := #[.slice none 0 0, .slice none 0 0]) ?_ 1 _ rfl; (with_reducible repeat (first | refine blk_drewN ?_ _ | refine blk_drew ?_ | refine blk_alloc ?_ _)); refine blk_put (cs := #[.slice none 0 0, .slice none 0 0]) ?_ 0 _ rfl; (with_reducible repeat (first | refine blk_drewN ?_ _ | refine blk_drew ?_ | refine blk_alloc ?_ _)); exact BK789.out) Try.underlying25 rfl (by kernel_rfl)) rfl ?_
  exact ⟨_, _, eR, by first | exact Kd.R_nil _ _ _ _ _ | exact Kd.N_nil _ _ _ _ _ | exact Kd.V_nil _ _ _ _ _ | exact Kd.Q_nil _ _ _ _ _ | exact Kd.S_nil _ _ _ _ _, by first | exact Kd.R_nil _ _ _ _ _ | exact Kd.N_nil _ _ _ _ _ | exact Kd.V_nil _ _ _ _ _ | exact Kd.Q_nil _ _ _ _ _ | exact Kd.S_nil _ _ _ _ _, bP HB⟩
 ·replace c4 := Bool.eq_false_iff.mpr c4
  subst c4
  replace H : (some (([] : List Int), ([] : List Int), false)) = some (r1, r2, r3) := by rw [if_neg (show ¬ (false = true) by decide)] at H; exact H
  simp only [Option.some.injEq, Prod.mk.injEq] at H
  obtain ⟨rfl, rfl, rfl⟩ := H
  go_enter Try.func31, Try.ntmps31
  go_wp2_with (first | ((with_reducible refine gate_dst (N := 2) rfl ?_); refine bE 2 #[.slice A0_0 l0_0.length c0_0, .slice A0_1 l0_1.length c0_1] 25 ?_; intro gb788 hg w25 hbox hb; have BK788 := Aside0.mk (hbox); have GW788 := gS HB hg; have GE788 := gS HB hg; replace HB := bS HB hb; clear hb hbox hg) | ((with_reducible refine gate_dst (N := 4) rfl ?_); refine bE 4 #[.slice none 0 0, .slice none 0 0] 25 ?_; intro gb789 hg w26 hbox hb; have BK789 := Aside0.mk (hbox); have GW789 := gS HB hg; have GE789 := gS HB hg; replace HB := bS HB hb; have NB788_789 := nL BK788 hg; have NB789_788 := nG BK788 hg; replace BK788 := kB BK788 hb; clear hb hbox hg; have hnb27 := NB788_789.out; have hnc27 := NB789_788.out; have hcz28_0 := zc0 BK788; have hcz28_1 := zc1 BK788; have hfz28_0 := blk_frozen BK788.out 0; have hfz28_1 := blk_frozen BK788.out 1) | ((with_reducible refine gate_callee (f := 40) rfl ?_); refine gL (some 7) Try.func40 #[.agg #[.slice A0_0 l0_0.length c0_0, .slice A0_1 l0_1.length c0_1]] ?_; (with_reducible refine (spec_MapValid.calls k _ _ l0_0 _ _ l0_1 false _ ?side1 ?side2 ?side3 ?side4 A3.out).mono ?_); (case side1 => exact cB HR0_0 HB); (case side2 => exact HC0_0.out); (case side3 => exact cB HR0_1 HB); (case side4 => exact HC0_1.out); rintro e w29 ⟨rfl, hb⟩; refine ⟨_, rfl, ?_⟩; replace BK788 := kB BK788 hb; replace BK789 := kB BK789 hb; replace HB := bS HB hb; (try clear hb); (try clear hb2); (try clear hk); (try clear hi); have hcz30_0 := zc0 BK789; have hcz30_1 := zc1 BK789; have hfz30_0 := blk_frozen BK789.out 0; have hfz30_1 := blk_frozen BK789.out 1))
  refine bodyPost_ret (results_ct rfl _ _ gb789 25 #[.slice none 0 0, .slice none 0 0] (0, 0) _ rfl (by (with_reducible repeat (first | refine blk_drewN ?_ _ | refine blk_drew ?_ | refine blk_alloc ?_ _)); refine blk_put (cs := #[.slice none 0 0, .slice none 0 0]) ?_ 1 _ rfl; (with_reducible repeat (first | refine blk_drewN ?_ _ | refine blk_drew ?_ | refine blk_alloc ?_ _)); refine blk_put (cs := #[.slice none 0 0, .slice none 0 0]) ?_ 0 _ rfl; (with_reducible repeat (first | refine blk_drewN ?_ _ | refine blk_drew ?_ | refine blk_alloc ?_ _)); exact BK789.out) Try.underlying25 rfl (by kernel_rfl)) rfl ?_
  exact ⟨_, _, eR, by first | exact Kd.R_nil _ _ _ _ _ | exact Kd.N_nil _ _ _ _ _ | exact Kd.V_nil _ _ _ _ _ | exact Kd.Q_nil _ _ _ _ _ | exact Kd.S_nil _ _ _ _ _, by first | exact Kd.R_nil _ _ _ _ _ | exact Kd.N_nil _ _ _ _ _ | exact Kd.V_nil _ _ _ _ _ | exact Kd.Q_nil _ _ _ _ _ | exact Kd.S_nil _ _ _ _ _, bP HB⟩

/-! ### impl_PermBack: function 32 -/
def impl_PermBack.f (k : Nat) (l0 : List Int) : Option (List Int × Bool) := (impl_PermValid.f l0).bind fun t798 => (if t798 = true then ((impl_back.f k l0).bind fun t799 => (some (t799, true))) else (some (([] : List Int), false)))
set_option maxHeartbeats 8000000 in
set_option maxRecDepth 100000 in
theorem impl_PermBack.calls (k : Nat) (A0 : Option Addr) (c0 : Nat) (l0 : List Int) (r1 : List Int) (r2 : Bool) (w : World) (hr0 : Kd.C (Kd.int .i64) w A0 l0.length l0) (hc0 : l0.length ≤ c0) (h : impl_PermBack.f k l0 = some (r1, r2)) :
 Calls Try.prog 32 #[.slice A0 l0.length c0] w fun e w' => ∃ v0_ : Value, e = .returned (.tuple #[v0_, .bool r2]) ∧ Kd.R (Kd.int .i64) 3 w' w.heap.size (fun _ => True) v0_ r1 ∧ Below w.heap.size w w' := by
 have HR0 := Aside0.mk hr0
 have HC0 := Aside0.mk hc0
 clear hr0 hc0
 have HB := Aside0.mk (Below.refl w.heap.size w)
 have H : ((impl_PermValid.f l0).bind fun t798 => (if t798 = true then ((impl_back.f k l0).bind fun t799 => (some (t799, true))) else (some (([] : List Int), false)))) = some (r1, r2) := h
 clear h
 replace H := Option.bind_eq_some_iff.mp H
 obtain ⟨t798, A20, H⟩ := H
 replace H : (if t798 = true then ((impl_back.f k l0).bind fun t799 => (some (t799, true))) else (some (([] : List Int), false))) = some (r1, r2) := H
 have A2 := Aside0.mk A20
 clear A20
 by_cases c3 : t798 = true
 ·subst c3
  replace H : ((impl_back.f k l0).bind fun t799 => (some (t799, true))) = some (r1, r2) := by rw [if_pos rfl] at H; exact H
  replace H := Option.bind_eq_some_iff.mp H
  obtain ⟨t799, A40, H⟩ := H
  replace H : (some (t799, true)) = some (r1, r2) := H
  have A4 := Aside0.mk A40
  clear A40
  simp only [Option.some.injEq, Prod.mk.injEq] at H
  obtain ⟨rfl, rfl⟩ := H
  go_enter Try.func32, Try.ntmps32
  go_wp2_with (first | ((with_reducible refine gate_callee (f := 43) rfl ?_); refine gL (some 5) Try.func43 #[.slice A0 l0.length c0] ?_; (with_reducible refine (impl_PermValid.calls _ _ l0 true _ ?side1 ?side2 A2.out).mono ?_); (case side1 => repeat (first | exact HR0.out | (with_reducible refine Kd.C_alloc ?_ _) | (with_reducible refine Kd.C_drewN ?_ _) | (with_reducible refine Kd.C_drew ?_))); (case side2 => exact HC0.out); rintro e w5 ⟨rfl, hb⟩; refine ⟨_, rfl, ?_⟩; replace HB := bS HB hb; (try clear hb); (try clear hb2); (try clear hk); (try clear hi)) | ((with_reducible refine gate_callee (f := 53) rfl ?_); refine gL (some 8) Try.func53 #[.slice A0 l0.length c0] ?_; (with_reducible refine (impl_back.calls k _ _ l0 t799 _ ?side1 ?side2 A4.out).mono ?_); (case side1 => exact cB HR0 HB); (case side2 => exact HC0.out); rintro e w6 ⟨v800, rfl, ho0, hb⟩; refine ⟨_, rfl, ?_⟩; have HO801 := rL ho0 HB; replace HB := bS HB hb; (try clear hb); (try clear hb2); (try clear hk); (try clear hi); (try clear ho0)))
  go_ret2
  exact ⟨_, eR, rP HO801, bP HB⟩
 ·replace c3 := Bool.eq_false_iff.mpr c3
  subst c3
  replace H : (some (([] : List Int), false)) = some (r1, r2) := by rw [if_neg (show ¬ (false = true) by decide)] at H; exact H
  simp only [Option.some.injEq, Prod.mk.injEq] at H
  obtain ⟨rfl, rfl⟩ := H
  go_enter Try.func32, Try.ntmps32
  go_wp2_with (first | ((with_reducible refine gate_callee (f := 43) rfl ?_); refine gL (some 5) Try.func43 #[.slice A0 l0.length c0] ?_; (with_reducible refine (impl_PermValid.calls _ _ l0 false _ ?side1 ?side2 A2.out).mono ?_); (case side1 => repeat (first | exact HR0.out | (with_reducible refine Kd.C_alloc ?_ _) | (with_reducible refine Kd.C_drewN ?_ _) | (with_reducible refine Kd.C_drew ?_))); (case side2 => exact HC0.out); rintro e w7 ⟨rfl, hb⟩; refine ⟨_, rfl, ?_⟩; replace HB := bS HB hb; (try clear hb); (try clear hb2); (try clear hk); (try clear hi)))
  go_ret2
  exact ⟨_, eR, by first | exact Kd.R_nil _ _ _ _ _ | exact Kd.N_nil _ _ _ _ _ | exact Kd.V_nil _ _ _ _ _ | exact Kd.Q_nil _ _ _ _ _ | exact Kd.S_nil _ _ _ _ _, bP HB⟩

/-! ### cmp_isNaN_int: function 79 -/
def cmp_isNaN_int.f (a0 : Int) : Option (Bool) := some (a0 != a0)
set_option maxHeartbeats 8000000 in
set_option maxRecDepth 100000 in
theorem cmp_isNaN_int.calls (a0 : Int) (r : Bool) (w : World) (h : cmp_isNaN_int.f a0 = some r) :
 Calls Try.prog 79 #[.int .i64 a0] w fun e w' => e = .returned (.bool r) ∧ Drawn0 w w' := by
 have H : (some (a0 != a0)) = some r := h
 clear h
 obtain rfl := Option.some.inj H
 go_enter Try.func79, Try.ntmps79
 go_wp2
 go_ret
 exact ⟨by first | rfl | (simp; done) | (simp [*]; done), dP⟩

/-! ### cmp_Compare_int: function 78 -/
def cmp_Compare_int.f (a0 : Int) (a1 : Int) : Option (Int) := (cmp_isNaN_int.f a0).bind fun t802 => ((cmp_isNaN_int.f a1).bind fun t803 => (if t802 = true then (if t803 = true then (some 0) else (some (-1))) else (if t803 = true then (some 1) else (if a0 < a1 then (some (-1)) else (if a0 > a1 then (some 1) else (some 0))))))
set_option maxHeartbeats 8000000 in
set_option maxRecDepth 100000 in
theorem cmp_Compare_int.calls (a0 : Int) (a1 : Int) (r : Int) (w : World) (h : cmp_Compare_int.f a0 a1 = some r) :
 Calls Try.prog 78 #[.int .i64 a0, .int .i64 a1] w fun e w' => e = .returned (.int .i64 r) ∧ Drawn0 w w' := by
 have H : ((cmp_isNaN_int.f a0).bind fun t802 => ((cmp_isNaN_int.f a1).bind fun t803 => (if t802 = true then (if t803 = true then (some 0) else (some (-1))) else (if t803 = true then (some 1) else (if a0 < a1 then (some (-1)) else (if a0 > a1 then (some 1) else (some 0))))))) = some r := h
 clear h
 replace H := Option.bind_eq_some_iff.mp H
 obtain ⟨t802, A30, H⟩ := H
 replace H : ((cmp_isNaN_int.f a1).bind fun t803 => (if t802 = true then (if t803 = true then (some 0) else (some (-1))) else (if t803 = true then (some 1) else (if a0 < a1 then (some (-1)) else (if a0 > a1 then (some 1) else (some 0)))))) = some r := H
 have A3 := Aside0.mk A30
 clear A30
 replace H := Option.bind_eq_some_iff.mp H
 obtain ⟨t803, A40, H⟩ := H
 replace H : (if t802 = true then (if t803 = true then (some 0) else (some (-1))) else (if t803 = true then (some 1) else (if a0 < a1 then (some (-1)) else (if a0 > a1 then (some 1) else (some 0))))) = some r := H
 have A4 := Aside0.mk A40
 clear A40
 by_cases c5 : t802 = true
 ·subst c5
  replace H : (if t803 = true then (some 0) else (some (-1))) = some r := by rw [if_pos rfl] at H; exact H
  by_cases c6 : t803 = true
  ·subst c6
   replace H : (some 0) = some r := by rw [if_pos rfl] at H; exact H
   obtain rfl := Option.some.inj H
   go_enter Try.func78, Try.ntmps78
   go_wp2_with (first | ((with_reducible refine gate_callee (f := 79) rfl ?_); refine gL (some 8) Try.func79 #[.int .i64 a0] ?_; (with_reducible refine (cmp_isNaN_int.calls a0 true _ A3.out).mono ?_); rintro e w' ⟨rfl, ⟨nd, rfl⟩⟩; refine ⟨_, rfl, ?_⟩) | ((with_reducible refine gate_callee (f := 79) rfl ?_); refine gL (some 10) Try.func79 #[.int .i64 a1] ?_; (with_reducible refine (cmp_isNaN_int.calls a1 true _ A4.out).mono ?_); rintro e w' ⟨rfl, ⟨nd, rfl⟩⟩; refine ⟨_, rfl, ?_⟩))
   go_ret
   exact ⟨by first | rfl | (simp; done) | (simp [*]; done), dP⟩
  replace c6 := Bool.eq_false_iff.mpr c6
  subst c6
  replace H : (some (-1)) = some r := by rw [if_neg (show ¬ (false = true) by decide)] at H; exact H
  obtain rfl := Option.some.inj H
  go_enter Try.func78, Try.ntmps78
  go_wp2_with (first | ((with_reducible refine gate_callee (f := 79) rfl ?_); refine gL (some 8) Try.func79 #[.int .i64 a0] ?_; (with_reducible refine (cmp_isNaN_int.calls a0 true _ A3.out).mono ?_); rintro e w' ⟨rfl, ⟨nd, rfl⟩⟩; refine ⟨_, rfl, ?_⟩) | ((with_reducible refine gate_callee (f := 79) rfl ?_); refine gL (some 10) Try.func79 #[.int .i64 a1] ?_; (with_reducible refine (cmp_isNaN_int.calls a1 false _ A4.out).mono ?_); rintro e w' ⟨rfl, ⟨nd, rfl⟩⟩; refine ⟨_, rfl, ?_⟩))
  go_ret
  exact ⟨by first | rfl | (simp; done) | (simp [*]; done), dP⟩
 ·replace c5 := Bool.eq_false_iff.mpr c5
  subst c5
  replace H : (if t803 = true then (some 1) else (if a0 < a1 then (some (-1)) else (if a0 > a1 then (some 1) else (some 0)))) = some r := by rw [if_neg (show ¬ (false = true) by decide)] at H; exact H
  by_cases c7 : t803 = true
  ·subst c7
   replace H : (some 1) = some r := by rw [if_pos rfl] at H; exact H
   obtain rfl := Option.some.inj H
   go_enter Try.func78, Try.ntmps78
   go_wp2_with (first | ((with_reducible refine gate_callee (f := 79) rfl ?_); refine gL (some 8) Try.func79 #[.int .i64 a0] ?_; (with_reducible refine (cmp_isNaN_int.calls a0 false _ A3.out).mono ?_); rintro e w' ⟨rfl, ⟨nd, rfl⟩⟩; refine ⟨_, rfl, ?_⟩) | ((with_reducible refine gate_callee (f := 79) rfl ?_); refine gL (some 10) Try.func79 #[.int .i64 a1] ?_; (with_reducible refine (cmp_isNaN_int.calls a1 true _ A4.out).mono ?_); rintro e w' ⟨rfl, ⟨nd, rfl⟩⟩; refine ⟨_, rfl, ?_⟩))
   go_ret
   exact ⟨by first | rfl | (simp; done) | (simp [*]; done), dP⟩
  ·replace c7 := Bool.eq_false_iff.mpr c7
   subst c7
   replace H : (if a0 < a1 then (some (-1)) else (if a0 > a1 then (some 1) else (some 0))) = some r := by rw [if_neg (show ¬ (false = true) by decide)] at H; exact H
   by_cases c8 : a0 < a1
   ·rw [if_pos c8] at H
    have c8b0 : decide (a0 < a1) = true := decide_eq_true c8
    clear c8
    obtain rfl := Option.some.inj H
    go_enter Try.func78, Try.ntmps78
    go_wp2_with (first | ((with_reducible refine gate_callee (f := 79) rfl ?_); refine gL (some 8) Try.func79 #[.int .i64 a0] ?_; (with_reducible refine (cmp_isNaN_int.calls a0 false _ A3.out).mono ?_); rintro e w' ⟨rfl, ⟨nd, rfl⟩⟩; refine ⟨_, rfl, ?_⟩) | ((with_reducible refine gate_callee (f := 79) rfl ?_); refine gL (some 10) Try.func79 #[.int .i64 a1] ?_; (with_reducible refine (cmp_isNaN_int.calls a1 false _ A4.out).mono ?_); rintro e w' ⟨rfl, ⟨nd, rfl⟩⟩; refine ⟨_, rfl, ?_⟩))
    go_ret
    exact ⟨by first | rfl | (simp; done) | (simp [*]; done), dP⟩
   ·rw [if_neg c8] at H
    have c8b0 : decide (a0 < a1) = false := decide_eq_false c8
    clear c8
    by_cases c9 : a0 > a1
    ·rw [if_pos c9] at H
     have c9b0 : decide (a1 < a0) = true := decide_eq_true c9
     clear c9
     obtain rfl := Option.some.inj H
     go_enter Try.func78, Try.ntmps78
     go_wp2_with (first | ((with_reducible refine gate_callee (f := 79) rfl ?_); refine gL (some 8) Try.func79 #[.int .i64 a0] ?_; (with_reducible refine (cmp_isNaN_int.calls a0 false _ A3.out).mono ?_); rintro e w' ⟨rfl, ⟨nd, rfl⟩⟩; refine ⟨_, rfl, ?_⟩) | ((with_reducible refine gate_callee (f := 79) rfl ?_); refine gL (some 10) Try.func79 #[.int .i64 a1] ?_; (with_reducible refine (cmp_isNaN_int.calls a1 false _ A4.out).mono ?_); rintro e w' ⟨rfl, ⟨nd, rfl⟩⟩; refine ⟨_, rfl, ?_⟩))
     go_ret
     exact ⟨by first | rfl | (simp; done) | (simp [*]; done), dP⟩
    ·rw [if_neg c9] at H
     have c9b0 : decide (a1 < a0) = false := decide_eq_false c9
     clear c9
     obtain rfl := Option.some.inj H
     go_enter Try.func78, Try.ntmps78
     go_wp2_with (first | ((with_reducible refine gate_callee (f := 79) rfl ?_); refine gL (some 8) Try.func79 #[.int .i64 a0] ?_; (with_reducible refine (cmp_isNaN_int.calls a0 false _ A3.out).mono ?_); rintro e w' ⟨rfl, ⟨nd, rfl⟩⟩; refine ⟨_, rfl, ?_⟩) | ((with_reducible refine gate_callee (f := 79) rfl ?_); refine gL (some 10) Try.func79 #[.int .i64 a1] ?_; (with_reducible refine (cmp_isNaN_int.calls a1 false _ A4.out).mono ?_); rintro e w' ⟨rfl, ⟨nd, rfl⟩⟩; refine ⟨_, rfl, ?_⟩))
     go_ret
     exact ⟨by first | rfl | (simp; done) | (simp [*]; done), dP⟩

end Go.Proofs.Ytihabnfccgjfbaa.F
