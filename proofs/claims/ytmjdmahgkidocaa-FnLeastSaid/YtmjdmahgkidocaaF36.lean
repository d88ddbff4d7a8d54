/- Contracts: what these Go functions return. -/
import Derived.Test.YtmjdmahgkidocaaF0
import Derived.Test.YtmjdmahgkidocaaF35
namespace Go.Proofs.Ytmjdmahgkidocaa.F
open Go.RowKit Go.Proofs.YtmjdmahgkidocaaW.PrintWords Go.Proofs.YtmjdmahgkidocaaW.PrintLast Go.Proofs.YtmjdmahgkidocaaW.PrintMore
attribute [local go_sem] max2_int min2_int max_two min_two max_three min_three max_four min_four
set_option linter.unusedVariables false
set_option linter.unusedSimpArgs false

/-! ### spec_l2Rename: function 52 -/
def spec_l2Rename.f (k : Nat) (l0_0 : List Int) (l0_1 : List Int) (l1 : List Int) : Option (List Int × List Int) := (spec_PermConj.f k l0_0 l1).bind fun bt628 => ((spec_PermConj.f k l0_1 l1).bind fun bt632 => (some (bt628.1, bt632.1)))
set_option maxHeartbeats 8000000 in
set_option maxRecDepth 100000 in
theorem spec_l2Rename.calls (k : Nat) (A0_0 : Option Addr) (c0_0 : Nat) (l0_0 : List Int) (A0_1 : Option Addr) (c0_1 : Nat) (l0_1 : List Int) (A1 : Option Addr) (c1 : Nat) (l1 : List Int) (r1 : List Int) (r2 : List Int) (w : World) (hr0_0 : Kd.C (Kd.int .i64) w A0_0 l0_0.length l0_0) (hc0_0 : l0_0.length ≤ c0_0) (hr0_1 : Kd.C (Kd.int .i64) w A0_1 l0_1.length l0_1) (hc0_1 : l0_1.length ≤ c0_1) (hr1 : Kd.C (Kd.int .i64) w A1 l1.length l1) (hc1 : l1.length ≤ c1) (h : spec_l2Rename.f k l0_0 l0_1 l1 = some (r1, r2)) :
 Calls Try.prog 52 #[.agg #[.slice A0_0 l0_0.length c0_0, .slice A0_1 l0_1.length c0_1], .slice A1 l1.length c1] w fun e w' => ∃ v0_ v1_ : Value, e = .returned (.agg #[v0_, v1_]) ∧ Kd.R (Kd.int .i64) 3 w' w.heap.size (fun k_ => some k_ ≠ (v1_ : Value).ownBlock) v0_ r1 ∧ Kd.R (Kd.int .i64) 3 w' w.heap.size (fun k_ => some k_ ≠ (v0_ : Value).ownBlock) v1_ r2 ∧ Below w.heap.size w w' := by
 have hu24 := Try.underlying24
 have HR0_0 := Aside0.mk hr0_0
 have HC0_0 := Aside0.mk hc0_0
 clear hr0_0 hc0_0
 have HR0_1 := Aside0.mk hr0_1
 have HC0_1 := Aside0.mk hc0_1
 clear hr0_1 hc0_1
 have HR1 := Aside0.mk hr1
 have HC1 := Aside0.mk hc1
 clear hr1 hc1
 have HB := Aside0.mk (Below.refl w.heap.size w)
 have H : ((spec_PermConj.f k l0_0 l1).bind fun bt628 => ((spec_PermConj.f k l0_1 l1).bind fun bt632 => (some (bt628.1, bt632.1)))) = some (r1, r2) := h
 clear h
 replace H := Option.bind_eq_some_iff.mp H
 obtain ⟨⟨t628, t629⟩, A30, H⟩ := H
 replace H : ((spec_PermConj.f k l0_1 l1).bind fun bt632 => (some (t628, bt632.1))) = some (r1, r2) := H
 have A3 := Aside0.mk A30
 clear A30
 replace H := Option.bind_eq_some_iff.mp H
 obtain ⟨⟨t632, t633⟩, A40, H⟩ := H
 replace H : (some (t628, t632)) = some (r1, r2) := H
 have A4 := Aside0.mk A40
 clear A40
 simp only [Option.some.injEq, Prod.mk.injEq] at H
 obtain ⟨rfl, rfl⟩ := H
 go_enter Try.func52, Try.ntmps52
 go_wp2_with (first | ((with_reducible refine gate_dst (N := 2) rfl ?_); refine bE 2 #[.slice A0_0 l0_0.length c0_0, .slice A0_1 l0_1.length c0_1] 24 ?_; intro gb626 hg w5 hbox hb; have BK626 := Aside0.mk (hbox); have GW626 := gS HB hg; have GE626 := gS HB hg; replace HB := bS HB hb; clear hb hbox hg) | ((with_reducible refine gate_dst (N := 4) rfl ?_); refine bE 4 #[.slice none 0 0, .slice none 0 0] 24 ?_; intro gb627 hg w6 hbox hb; have BK627 := Aside0.mk (hbox); have GW627 := gS HB hg; have GE627 := gS HB hg; replace HB := bS HB hb; have NB626_627 := nL BK626 hg; have NB627_626 := nG BK626 hg; replace BK626 := kB BK626 hb; clear hb hbox hg; have hnb7 := NB626_627.out; have hnc7 := NB627_626.out; have hcz8_0 := zc0 BK626; have hcz8_1 := zc1 BK626; have hfz8_0 := blk_frozen BK626.out 0; have hfz8_1 := blk_frozen BK626.out 1) | ((with_reducible refine gate_callee (f := 58) rfl ?_); refine gL (some 13) Try.func58 #[.slice A0_0 l0_0.length c0_0, .slice A1 l1.length c1] ?_; (with_reducible refine (spec_PermConj.calls k _ _ l0_0 _ _ l1 t628 t629 _ ?side1 ?side2 ?side3 ?side4 A3.out).mono ?_); (case side1 => exact cB HR0_0 HB); (case side2 => exact HC0_0.out); (case side3 => exact cB HR1 HB); (case side4 => exact HC1.out); rintro e w9 ⟨v630, rfl, ho0, hb⟩; refine ⟨_, rfl, ?_⟩; have HO631 := rL ho0 HB; replace BK626 := kB BK626 hb; replace BK627 := kB BK627 hb; replace HB := bS HB hb; (try clear hb); (try clear hb2); (try clear hk); (try clear hi); (try clear ho0); have hcz10_0 := zc0 BK626; have hcz10_1 := zc1 BK626; have hfz10_0 := blk_frozen BK626.out 0; have hfz10_1 := blk_frozen BK626.out 1) | ((with_reducible refine gate_callee (f := 58) rfl ?_); refine gL (some 20) Try.func58 #[.slice A0_1 l0_1.length c0_1, .slice A1 l1.length c1] ?_; (with_reducible refine (spec_PermConj.calls k _ _ l0_1 _ _ l1 t632 t633 _ ?side1 ?side2 ?side3 ?side4 A4.out).mono ?_); (case side1 => exact cB HR0_1 HB); (case side2 => exact HC0_1.out); (case side3 => exact cB HR1 HB); (case side4 => exact HC1.out); rintro e w11 ⟨v634, rfl, ho0, hb⟩; refine ⟨_, rfl, ?_⟩; have HO635 := Aside0.mk (Kd.R_lower (Kd.R_new' ho0 (Kd.R_lt (rP HO631))) (below_size (bP HB))); replace HO631 := Aside0.mk (Kd.R_elder' (rP HO631) (Kd.R_base ho0) hb); replace BK626 := kB BK626 hb; replace BK627 := kB BK627 hb; replace HB := bS HB hb; (try clear hb); (try clear hb2); (try clear hk); (try clear hi); (try clear ho0); obtain ⟨Ao12, co12, eo12⟩ := Kd.R_slice HO635.out; subst eo12; obtain ⟨Ao13, co13, eo13⟩ := Kd.R_slice HO631.out; subst eo13; have hcz14_0 := zc0 BK627; have hcz14_1 := zc1 BK627; have hfz14_0 := blk_frozen BK627.out 0; have hfz14_1 := blk_frozen BK627.out 1))
 refine bodyPost_ret (results_cell_row rfl _ _ gb627 24 #[.slice Ao13 t628.length co13, .slice Ao12 t632.length co12] (0, 0) _ rfl (by (with_reducible repeat (first | refine blk_drewN ?_ _ | refine blk_drew ?_ | refine blk_alloc ?_ _)); refine blk_put (cs := #[.slice Ao13 t628.length co13, .slice none 0 0]) ?_ 1 _ rfl; (with_reducible repeat (first | refine blk_drewN ?_ _ | refine blk_drew ?_ | refine blk_alloc ?_ _)); refine blk_put (cs := #[.slice none 0 0, .slice none 0 0]) ?_ 0 _ rfl; (with_reducible repeat (first | refine blk_drewN ?_ _ | refine blk_drew ?_ | refine blk_alloc ?_ _)); exact BK627.out) Try.underlying24 rfl (by kernel_rfl)) rfl ?_
 exact ⟨_, _, eR, by (with_reducible repeat (first | apply Kd.R_alloc | apply Kd.R_drewN | apply Kd.R_drew)); exact Kd.R_mono (Kd.R_far (p := ⟨gb627, 1, none⟩) (Kd.R_far (p := ⟨gb627, 0, none⟩) (Kd.R_types HO631.out BK627.out (by decide)) (fun _ hk => hk.2) (.slice Ao13 t628.length co13)) (fun _ hk => hk.2) (.slice Ao12 t632.length co12)) (fun _ hk => hk.1.2), by (with_reducible repeat (first | apply Kd.R_alloc | apply Kd.R_drewN | apply Kd.R_drew)); exact Kd.R_mono (Kd.R_far (p := ⟨gb627, 1, none⟩) (Kd.R_far (p := ⟨gb627, 0, none⟩) (Kd.R_types HO635.out BK627.out (by decide)) (fun _ hk => hk.2) (.slice Ao13 t628.length co13)) (fun _ hk => hk.2) (.slice Ao12 t632.length co12)) (fun _ hk => hk.1.2), bP HB⟩

end Go.Proofs.Ytmjdmahgkidocaa.F
