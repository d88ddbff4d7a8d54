/- Contracts: what these Go functions return. -/
import Derived.Test.YteffimfifgnleaaF0
import Derived.Test.YteffimfifgnleaaF37
import Derived.Test.YteffimfifgnleaaF39
namespace Go.Proofs.Yteffimfifgnleaa.F
open Go.RowKit Go.Proofs.YteffimfifgnleaaW.PrintWords Go.Proofs.YteffimfifgnleaaW.PrintLast Go.Proofs.YteffimfifgnleaaW.PrintMore
attribute [local go_sem] max2_int min2_int max_two min_two max_three min_three max_four min_four
set_option linter.unusedVariables false
set_option linter.unusedSimpArgs false

/-! ### spec_l2Least: function 68 -/
def spec_l2Least.l0 : Nat → Int → List Int → List Int → List Int → List Int → Option (List Int × List Int)
 | 0, _, _, _, _, _ => none
 | k + 1, x4, x604000, x604001, x612000, x612001 => if x4 < (x604000.length : Int) then ((spec_l2Form.f k x604000 x604001 x4).bind fun bt612 => ((spec_l2Before.f k bt612.1 bt612.2 x612000 x612001).bind fun t619 => (if t619 < 0 then (spec_l2Least.l0 k (wrap64 (x4 + 1)) x604000 x604001 bt612.1 bt612.2) else (spec_l2Least.l0 k (wrap64 (x4 + 1)) x604000 x604001 x612000 x612001)))) else (some (x612000, x612001))
def spec_l2Least.f (k : Nat) (l0_0 : List Int) (l0_1 : List Int) : Option (List Int × List Int) := (spec_l2Form.f k l0_0 l0_1 0).bind fun bt605 => (spec_l2Least.l0 k 1 l0_0 l0_1 bt605.1 bt605.2)
set_option maxHeartbeats 8000000 in
set_option maxRecDepth 100000 in
theorem spec_l2Least.calls (k : Nat) (A0_0 : Option Addr) (c0_0 : Nat) (l0_0 : List Int) (A0_1 : Option Addr) (c0_1 : Nat) (l0_1 : List Int) (r1 : List Int) (r2 : List Int) (w : World) (hr0_0 : Kd.C (Kd.int .i64) w A0_0 l0_0.length l0_0) (hc0_0 : l0_0.length ≤ c0_0) (hr0_1 : Kd.C (Kd.int .i64) w A0_1 l0_1.length l0_1) (hc0_1 : l0_1.length ≤ c0_1) (h : spec_l2Least.f k l0_0 l0_1 = some (r1, r2)) :
 Calls Try.prog 68 #[.agg #[.slice A0_0 l0_0.length c0_0, .slice A0_1 l0_1.length c0_1]] w fun e w' => ∃ v0_ v1_ : Value, e = .returned (.agg #[v0_, v1_]) ∧ Kd.R (Kd.int .i64) 3 w' w.heap.size (fun k_ => some k_ ≠ (v1_ : Value).ownBlock) v0_ r1 ∧ Kd.R (Kd.int .i64) 3 w' w.heap.size (fun k_ => some k_ ≠ (v0_ : Value).ownBlock) v1_ r2 ∧ Below w.heap.size w w' := by
 have hu40 := Try.underlying40
 have HR0_0 := Aside0.mk hr0_0
 have HC0_0 := Aside0.mk hc0_0
 clear hr0_0 hc0_0
 have HR0_1 := Aside0.mk hr0_1
 have HC0_1 := Aside0.mk hc0_1
 clear hr0_1 hc0_1
 have HB := Aside0.mk (Below.refl w.heap.size w)
 have H : ((spec_l2Form.f k l0_0 l0_1 0).bind fun bt605 => (spec_l2Least.l0 k 1 l0_0 l0_1 bt605.1 bt605.2)) = some (r1, r2) := h
 clear h
 obtain ⟨⟨t605, t608⟩, A20, H⟩ := Option.bind_eq_some_iff.mp H
 dsimp only at H
 have A2 := Aside0.mk A20
 clear A20
 have H' := Aside0.mk H
 clear H
 go_enter Try.func68, Try.ntmps68
 go_wp2_with (first | ((with_reducible refine gate_dst (N := 1) rfl ?_); refine bE 1 #[.slice A0_0 l0_0.length c0_0, .slice A0_1 l0_1.length c0_1] 40 ?_; intro gb603 hg w3 hbox hb; have BK603 := Aside0.mk (hbox); have GW603 := gS HB hg; have GE603 := gS HB hg; replace HB := bS HB hb; clear hb hbox hg) | ((with_reducible refine gate_dst (N := 2) rfl ?_); refine bE 2 #[.slice none 0 0, .slice none 0 0] 40 ?_; intro gb604 hg w4 hbox hb; have BK604 := Aside0.mk (hbox); have GW604 := gS HB hg; have GE604 := gS HB hg; replace HB := bS HB hb; have NB603_604 := nL BK603 hg; have NB604_603 := nG BK603 hg; replace BK603 := kB BK603 hb; clear hb hbox hg; have hnb5 := NB603_604.out; have hnc5 := NB604_603.out; have hcz6_0 := zc0 BK603; have hcz6_1 := zc1 BK603; have hfz6_0 := blk_frozen BK603.out 0; have hfz6_1 := blk_frozen BK603.out 1) | ((with_reducible refine gate_callee (f := 82) rfl ?_); refine gL (some 7) Try.func82 #[.agg #[.slice A0_0 l0_0.length c0_0, .slice A0_1 l0_1.length c0_1], .int .i64 0] ?_; (with_reducible refine (spec_l2Form.calls k _ _ l0_0 _ _ l0_1 0 t605 t608 _ ?side1 ?side2 ?side3 ?side4 A2.out).mono ?_); (case side1 => exact cB HR0_0 HB); (case side2 => exact HC0_0.out); (case side3 => exact cB HR0_1 HB); (case side4 => exact HC0_1.out); rintro e w7 ⟨v606, v609, rfl, ho0, ho1, hb⟩; refine ⟨_, rfl, ?_⟩; have HO607 := rL ho0 HB; have HO610 := rL ho1 HB; replace BK603 := kB BK603 hb; replace BK604 := kB BK604 hb; replace HB := bS HB hb; (try clear hb); (try clear hb2); (try clear hk); (try clear hi); (try clear ho0); (try clear ho1)) | ((with_reducible refine gate_dst (N := 3) rfl ?_); refine bE 3 #[.slice none 0 0, .slice none 0 0] 40 ?_; intro gb611 hg w8 hbox hb; replace HO607 := rB HO607 hb; replace HO610 := rB HO610 hb; have BK611 := Aside0.mk (hbox); have GW611 := gS HB hg; have GE611 := gS HB hg; replace HB := bS HB hb; have NB603_611 := nL BK603 hg; have NB611_603 := nG BK603 hg; replace BK603 := kB BK603 hb; have NB604_611 := nL BK604 hg; have NB611_604 := nG BK604 hg; replace BK604 := kB BK604 hb; clear hb hbox hg; obtain ⟨Ao9, co9, eo9⟩ := Kd.R_slice HO607.out; subst eo9; have hnb10 := NB611_603.out; have hnc10 := NB603_611.out; have hnb11 := NB611_604.out; have hnc11 := NB604_611.out; have hcz12_0 := zc0 BK611; have hcz12_1 := zc1 BK611; have hfz12_0 := blk_frozen BK611.out 0; have hfz12_1 := blk_frozen BK611.out 1; obtain ⟨Ao13, co13, eo13⟩ := Kd.R_slice HO610.out; subst eo13))
 go_loopg [4] k (fun kq v4 w' => ∃ (x4_1 : Int) (x612000_1 : List Int) (x612001_1 : List Int) (u612000 : Value) (u612001 : Value), v4 = .int .i64 x4_1 ∧ Aside0 (spec_l2Least.l0 kq x4_1 l0_0 l0_1 x612000_1 x612001_1 = some (r1, r2)) ∧ Aside0 (kq ≤ k) ∧ Aside0 (Kd.R (Kd.int .i64) 3 w' w.heap.size (fun k_ => some k_ ≠ (u612001 : Value).ownBlock) u612000 x612000_1) ∧ Aside0 (Kd.R (Kd.int .i64) 3 w' w.heap.size (fun k_ => some k_ ≠ (u612000 : Value).ownBlock) u612001 x612001_1) ∧ Aside0 (w'.heap[gb603]? = some (.cells #[(.slice A0_0 l0_0.length c0_0), (.slice A0_1 l0_1.length c0_1)] 40 (0, 0))) ∧ Aside0 (w'.heap[gb604]? = some (.cells #[(.slice none 0 0), (.slice none 0 0)] 40 (0, 0))) ∧ Aside0 (w'.heap[gb611]? = some (.cells #[u612000, u612001] 40 (0, 0))) ∧ Aside0 (Below w.heap.size w w'))
 case atStart => exact ⟨(1), (t605), (t608), (.slice Ao9 t605.length co9), (.slice Ao13 t608.length co13), eS, H', ⟨Nat.le_refl _⟩, ⟨rT (Kd.R_mono (rF gb611 1 (rF gb611 0 (rY HO607 BK611) (.slice Ao9 t605.length co9)) (.slice Ao13 t608.length co13)) (fun _ hk => hk.1))⟩, ⟨rT (Kd.R_mono (rF gb611 1 (rF gb611 0 (rY HO610 BK611) (.slice Ao9 t605.length co9)) (.slice Ao13 t608.length co13)) (fun _ hk => hk.1))⟩, ⟨kF BK603⟩, ⟨kF BK604⟩, ⟨by (with_reducible repeat (first | refine blk_drewN ?_ _ | refine blk_drew ?_ | refine blk_alloc ?_ _)); refine blk_put (cs := #[.slice Ao9 t605.length co9, .slice none 0 0]) ?_ 1 _ rfl; (with_reducible repeat (first | refine blk_drewN ?_ _ | refine blk_drew ?_ | refine blk_alloc ?_ _)); refine blk_put (cs := #[.slice none 0 0, .slice none 0 0]) ?_ 0 _ rfl; (with_reducible repeat (first | refine blk_drewN ?_ _ | refine blk_drew ?_ | refine blk_alloc ?_ _)); exact BK611.out⟩, ⟨bP HB⟩⟩
 case round =>
  clear H'
  try clear c1
  try clear p2
  try clear c5
  try clear c6
  try clear c8
  try clear c10
  try clear c11
  try clear hcz12_0
  try clear hcz12_1
  try clear hcz6_0
  try clear hcz6_1
  try clear hfz12_0
  try clear hfz12_1
  try clear hfz6_0
  try clear hfz6_1
  obtain ⟨x4_1, x612000_1, x612001_1, u612000, u612001, rfl, HA, HK1, HO_612000, HO_612001, BK603, BK604, BK611, HB⟩ := hrel
  cases gk with
  | zero => exact absurd HA.out (by simp [spec_l2Least.l0])
  | succ k1 =>
   have H := HA.out
   clear HA
   simp only [spec_l2Least.l0] at H
   by_cases c14 : x4_1 < (l0_0.length : Int)
   ·rw [if_pos c14] at H
    have c14b0 : decide (x4_1 < (l0_0.length : Int)) = true := decide_eq_true c14
    clear c14
    obtain ⟨⟨t612, t615⟩, A150, H⟩ := Option.bind_eq_some_iff.mp H
    dsimp only at H
    have A15 := Aside0.mk A150
    clear A150
    obtain ⟨t619, A160, H⟩ := Option.bind_eq_some_iff.mp H
    have A16 := Aside0.mk A160
    clear A160
    by_cases c17 : t619 < 0
    ·rw [if_pos c17] at H
     have c17b0 : decide (t619 < 0) = true := decide_eq_true c17
     clear c17
     have H' := Aside0.mk H
     clear H
     have hnb18 := NB603_604.out
     have hnc18 := NB604_603.out
     have hnb19 := NB603_611.out
     have hnc19 := NB611_603.out
     have hcz20_0 := zc0 BK603
     have hcz20_1 := zc1 BK603
     have hfz20_0 := blk_frozen BK603.out 0
     have hfz20_1 := blk_frozen BK603.out 1
     go_wp2_with (first | ((with_reducible refine gate_callee (f := 82) rfl ?_); refine gL (some 17) Try.func82 #[.agg #[.slice A0_0 l0_0.length c0_0, .slice A0_1 l0_1.length c0_1], .int .i64 x4_1] ?_; (with_reducible refine (spec_l2Form.calls k1 _ _ l0_0 _ _ l0_1 x4_1 t612 t615 _ ?side1 ?side2 ?side3 ?side4 A15.out).mono ?_); (case side1 => exact cB HR0_0 HB); (case side2 => exact HC0_0.out); (case side3 => exact cB HR0_1 HB); (case side4 => exact HC0_1.out); rintro e w21 ⟨v613, v616, rfl, ho0, ho1, hb⟩; refine ⟨_, rfl, ?_⟩; have HO614 := Aside0.mk (Kd.R_lower (Kd.R_new' (Kd.R_new' ho0 (Kd.R_lt (rP HO_612000))) (Kd.R_lt (rP HO_612001))) (below_size (bP HB))); have HO617 := Aside0.mk (Kd.R_lower (Kd.R_new' (Kd.R_new' ho1 (Kd.R_lt (rP HO_612000))) (Kd.R_lt (rP HO_612001))) (below_size (bP HB))); replace HO_612000 := Aside0.mk (Kd.R_mono (Kd.R_told (Kd.R_told (Kd.R_old (rP HO_612000) hb) (Kd.R_base ho0)) (Kd.R_base ho1)) (fun _ h_ => h_.1)); replace HO_612001 := Aside0.mk (Kd.R_mono (Kd.R_told (Kd.R_told (Kd.R_old (rP HO_612001) hb) (Kd.R_base ho0)) (Kd.R_base ho1)) (fun _ h_ => h_.1)); replace BK603 := kB BK603 hb; replace BK604 := kB BK604 hb; replace BK611 := kB BK611 hb; replace HB := bS HB hb; (try clear hb); (try clear hb2); (try clear hk); (try clear hi); (try clear ho0); (try clear ho1)) | ((with_reducible refine gate_dst (N := 5) rfl ?_); refine bE 5 #[.slice none 0 0, .slice none 0 0] 40 ?_; intro gb618 hg w22 hbox hb; replace HO_612000 := rB HO_612000 hb; replace HO_612001 := rB HO_612001 hb; replace HO614 := rB HO614 hb; replace HO617 := rB HO617 hb; have BK618 := Aside0.mk (hbox); have GW618 := gS HB hg; have GE618 := gS HB hg; replace HB := bS HB hb; have NB603_618 := nL BK603 hg; have NB618_603 := nG BK603 hg; replace BK603 := kB BK603 hb; have NB604_618 := nL BK604 hg; have NB618_604 := nG BK604 hg; replace BK604 := kB BK604 hb; have NB611_618 := nL BK611 hg; have NB618_611 := nG BK611 hg; replace BK611 := kB BK611 hb; clear hb hbox hg; obtain ⟨Ao23, co23, eo23⟩ := Kd.R_slice HO614.out; subst eo23; have hnb24 := NB618_603.out; have hnc24 := NB603_618.out; have hnb25 := NB618_604.out; have hnc25 := NB604_618.out; have hnb26 := NB618_611.out; have hnc26 := NB611_618.out; have hcz27_0 := zc0 BK618; have hcz27_1 := zc1 BK618; have hfz27_0 := blk_frozen BK618.out 0; have hfz27_1 := blk_frozen BK618.out 1; obtain ⟨Ao28, co28, eo28⟩ := Kd.R_slice HO617.out; subst eo28; have hnb29 := NB611_604.out; have hnc29 := NB604_611.out; have hcz30_0 := zc0 BK611; have hcz30_1 := zc1 BK611; have hfz30_0 := blk_frozen BK611.out 0; have hfz30_1 := blk_frozen BK611.out 1; obtain ⟨Ao31, co31, eo31⟩ := Kd.R_slice HO_612000.out; subst eo31; obtain ⟨Ao32, co32, eo32⟩ := Kd.R_slice HO_612001.out; subst eo32) | ((with_reducible refine gate_callee (f := 67) rfl ?_); refine gL (some 20) Try.func67 #[.agg #[.slice Ao23 t612.length co23, .slice Ao28 t615.length co28], .agg #[.slice Ao31 x612000_1.length co31, .slice Ao32 x612001_1.length co32]] ?_; (with_reducible refine (spec_l2Before.calls k1 _ _ t612 _ _ t615 _ _ x612000_1 _ _ x612001_1 t619 _ ?side1 ?side2 ?side3 ?side4 ?side5 ?side6 ?side7 ?side8 A16.out).mono ?_); (case side1 => refine (Kd.R_reads' (e := 3) (base := w.heap.size) (ok := fun k_ => ((some k_ ≠ (.slice Ao28 t615.length co28 : Value).ownBlock ∧ some k_ ≠ (.slice Ao31 x612000_1.length co31 : Value).ownBlock) ∧ some k_ ≠ (.slice Ao32 x612001_1.length co32 : Value).ownBlock)) (n := t612.length) (c := co23) ?_).2.2; exact (rT (Kd.R_mono (rF gb618 1 (rF gb618 0 (rY HO614 BK618) (.slice Ao23 t612.length co23)) (.slice Ao28 t615.length co28)) (fun _ h_ => h_.1)))); (case side2 => exact (Kd.R_reads' HO614.out).2.1); (case side3 => refine (Kd.R_reads' (e := 3) (base := w.heap.size) (ok := fun k_ => ((some k_ ≠ (.slice Ao23 t612.length co23 : Value).ownBlock ∧ some k_ ≠ (.slice Ao31 x612000_1.length co31 : Value).ownBlock) ∧ some k_ ≠ (.slice Ao32 x612001_1.length co32 : Value).ownBlock)) (n := t615.length) (c := co28) ?_).2.2; exact (rT (Kd.R_mono (rF gb618 1 (rF gb618 0 (rY HO617 BK618) (.slice Ao23 t612.length co23)) (.slice Ao28 t615.length co28)) (fun _ h_ => h_.1)))); (case side4 => exact (Kd.R_reads' HO617.out).2.1); (case side5 => refine (Kd.R_reads' (e := 3) (base := w.heap.size) (ok := fun k_ => ((some k_ ≠ (.slice Ao32 x612001_1.length co32 : Value).ownBlock ∧ some k_ ≠ (.slice Ao23 t612.length co23 : Value).ownBlock) ∧ some k_ ≠ (.slice Ao28 t615.length co28 : Value).ownBlock)) (n := x612000_1.length) (c := co31) ?_).2.2; exact (rT (Kd.R_mono (rF gb618 1 (rF gb618 0 (rY HO_612000 BK618) (.slice Ao23 t612.length co23)) (.slice Ao28 t615.length co28)) (fun _ h_ => h_.1)))); (case side6 => exact (Kd.R_reads' HO_612000.out).2.1); (case side7 => refine (Kd.R_reads' (e := 3) (base := w.heap.size) (ok := fun k_ => ((some k_ ≠ (.slice Ao31 x612000_1.length co31 : Value).ownBlock ∧ some k_ ≠ (.slice Ao23 t612.length co23 : Value).ownBlock) ∧ some k_ ≠ (.slice Ao28 t615.length co28 : Value).ownBlock)) (n := x612001_1.length) (c := co32) ?_).2.2; exact (rT (Kd.R_mono (rF gb618 1 (rF gb618 0 (rY HO_612001 BK618) (.slice Ao23 t612.length co23)) (.slice Ao28 t615.length co28)) (fun _ h_ => h_.1)))); (case side8 => exact (Kd.R_reads' HO_612001.out).2.1); rintro e w33 ⟨rfl, hb⟩; refine ⟨_, rfl, ?_⟩; replace HO_612000 := Aside0.mk (Kd.R_below (rT (Kd.R_mono (rF gb618 1 (rF gb618 0 (rY HO_612000 BK618) (.slice Ao23 t612.length co23)) (.slice Ao28 t615.length co28)) (fun _ h_ => h_.1))) hb); replace HO_612001 := Aside0.mk (Kd.R_below (rT (Kd.R_mono (rF gb618 1 (rF gb618 0 (rY HO_612001 BK618) (.slice Ao23 t612.length co23)) (.slice Ao28 t615.length co28)) (fun _ h_ => h_.1))) hb); replace HO614 := Aside0.mk (Kd.R_below (rT (Kd.R_mono (rF gb618 1 (rF gb618 0 (rY HO614 BK618) (.slice Ao23 t612.length co23)) (.slice Ao28 t615.length co28)) (fun _ h_ => h_.1))) hb); replace HO617 := Aside0.mk (Kd.R_below (rT (Kd.R_mono (rF gb618 1 (rF gb618 0 (rY HO617 BK618) (.slice Ao23 t612.length co23)) (.slice Ao28 t615.length co28)) (fun _ h_ => h_.1))) hb); replace BK603 := kG BK603 hb; replace BK604 := kG BK604 hb; replace BK611 := kG BK611 hb; replace BK618 := Aside0.mk (blk_below (g := gb618) (o := .cells #[.slice Ao23 t612.length co23, .slice Ao28 t615.length co28] 40 (0, 0)) (by (with_reducible repeat (first | refine blk_drewN ?_ _ | refine blk_drew ?_ | refine blk_alloc ?_ _)); refine blk_put (cs := #[.slice Ao23 t612.length co23, .slice none 0 0]) ?_ 1 _ rfl; (with_reducible repeat (first | refine blk_drewN ?_ _ | refine blk_drew ?_ | refine blk_alloc ?_ _)); refine blk_put (cs := #[.slice none 0 0, .slice none 0 0]) ?_ 0 _ rfl; (with_reducible repeat (first | refine blk_drewN ?_ _ | refine blk_drew ?_ | refine blk_alloc ?_ _)); exact BK618.out) hb); replace HB := bS HB hb; (try clear hb); (try clear hb2); (try clear hk); (try clear hi); have hcz34_0 := zc0 BK618; have hcz34_1 := zc1 BK618; have hfz34_0 := blk_frozen BK618.out 0; have hfz34_1 := blk_frozen BK618.out 1; have hcz35_0 := zc0 BK611; have hcz35_1 := zc1 BK611; have hfz35_0 := blk_frozen BK611.out 0; have hfz35_1 := blk_frozen BK611.out 1))
     go_roundg k1
     case measure => have := HK1.out; omega
     case rel => exact ⟨(wrap64 (x4_1 + 1)), (t612), (t615), (.slice Ao23 t612.length co23), (.slice Ao28 t615.length co28), eS, H', ⟨by have := HK1.out; omega⟩, ⟨rT (Kd.R_mono (rF gb611 1 (rF gb611 0 (rY HO614 BK611) (.slice Ao23 t612.length co23)) (.slice Ao28 t615.length co28)) (fun _ hk => hk.1.1.1))⟩, ⟨rT (Kd.R_mono (rF gb611 1 (rF gb611 0 (rY HO617 BK611) (.slice Ao23 t612.length co23)) (.slice Ao28 t615.length co28)) (fun _ hk => hk.1.1.1))⟩, ⟨kF BK603⟩, ⟨kF BK604⟩, ⟨by (with_reducible repeat (first | refine blk_drewN ?_ _ | refine blk_drew ?_ | refine blk_alloc ?_ _)); refine blk_put (cs := #[.slice Ao23 t612.length co23, .slice Ao32 x612001_1.length co32]) ?_ 1 _ rfl; (with_reducible repeat (first | refine blk_drewN ?_ _ | refine blk_drew ?_ | refine blk_alloc ?_ _)); refine blk_put (cs := #[.slice Ao31 x612000_1.length co31, .slice Ao32 x612001_1.length co32]) ?_ 0 _ rfl; (with_reducible repeat (first | refine blk_drewN ?_ _ | refine blk_drew ?_ | refine blk_alloc ?_ _)); exact BK611.out⟩, ⟨bP HB⟩⟩
    rw [if_neg c17] at H
    have c17b0 : decide (t619 < 0) = false := decide_eq_false c17
    clear c17
    have H' := Aside0.mk H
    clear H
    have hnb36 := NB603_604.out
    have hnc36 := NB604_603.out
    have hnb37 := NB603_611.out
    have hnc37 := NB611_603.out
    have hcz38_0 := zc0 BK603
    have hcz38_1 := zc1 BK603
    have hfz38_0 := blk_frozen BK603.out 0
    have hfz38_1 := blk_frozen BK603.out 1
    go_wp2_with (first | ((with_reducible refine gate_callee (f := 82) rfl ?_); refine gL (some 17) Try.func82 #[.agg #[.slice A0_0 l0_0.length c0_0, .slice A0_1 l0_1.length c0_1], .int .i64 x4_1] ?_; (with_reducible refine (spec_l2Form.calls k1 _ _ l0_0 _ _ l0_1 x4_1 t612 t615 _ ?side1 ?side2 ?side3 ?side4 A15.out).mono ?_); (case side1 => exact cB HR0_0 HB); (case side2 => exact HC0_0.out); (case side3 => exact cB HR0_1 HB); (case side4 => exact HC0_1.out); rintro e w39 ⟨v613, v616, rfl, ho0, ho1, hb⟩; refine ⟨_, rfl, ?_⟩; have HO614 := Aside0.mk (Kd.R_lower (Kd.R_new' (Kd.R_new' ho0 (Kd.R_lt (rP HO_612000))) (Kd.R_lt (rP HO_612001))) (below_size (bP HB))); have HO617 := Aside0.mk (Kd.R_lower (Kd.R_new' (Kd.R_new' ho1 (Kd.R_lt (rP HO_612000))) (Kd.R_lt (rP HO_612001))) (below_size (bP HB))); replace HO_612000 := Aside0.mk (Kd.R_mono (Kd.R_told (Kd.R_told (Kd.R_old (rP HO_612000) hb) (Kd.R_base ho0)) (Kd.R_base ho1)) (fun _ h_ => h_.1)); replace HO_612001 := Aside0.mk (Kd.R_mono (Kd.R_told (Kd.R_told (Kd.R_old (rP HO_612001) hb) (Kd.R_base ho0)) (Kd.R_base ho1)) (fun _ h_ => h_.1)); replace BK603 := kB BK603 hb; replace BK604 := kB BK604 hb; replace BK611 := kB BK611 hb; replace HB := bS HB hb; (try clear hb); (try clear hb2); (try clear hk); (try clear hi); (try clear ho0); (try clear ho1)) | ((with_reducible refine gate_dst (N := 5) rfl ?_); refine bE 5 #[.slice none 0 0, .slice none 0 0] 40 ?_; intro gb618 hg w40 hbox hb; replace HO_612000 := rB HO_612000 hb; replace HO_612001 := rB HO_612001 hb; replace HO614 := rB HO614 hb; replace HO617 := rB HO617 hb; have BK618 := Aside0.mk (hbox); have GW618 := gS HB hg; have GE618 := gS HB hg; replace HB := bS HB hb; have NB603_618 := nL BK603 hg; have NB618_603 := nG BK603 hg; replace BK603 := kB BK603 hb; have NB604_618 := nL BK604 hg; have NB618_604 := nG BK604 hg; replace BK604 := kB BK604 hb; have NB611_618 := nL BK611 hg; have NB618_611 := nG BK611 hg; replace BK611 := kB BK611 hb; clear hb hbox hg; obtain ⟨Ao41, co41, eo41⟩ := Kd.R_slice HO614.out; subst eo41; have hnb42 := NB618_603.out; have hnc42 := NB603_618.out; have hnb43 := NB618_604.out; have hnc43 := NB604_618.out; have hnb44 := NB618_611.out; have hnc44 := NB611_618.out; have hcz45_0 := zc0 BK618; have hcz45_1 := zc1 BK618; have hfz45_0 := blk_frozen BK618.out 0; have hfz45_1 := blk_frozen BK618.out 1; obtain ⟨Ao46, co46, eo46⟩ := Kd.R_slice HO617.out; subst eo46; have hnb47 := NB611_604.out; have hnc47 := NB604_611.out; have hcz48_0 := zc0 BK611; have hcz48_1 := zc1 BK611; have hfz48_0 := blk_frozen BK611.out 0; have hfz48_1 := blk_frozen BK611.out 1; obtain ⟨Ao49, co49, eo49⟩ := Kd.R_slice HO_612000.out; subst eo49; obtain ⟨Ao50, co50, eo50⟩ := Kd.R_slice HO_612001.out; subst eo50) | ((with_reducible refine gate_callee (f := 67) rfl ?_); refine gL (some 20) Try.func67 #[.agg #[.slice Ao41 t612.length co41, .slice Ao46 t615.length co46], .agg #[.slice Ao49 x612000_1.length co49, .slice Ao50 x612001_1.length co50]] ?_; (with_reducible refine (spec_l2Before.calls k1 _ _ t612 _ _ t615 _ _ x612000_1 _ _ x612001_1 t619 _ ?side1 ?side2 ?side3 ?side4 ?side5 ?side6 ?side7 ?side8 A16.out).mono ?_); (case side1 => refine (Kd.R_reads' (e := 3) (base := w.heap.size) (ok := fun k_ => ((some k_ ≠ (.slice Ao46 t615.length co46 : Value).ownBlock ∧ some k_ ≠ (.slice Ao49 x612000_1.length co49 : Value).ownBlock) ∧ some k_ ≠ (.slice Ao50 x612001_1.length co50 : Value).ownBlock)) (n := t612.length) (c := co41) ?_).2.2; exact (rT (Kd.R_mono (rF gb618 1 (rF gb618 0 (rY HO614 BK618) (.slice Ao41 t612.length co41)) (.slice Ao46 t615.length co46)) (fun _ h_ => h_.1)))); (case side2 => exact (Kd.R_reads' HO614.out).2.1); (case side3 => refine (Kd.R_reads' (e := 3) (base := w.heap.size) (ok := fun k_ => ((some k_ ≠ (.slice Ao41 t612.length co41 : Value).ownBlock ∧ some k_ ≠ (.slice Ao49 x612000_1.length co49 : Value).ownBlock) ∧ some k_ ≠ (.slice Ao50 x612001_1.length co50 : Value).ownBlock)) (n := t615.length) (c := co46) ?_).2.2; exact (rT (Kd.R_mono (rF gb618 1 (rF gb618 0 (rY HO617 BK618) (.slice Ao41 t612.length co41)) (.slice Ao46 t615.length co46)) (fun _ h_ => h_.1)))); (case side4 => exact (Kd.R_reads' HO617.out).2.1); (case side5 => refine (Kd.R_reads' (e := 3) (base := w.heap.size) (ok := fun k_ => ((some k_ ≠ (.slice Ao50 x612001_1.length co50 : Value).ownBlock ∧ some k_ ≠ (.slice Ao41 t612.length co41 : Value).ownBlock) ∧ some k_ ≠ (.slice Ao46 t615.length co46 : Value).ownBlock)) (n := x612000_1.length) (c := co49) ?_).2.2; exact (rT (Kd.R_mono (rF gb618 1 (rF gb618 0 (rY HO_612000 BK618) (.slice Ao41 t612.length co41)) (.slice Ao46 t615.length co46)) (fun _ h_ => h_.1)))); (case side6 => exact (Kd.R_reads' HO_612000.out).2.1); (case side7 => refine (Kd.R_reads' (e := 3) (base := w.heap.size) (ok := fun k_ => ((some k_ ≠ (.slice Ao49 x612000_1.length co49 : Value).ownBlock ∧ some k_ ≠ (.slice Ao41 t612.length co41 : Value).ownBlock) ∧ some k_ ≠ (.slice Ao46 t615.length co46 : Value).ownBlock)) (n := x612001_1.length) (c := co50) ?_).2.2; exact (rT (Kd.R_mono (rF gb618 1 (rF gb618 0 (rY HO_612001 BK618) (.slice Ao41 t612.length co41)) (.slice Ao46 t615.length co46)) (fun _ h_ => h_.1)))); (case side8 => exact (Kd.R_reads' HO_612001.out).2.1); rintro e w51 ⟨rfl, hb⟩; refine ⟨_, rfl, ?_⟩; replace HO_612000 := Aside0.mk (Kd.R_below (rT (Kd.R_mono (rF gb618 1 (rF gb618 0 (rY HO_612000 BK618) (.slice Ao41 t612.length co41)) (.slice Ao46 t615.length co46)) (fun _ h_ => h_.1))) hb); replace HO_612001 := Aside0.mk (Kd.R_below (rT (Kd.R_mono (rF gb618 1 (rF gb618 0 (rY HO_612001 BK618) (.slice Ao41 t612.length co41)) (.slice Ao46 t615.length co46)) (fun _ h_ => h_.1))) hb); replace HO614 := Aside0.mk (Kd.R_below (rT (Kd.R_mono (rF gb618 1 (rF gb618 0 (rY HO614 BK618) (.slice Ao41 t612.length co41)) (.slice Ao46 t615.length co46)) (fun _ h_ => h_.1))) hb); replace HO617 := Aside0.mk (Kd.R_below (rT (Kd.R_mono (rF gb618 1 (rF gb618 0 (rY HO617 BK618) (.slice Ao41 t612.length co41)) (.slice Ao46 t615.length co46)) (fun _ h_ => h_.1))) hb); replace BK603 := kG BK603 hb; replace BK604 := kG BK604 hb; replace BK611 := kG BK611 hb; replace BK618 := Aside0.mk (blk_below (g := gb618) (o := .cells #[.slice Ao41 t612.length co41, .slice Ao46 t615.length co46] 40 (0, 0)) (by (with_reducible repeat (first | refine blk_drewN ?_ _ | refine blk_drew ?_ | refine blk_alloc ?_ _)); refine blk_put (cs := #[.slice Ao41 t612.length co41, .slice none 0 0]) ?_ 1 _ rfl; (with_reducible repeat (first | refine blk_drewN ?_ _ | refine blk_drew ?_ | refine blk_alloc ?_ _)); refine blk_put (cs := #[.slice none 0 0, .slice none 0 0]) ?_ 0 _ rfl; (with_reducible repeat (first | refine blk_drewN ?_ _ | refine blk_drew ?_ | refine blk_alloc ?_ _)); exact BK618.out) hb); replace HB := bS HB hb; (try clear hb); (try clear hb2); (try clear hk); (try clear hi)))
    go_roundg k1
    case measure => have := HK1.out; omega
    case rel => exact ⟨(wrap64 (x4_1 + 1)), (x612000_1), (x612001_1), (.slice Ao49 x612000_1.length co49), (.slice Ao50 x612001_1.length co50), eS, H', ⟨by have := HK1.out; omega⟩, ⟨rT (Kd.R_mono HO_612000.out (fun _ hk => hk.1.1))⟩, ⟨rT (Kd.R_mono HO_612001.out (fun _ hk => hk.1.1))⟩, ⟨kP BK603⟩, ⟨kP BK604⟩, ⟨kP BK611⟩, ⟨bP HB⟩⟩
   ·rw [if_neg c14] at H
    have c14b0 : decide (x4_1 < (l0_0.length : Int)) = false := decide_eq_false c14
    clear c14
    simp only [Option.some.injEq, Prod.mk.injEq] at H
    obtain ⟨rfl, rfl⟩ := H
    have hnb52 := NB603_604.out
    have hnc52 := NB604_603.out
    have hnb53 := NB603_611.out
    have hnc53 := NB611_603.out
    have hcz54_0 := zc0 BK603
    have hcz54_1 := zc1 BK603
    have hfz54_0 := blk_frozen BK603.out 0
    have hfz54_1 := blk_frozen BK603.out 1
    have hnb55 := NB611_604.out
    have hnc55 := NB604_611.out
    have hcz56_0 := zc0 BK611
    have hcz56_1 := zc1 BK611
    have hfz56_0 := blk_frozen BK611.out 0
    have hfz56_1 := blk_frozen BK611.out 1
    obtain ⟨Ao57, co57, eo57⟩ := Kd.R_slice HO_612000.out
    subst eo57
    have hcz58_0 := zc0 BK604
    have hcz58_1 := zc1 BK604
    have hfz58_0 := blk_frozen BK604.out 0
    have hfz58_1 := blk_frozen BK604.out 1
    obtain ⟨Ao59, co59, eo59⟩ := Kd.R_slice HO_612001.out
    subst eo59
    go_wp2
    refine bodyPost_ret (results_cell_row rfl _ _ gb604 40 #[.slice Ao57 x612000_1.length co57, .slice Ao59 x612001_1.length co59] (0, 0) _ rfl (by (with_reducible repeat (first | refine blk_drewN ?_ _ | refine blk_drew ?_ | refine blk_alloc ?_ _)); refine blk_put (cs := #[.slice Ao57 x612000_1.length co57, .slice none 0 0]) ?_ 1 _ rfl; (with_reducible repeat (first | refine blk_drewN ?_ _ | refine blk_drew ?_ | refine blk_alloc ?_ _)); refine blk_put (cs := #[.slice none 0 0, .slice none 0 0]) ?_ 0 _ rfl; (with_reducible repeat (first | refine blk_drewN ?_ _ | refine blk_drew ?_ | refine blk_alloc ?_ _)); exact BK604.out) Try.underlying40 rfl (by kernel_rfl)) rfl ?_
    exact ⟨_, _, eR, rT (Kd.R_mono (rF gb604 1 (rF gb604 0 (rY HO_612000 BK604) (.slice Ao57 x612000_1.length co57)) (.slice Ao59 x612001_1.length co59)) (fun _ hk => hk.1)), rT (Kd.R_mono (rF gb604 1 (rF gb604 0 (rY HO_612001 BK604) (.slice Ao57 x612000_1.length co57)) (.slice Ao59 x612001_1.length co59)) (fun _ hk => hk.1)), bP HB⟩

end Go.Proofs.Yteffimfifgnleaa.F
