/- Contracts: what these Go functions return. -/
import Derived.Test.YteffimfifgnleaaF0
import Derived.Test.YteffimfifgnleaaF1
import Derived.Test.YteffimfifgnleaaF19
import Derived.Test.YteffimfifgnleaaF29
import Derived.Test.YteffimfifgnleaaF36
import Derived.Test.YteffimfifgnleaaF41
import Derived.Test.YteffimfifgnleaaF43
import Derived.Test.YteffimfifgnleaaF44
namespace Go.Proofs.Yteffimfifgnleaa.F
open Go.RowKit Go.Proofs.YteffimfifgnleaaW.PrintWords Go.Proofs.YteffimfifgnleaaW.PrintLast Go.Proofs.YteffimfifgnleaaW.PrintMore
attribute [local go_sem] max2_int min2_int max_two min_two max_three min_three max_four min_four
set_option linter.unusedVariables false
set_option linter.unusedSimpArgs false

/-! ### laws_FnSame: function 8 -/
def laws_FnSame.j0 : Nat → Bool → Bool → Bool → List Int → List Int → List Int → List Int → Option (Bool)
 | 0, _, _, _, _, _, _, _ => none
 | k + 1, x5, x6, x39, x690000, x690001, x691000, x691001 => if x39 = true then (some (x5 == x6)) else ((impl_MapLeast.f k x690000 x690001).bind fun bt693 => ((impl_MapLeast.f k x691000 x691001).bind fun bt701 => ((impl_MapDegrees.f k x690000 x690001).bind fun bt709 => ((impl_MapDegrees.f k x691000 x691001).bind fun bt713 => ((impl_MapDual.f k x690000 x690001).bind fun bt717 => ((impl_MapDual.f k x691000 x691001).bind fun bt725 => (if bt693.2.2 = true then (if bt701.2.2 = true then (if bt709.2 = true then (if bt713.2 = true then (if bt717.2.2 = true then (if bt725.2.2 = true then ((laws_sameMap.f k bt693.1 bt693.2.1 bt701.1 bt701.2.1).bind fun t733 => (if t733 = true then ((laws_sameInts.f k bt709.1 bt713.1).bind fun t734 => (if t734 = true then ((impl_MapSame.f k x691000 x691001 x690000 x690001).bind fun t735 => (if t735 = true then ((impl_MapSame.f k bt717.1 bt717.2.1 bt725.1 bt725.2.1).bind fun t736 => (if t736 = true then ((impl_MapTurns.f k x690000 x690001).bind fun t737 => ((impl_MapTurns.f k x691000 x691001).bind fun t738 => (some (t737 == t738)))) else (some false))) else (some false))) else (some false))) else (some false))) else (some false)) else (some false)) else (some false)) else (some false)) else (some false)) else (some false))))))))
def laws_FnSame.f (k : Nat) (l0 : List Int) : Option (Bool) := if (l0.length : Int) > 1048576 then (some true) else ((spec_DrawMapSame.f k l0).bind fun bt677 => ((impl_MapSame.f k bt677.1 bt677.2.1 bt677.2.2.1 bt677.2.2.2).bind fun t691 => ((spec_MapSame.f k bt677.1 bt677.2.1 bt677.2.2.1 bt677.2.2.2).bind fun t692 => (if (t691 != t692) = true then (laws_FnSame.j0 k t691 t692 true bt677.1 bt677.2.1 bt677.2.2.1 bt677.2.2.2) else (laws_FnSame.j0 k t691 t692 (!t691) bt677.1 bt677.2.1 bt677.2.2.1 bt677.2.2.2)))))
def laws_FnSame.T14 : Bool × List (List Nat × List Nat) := (true, [([], []), ([0], [0]), ([1], [1]), ([1, 2], [1, 2]), ([3, 1], [3]), ([4], [4]), ([4, 5], [4, 5]), ([6, 4], [6]), ([7], [7]), ([7, 8], [7, 8]), ([9, 7], [9]), ([10], [10]), ([10, 11], [10, 11]), ([12, 10], [12]), ([13], [13]), ([13, 14], [13, 14]), ([15, 13], [15]), ([16], [16]), ([16], [16]), ([17, 18, 16, 16], [16, 17, 18]), ([16, 19], [16, 19]), ([20, 19], [20]), ([21], [21]), ([21], [21]), ([22, 23, 21, 21], [21, 22, 23]), ([21, 24], [21, 24]), ([25, 24], [25]), ([26], [26]), ([26], [26]), ([27, 28, 26, 26], [26, 27, 28]), ([26, 29], [26, 29]), ([30, 29], [30]), ([31], [31]), ([31], [31]), ([32, 33, 31, 31], [31, 32, 33]), ([31, 34], [31, 34]), ([35, 34], [35]), ([36], [36]), ([37, 36, 36], [36, 37]), ([36], [36]), ([39, 38, 36], [36, 39]), ([38, 40, 36], [36, 38, 40]), ([36, 41], [36, 41]), ([42, 40, 0, 1, 2, 3, 4, 5, 6, 7, 8, 9, 10, 11, 12, 13, 14, 15, 16, 17, 18, 19, 20, 21, 22, 23, 24, 25, 26, 27, 28, 29, 30, 31, 32, 33, 34, 35, 36, 37, 38, 39, 40, 41, 42], [42])])
def laws_FnSame.B14 : List Nat := [0, 1, 3, 7, 15, 31, 63, 127, 255, 511, 1023, 2047, 4095, 8191, 16383, 32767, 65535, 131071, 131071, 524287, 1048575, 2097151, 4194303, 4194303, 16777215, 33554431, 67108863, 134217727, 134217727, 536870911, 1073741823, 2147483647, 4294967295, 4294967295, 17179869183, 34359738367, 68719476735, 137438953471, 274877906943, 137438953471, 1099511627775, 2199023255551, 4398046511103, 8796093022207]
theorem laws_FnSame.tab14 : rtab .any (opsOf Try.f8 14) = laws_FnSame.T14 := by kernel_rfl
theorem laws_FnSame.bits14 : waitsOk laws_FnSame.T14.2 laws_FnSame.B14 = true := by kernel_rfl
set_option maxHeartbeats 8000000 in
set_option maxRecDepth 100000 in
theorem laws_FnSame.calls (k : Nat) (A0 : Option Addr) (c0 : Nat) (l0 : List Int) (r : Bool) (w : World) (hr0 : Kd.C (Kd.int .u8) w A0 l0.length l0) (hc0 : l0.length ≤ c0) (hr_ : Aside0 (r = true)) (h : laws_FnSame.f k l0 = some r) :
 Calls Try.prog 8 #[.slice A0 l0.length c0] w fun e w' => e = .returned (.bool r) ∧ Below w.heap.size w w' := by
 have hu40 := Try.underlying40
 have HR0 := Aside0.mk hr0
 have HC0 := Aside0.mk hc0
 clear hr0 hc0
 have HB := Aside0.mk (Below.refl w.heap.size w)
 have H : (if (l0.length : Int) > 1048576 then (some true) else ((spec_DrawMapSame.f k l0).bind fun bt677 => ((impl_MapSame.f k bt677.1 bt677.2.1 bt677.2.2.1 bt677.2.2.2).bind fun t691 => ((spec_MapSame.f k bt677.1 bt677.2.1 bt677.2.2.1 bt677.2.2.2).bind fun t692 => (if (t691 != t692) = true then (laws_FnSame.j0 k t691 t692 true bt677.1 bt677.2.1 bt677.2.2.1 bt677.2.2.2) else (laws_FnSame.j0 k t691 t692 (!t691) bt677.1 bt677.2.1 bt677.2.2.1 bt677.2.2.2)))))) = some r := h
 clear h
 by_cases c2 : (l0.length : Int) > 1048576
 ·rw [if_pos c2] at H
  have c2b0 : decide (1048576 < (l0.length : Int)) = true := decide_eq_true c2
  have c2b1 : decide (1048576 < l0.length) = true := decide_eq_true (by omega)
  clear c2
  obtain rfl := Option.some.inj H
  go_enter Try.func8, Try.ntmps8
  go_wp2
  go_ret
  exact ⟨eR, bP HB⟩
 ·rw [if_neg c2] at H
  have c2b0 : decide (1048576 < (l0.length : Int)) = false := decide_eq_false c2
  have c2b1 : decide (1048576 < l0.length) = false := decide_eq_false (by omega)
  clear c2
  obtain ⟨⟨t677, t680, t683, t686⟩, A30, H⟩ := Option.bind_eq_some_iff.mp H
  dsimp only at H
  have A3 := Aside0.mk A30
  clear A30
  obtain ⟨t691, A40, H⟩ := Option.bind_eq_some_iff.mp H
  have A4 := Aside0.mk A40
  clear A40
  obtain ⟨t692, A50, H⟩ := Option.bind_eq_some_iff.mp H
  have A5 := Aside0.mk A50
  clear A50
  have HC6 := Aside0.mk H
  clear H
  go_enter Try.func8, Try.ntmps8
  go_upto_region 6 with (first | ((with_reducible refine gate_callee (f := 36) rfl ?_); refine gL (some 24) Try.func36 #[.slice A0 l0.length c0] ?_; (with_reducible refine (spec_DrawMapSame.calls k _ _ l0 t677 t680 t683 t686 _ ?side1 ?side2 A3.out).mono ?_); (case side1 => repeat (first | exact HR0.out | (with_reducible refine Kd.C_alloc ?_ _) | (with_reducible refine Kd.C_drewN ?_ _) | (with_reducible refine Kd.C_drew ?_))); (case side2 => exact HC0.out); rintro e w7 ⟨v678, v681, v684, v687, rfl, ho0, ho1, ho2, ho3, hb⟩; refine ⟨_, rfl, ?_⟩; have HO679 := Aside0.mk (Kd.Q_lower ho0 (below_size (bP HB))); have HO682 := rL ho1 HB; have HO685 := Aside0.mk (Kd.Q_lower ho2 (below_size (bP HB))); have HO688 := rL ho3 HB; replace HB := bS HB hb; (try clear hb); (try clear hb2); (try clear hk); (try clear hi); (try clear ho0); (try clear ho1); (try clear ho2); (try clear ho3)) | ((with_reducible refine gate_dst (N := 3) rfl ?_); refine bE 3 #[.slice none 0 0, .slice none 0 0] 40 ?_; intro gb689 hg w8 hbox hb; replace HO679 := Aside0.mk (Kd.Q_below (qP HO679) hb); replace HO682 := rB HO682 hb; replace HO685 := Aside0.mk (Kd.Q_below (qP HO685) hb); replace HO688 := rB HO688 hb; have BK689 := Aside0.mk (hbox); have GW689 := gS HB hg; have GE689 := gS HB hg; replace HB := bS HB hb; clear hb hbox hg) | ((with_reducible refine gate_dst (N := 4) rfl ?_); refine bE 4 #[.slice none 0 0, .slice none 0 0] 40 ?_; intro gb690 hg w9 hbox hb; replace HO679 := Aside0.mk (Kd.Q_below (qP HO679) hb); replace HO682 := rB HO682 hb; replace HO685 := Aside0.mk (Kd.Q_below (qP HO685) hb); replace HO688 := rB HO688 hb; have BK690 := Aside0.mk (hbox); have GW690 := gS HB hg; have GE690 := gS HB hg; replace HB := bS HB hb; have NB689_690 := nL BK689 hg; have NB690_689 := nG BK689 hg; replace BK689 := kB BK689 hb; clear hb hbox hg; obtain ⟨Ao10, co10, eo10, _⟩ := Kd.Q_slice HO679.out; subst eo10; have hnb11 := NB689_690.out; have hnc11 := NB690_689.out; have hcz12_0 := zc0 BK689; have hcz12_1 := zc1 BK689; have hfz12_0 := blk_frozen BK689.out 0; have hfz12_1 := blk_frozen BK689.out 1; obtain ⟨Ao13, co13, eo13⟩ := Kd.R_slice HO682.out; subst eo13; obtain ⟨Ao14, co14, eo14, _⟩ := Kd.Q_slice HO685.out; subst eo14; have hcz15_0 := zc0 BK690; have hcz15_1 := zc1 BK690; have hfz15_0 := blk_frozen BK690.out 0; have hfz15_1 := blk_frozen BK690.out 1; obtain ⟨Ao16, co16, eo16⟩ := Kd.R_slice HO688.out; subst eo16) | ((with_reducible refine gate_callee (f := 37) rfl ?_); refine gL (some 29) Try.func37 #[.agg #[.slice Ao10 t677.length co10, .slice Ao13 t680.length co13], .agg #[.slice Ao14 t683.length co14, .slice Ao16 t686.length co16]] ?_; (with_reducible refine (impl_MapSame.calls k _ _ t677 _ _ t680 _ _ t683 _ _ t686 t691 _ ?side1 ?side2 ?side3 ?side4 ?side5 ?side6 ?side7 ?side8 A4.out).mono ?_); (case side1 => refine (Kd.Q_reads' (e := 3) (base := w.heap.size) (ok := fun k_ => (oN k_ Ao13 t680 co13 ∧ (oN k_ Ao14 t683 co14 ∧ oN k_ Ao16 t686 co16))) (n := t677.length) (c := co10) ?_).2.2; exact (qT (Kd.Q_mono (Kd.Q_mono (qF gb690 1 (qF gb690 0 (Kd.Q_far (p := ⟨gb689, 1, none⟩) (Kd.Q_far (p := ⟨gb689, 0, none⟩) (Kd.Q_types (Kd.Q_types HO679.out BK689.out (by decide)) BK690.out (by decide)) (fun _ hk => hk.1.2) (.slice Ao10 t677.length co10)) (fun _ hk => hk.1.2) (.slice Ao13 t680.length co13)) (.slice Ao14 t683.length co14)) (.slice Ao16 t686.length co16)) (fun _ h_ => h_.1)) (fun _ h_ => h_.1)))); (case side2 => exact (Kd.Q_reads' HO679.out).2.1); (case side3 => refine (Kd.R_reads' (e := 3) (base := w.heap.size) (ok := fun k_ => (oN k_ Ao10 t677 co10 ∧ (oN k_ Ao14 t683 co14 ∧ oN k_ Ao16 t686 co16))) (n := t680.length) (c := co13) ?_).2.2; exact (rT (Kd.R_mono (Kd.R_mono (rF gb690 1 (rF gb690 0 (Kd.R_far (p := ⟨gb689, 1, none⟩) (Kd.R_far (p := ⟨gb689, 0, none⟩) (Kd.R_types (rY HO682 BK689) BK690.out (by decide)) (fun _ hk => hk.1.2) (.slice Ao10 t677.length co10)) (fun _ hk => hk.1.2) (.slice Ao13 t680.length co13)) (.slice Ao14 t683.length co14)) (.slice Ao16 t686.length co16)) (fun _ h_ => h_.1)) (fun _ h_ => h_.1)))); (case side4 => exact (Kd.R_reads' HO682.out).2.1); (case side5 => refine (Kd.Q_reads' (e := 3) (base := w.heap.size) (ok := fun k_ => (oN k_ Ao10 t677 co10 ∧ (oN k_ Ao13 t680 co13 ∧ oN k_ Ao16 t686 co16))) (n := t683.length) (c := co14) ?_).2.2; exact (qT (Kd.Q_mono (Kd.Q_mono (qF gb690 1 (qF gb690 0 (Kd.Q_far (p := ⟨gb689, 1, none⟩) (Kd.Q_far (p := ⟨gb689, 0, none⟩) (Kd.Q_types (Kd.Q_types HO685.out BK689.out (by decide)) BK690.out (by decide)) (fun _ hk => hk.1.2) (.slice Ao10 t677.length co10)) (fun _ hk => hk.1.2) (.slice Ao13 t680.length co13)) (.slice Ao14 t683.length co14)) (.slice Ao16 t686.length co16)) (fun _ h_ => h_.1)) (fun _ h_ => h_.1)))); (case side6 => exact (Kd.Q_reads' HO685.out).2.1); (case side7 => refine (Kd.R_reads' (e := 3) (base := w.heap.size) (ok := fun k_ => (oN k_ Ao10 t677 co10 ∧ (oN k_ Ao13 t680 co13 ∧ oN k_ Ao14 t683 co14))) (n := t686.length) (c := co16) ?_).2.2; exact (rT (Kd.R_mono (Kd.R_mono (rF gb690 1 (rF gb690 0 (Kd.R_far (p := ⟨gb689, 1, none⟩) (Kd.R_far (p := ⟨gb689, 0, none⟩) (Kd.R_types (rY HO688 BK689) BK690.out (by decide)) (fun _ hk => hk.1.2) (.slice Ao10 t677.length co10)) (fun _ hk => hk.1.2) (.slice Ao13 t680.length co13)) (.slice Ao14 t683.length co14)) (.slice Ao16 t686.length co16)) (fun _ h_ => h_.1)) (fun _ h_ => h_.1)))); (case side8 => exact (Kd.R_reads' HO688.out).2.1); rintro e w17 ⟨rfl, hb⟩; refine ⟨_, rfl, ?_⟩; replace HO679 := Aside0.mk (Kd.Q_below (qT (Kd.Q_mono (Kd.Q_mono (qF gb690 1 (qF gb690 0 (Kd.Q_far (p := ⟨gb689, 1, none⟩) (Kd.Q_far (p := ⟨gb689, 0, none⟩) (Kd.Q_types (Kd.Q_types HO679.out BK689.out (by decide)) BK690.out (by decide)) (fun _ hk => hk.1.2) (.slice Ao10 t677.length co10)) (fun _ hk => hk.1.2) (.slice Ao13 t680.length co13)) (.slice Ao14 t683.length co14)) (.slice Ao16 t686.length co16)) (fun _ h_ => h_.1)) (fun _ h_ => h_.1))) hb); replace HO682 := Aside0.mk (Kd.R_below (rT (Kd.R_mono (Kd.R_mono (rF gb690 1 (rF gb690 0 (Kd.R_far (p := ⟨gb689, 1, none⟩) (Kd.R_far (p := ⟨gb689, 0, none⟩) (Kd.R_types (rY HO682 BK689) BK690.out (by decide)) (fun _ hk => hk.1.2) (.slice Ao10 t677.length co10)) (fun _ hk => hk.1.2) (.slice Ao13 t680.length co13)) (.slice Ao14 t683.length co14)) (.slice Ao16 t686.length co16)) (fun _ h_ => h_.1)) (fun _ h_ => h_.1))) hb); replace HO685 := Aside0.mk (Kd.Q_below (qT (Kd.Q_mono (Kd.Q_mono (qF gb690 1 (qF gb690 0 (Kd.Q_far (p := ⟨gb689, 1, none⟩) (Kd.Q_far (p := ⟨gb689, 0, none⟩) (Kd.Q_types (Kd.Q_types HO685.out BK689.out (by decide)) BK690.out (by decide)) (fun _ hk => hk.1.2) (.slice Ao10 t677.length co10)) (fun _ hk => hk.1.2) (.slice Ao13 t680.length co13)) (.slice Ao14 t683.length co14)) (.slice Ao16 t686.length co16)) (fun _ h_ => h_.1)) (fun _ h_ => h_.1))) hb); replace HO688 := Aside0.mk (Kd.R_below (rT (Kd.R_mono (Kd.R_mono (rF gb690 1 (rF gb690 0 (Kd.R_far (p := ⟨gb689, 1, none⟩) (Kd.R_far (p := ⟨gb689, 0, none⟩) (Kd.R_types (rY HO688 BK689) BK690.out (by decide)) (fun _ hk => hk.1.2) (.slice Ao10 t677.length co10)) (fun _ hk => hk.1.2) (.slice Ao13 t680.length co13)) (.slice Ao14 t683.length co14)) (.slice Ao16 t686.length co16)) (fun _ h_ => h_.1)) (fun _ h_ => h_.1))) hb); replace BK689 := Aside0.mk (blk_below (g := gb689) (o := .cells #[.slice Ao10 t677.length co10, .slice Ao13 t680.length co13] 40 (0, 0)) (by (with_reducible repeat (first | refine blk_drewN ?_ _ | refine blk_drew ?_ | refine blk_alloc ?_ _)); refine blk_far ?_ NB689_690.out _; (with_reducible repeat (first | refine blk_drewN ?_ _ | refine blk_drew ?_ | refine blk_alloc ?_ _)); refine blk_far ?_ NB689_690.out _; (with_reducible repeat (first | refine blk_drewN ?_ _ | refine blk_drew ?_ | refine blk_alloc ?_ _)); refine blk_put (cs := #[.slice Ao10 t677.length co10, .slice none 0 0]) ?_ 1 _ rfl; (with_reducible repeat (first | refine blk_drewN ?_ _ | refine blk_drew ?_ | refine blk_alloc ?_ _)); refine blk_put (cs := #[.slice none 0 0, .slice none 0 0]) ?_ 0 _ rfl; (with_reducible repeat (first | refine blk_drewN ?_ _ | refine blk_drew ?_ | refine blk_alloc ?_ _)); exact BK689.out) hb); replace BK690 := Aside0.mk (blk_below (g := gb690) (o := .cells #[.slice Ao14 t683.length co14, .slice Ao16 t686.length co16] 40 (0, 0)) (by (with_reducible repeat (first | refine blk_drewN ?_ _ | refine blk_drew ?_ | refine blk_alloc ?_ _)); refine blk_put (cs := #[.slice Ao14 t683.length co14, .slice none 0 0]) ?_ 1 _ rfl; (with_reducible repeat (first | refine blk_drewN ?_ _ | refine blk_drew ?_ | refine blk_alloc ?_ _)); refine blk_put (cs := #[.slice none 0 0, .slice none 0 0]) ?_ 0 _ rfl; (with_reducible repeat (first | refine blk_drewN ?_ _ | refine blk_drew ?_ | refine blk_alloc ?_ _)); refine blk_far ?_ NB690_689.out _; (with_reducible repeat (first | refine blk_drewN ?_ _ | refine blk_drew ?_ | refine blk_alloc ?_ _)); refine blk_far ?_ NB690_689.out _; (with_reducible repeat (first | refine blk_drewN ?_ _ | refine blk_drew ?_ | refine blk_alloc ?_ _)); exact BK690.out) hb); replace HB := bS HB hb; (try clear hb); (try clear hb2); (try clear hk); (try clear hi); have hcz18_0 := zc0 BK689; have hcz18_1 := zc1 BK689; have hfz18_0 := blk_frozen BK689.out 0; have hfz18_1 := blk_frozen BK689.out 1; have hcz19_0 := zc0 BK690; have hcz19_1 := zc1 BK690; have hfz19_0 := blk_frozen BK690.out 0; have hfz19_1 := blk_frozen BK690.out 1) | ((with_reducible refine gate_callee (f := 38) rfl ?_); refine gL (some 32) Try.func38 #[.agg #[.slice Ao10 t677.length co10, .slice Ao13 t680.length co13], .agg #[.slice Ao14 t683.length co14, .slice Ao16 t686.length co16]] ?_; (with_reducible refine (spec_MapSame.calls k _ _ t677 _ _ t680 _ _ t683 _ _ t686 t692 _ ?side1 ?side2 ?side3 ?side4 ?side5 ?side6 ?side7 ?side8 A5.out).mono ?_); (case side1 => exact cP (Kd.Q_reads' HO679.out).2.2); (case side2 => exact (Kd.Q_reads' HO679.out).2.1); (case side3 => exact cP (Kd.R_reads' HO682.out).2.2); (case side4 => exact (Kd.R_reads' HO682.out).2.1); (case side5 => exact cP (Kd.Q_reads' HO685.out).2.2); (case side6 => exact (Kd.Q_reads' HO685.out).2.1); (case side7 => exact cP (Kd.R_reads' HO688.out).2.2); (case side8 => exact (Kd.R_reads' HO688.out).2.1); rintro e w20 ⟨rfl, hb⟩; refine ⟨_, rfl, ?_⟩; replace HO679 := Aside0.mk (Kd.Q_below (qP HO679) hb); replace HO682 := rB HO682 hb; replace HO685 := Aside0.mk (Kd.Q_below (qP HO685) hb); replace HO688 := rB HO688 hb; replace BK689 := kB BK689 hb; replace BK690 := kB BK690 hb; replace HB := bS HB hb; (try clear hb); (try clear hb2); (try clear hk); (try clear hi)))
  (try simp only [Act.put, List.setIfInBounds_toArray, List.set_cons_zero, List.set_cons_succ])
  go_cut [39] (fun v39 wc => ∃ (kq : Nat) (x39_5 : Bool), v39 = .bool x39_5 ∧ Aside0 (laws_FnSame.j0 kq t691 t692 x39_5 t677 t680 t683 t686 = some r) ∧ Aside0 (kq ≤ k) ∧ Aside0 (Kd.Q (Kd.int .i64) 3 wc w.heap.size (fun k_ => oN k_ Ao13 t680 co13 ∧ oN k_ Ao14 t683 co14 ∧ oN k_ Ao16 t686 co16) (.slice Ao10 t677.length co10) t677) ∧ Aside0 (Kd.R (Kd.int .i64) 3 wc w.heap.size (fun k_ => oN k_ Ao10 t677 co10 ∧ oN k_ Ao14 t683 co14 ∧ oN k_ Ao16 t686 co16) (.slice Ao13 t680.length co13) t680) ∧ Aside0 (Kd.Q (Kd.int .i64) 3 wc w.heap.size (fun k_ => oN k_ Ao10 t677 co10 ∧ oN k_ Ao13 t680 co13 ∧ oN k_ Ao16 t686 co16) (.slice Ao14 t683.length co14) t683) ∧ Aside0 (Kd.R (Kd.int .i64) 3 wc w.heap.size (fun k_ => oN k_ Ao10 t677 co10 ∧ oN k_ Ao13 t680 co13 ∧ oN k_ Ao14 t683 co14) (.slice Ao16 t686.length co16) t686) ∧ Aside0 (wc.heap[gb689]? = some (.cells #[(.slice Ao10 t677.length co10), (.slice Ao13 t680.length co13)] 40 (0, 0))) ∧ Aside0 (wc.heap[gb690]? = some (.cells #[(.slice Ao14 t683.length co14), (.slice Ao16 t686.length co16)] 40 (0, 0))) ∧ Aside0 (Below w.heap.size w wc))
  case first =>
   have H := HC6.out
   clear HC6
   by_cases c21 : (t691 != t692) = true
   case neg =>
    rw [if_neg c21] at H
    have c21b0 : (t691 != t692) = false := by simpa using c21
    (try (have c21b1 : decide (t691 = t692) = true := by simpa using c21))
    (try (have c21b2 : (t691 == t692) = true := by simpa using c21))
    clear c21
    (first | rw [c21b0] | (simp only [i64_w, i32_w]; rw [c21b0]) | skip)
    have H' := Aside0.mk H
    clear H
    go_wp2
    go_meet
    case rel => exact ⟨_, (!t691), eS, H', ⟨by first | omega | exact Nat.le_refl _⟩, ⟨qP HO679⟩, ⟨rP HO682⟩, ⟨qP HO685⟩, ⟨rP HO688⟩, ⟨kP BK689⟩, ⟨kP BK690⟩, ⟨bP HB⟩⟩
   rw [if_pos c21] at H
   have c21b0 : (t691 != t692) = true := c21
   (try (have c21b1 : decide (t691 = t692) = false := by simpa using c21))
   (try (have c21b2 : (t691 == t692) = false := by simpa using c21))
   (try (have c21b3 : ¬ (t691 = t692) := by simpa using c21))
   clear c21
   (first | rw [c21b0] | (simp only [i64_w, i32_w]; rw [c21b0]) | skip)
   have H' := Aside0.mk H
   clear H
   go_wp2
   go_meet
   case rel => exact ⟨_, (true), eS, H', ⟨by first | omega | exact Nat.le_refl _⟩, ⟨qP HO679⟩, ⟨rP HO682⟩, ⟨qP HO685⟩, ⟨rP HO688⟩, ⟨kP BK689⟩, ⟨kP BK690⟩, ⟨bP HB⟩⟩
  case rest =>
   clear HC6
   try clear c1
   try clear c2
   try clear c2b0
   try clear c2b1
   try clear p2
   try clear c3
   try clear c8
   try clear c11
   try clear c21
   try clear c21b0
   try clear c21b1
   try clear c21b2
   try clear hcz12_0
   try clear hcz12_1
   try clear hcz15_0
   try clear hcz15_1
   try clear hcz18_0
   try clear hcz18_1
   try clear hcz19_0
   try clear hcz19_1
   try clear hfz12_0
   try clear hfz12_1
   try clear hfz15_0
   try clear hfz15_1
   try clear hfz18_0
   try clear hfz18_1
   try clear hfz19_0
   try clear hfz19_1
   obtain ⟨kq, x39_5, rfl, HA, HJ5, HO_690000, HO_690001, HO_691000, HO_691001, BK689, BK690, HB⟩ := hcut
   cases kq with
   | zero => exact absurd HA.out (by simp [laws_FnSame.j0])
   | succ kj5 =>
    have H := HA.out
    clear HA
    simp only [laws_FnSame.j0] at H
    by_cases c22 : x39_5 = true
    ·subst c22
     rw [if_pos rfl] at H
     obtain rfl := Option.some.inj H
     go_wp2
     go_ret
     exact ⟨eR, bP HB⟩
    ·replace c22 := Bool.eq_false_iff.mpr c22
     subst c22
     rw [iF] at H
     obtain ⟨⟨t693, t696, t699⟩, A230, H⟩ := Option.bind_eq_some_iff.mp H
     dsimp only at H
     have A23 := Aside0.mk A230
     clear A230
     obtain ⟨⟨t701, t704, t707⟩, A240, H⟩ := Option.bind_eq_some_iff.mp H
     dsimp only at H
     have A24 := Aside0.mk A240
     clear A240
     obtain ⟨⟨t709, t712⟩, A250, H⟩ := Option.bind_eq_some_iff.mp H
     dsimp only at H
     have A25 := Aside0.mk A250
     clear A250
     obtain ⟨⟨t713, t716⟩, A260, H⟩ := Option.bind_eq_some_iff.mp H
     dsimp only at H
     have A26 := Aside0.mk A260
     clear A260
     obtain ⟨⟨t717, t720, t723⟩, A270, H⟩ := Option.bind_eq_some_iff.mp H
     dsimp only at H
     have A27 := Aside0.mk A270
     clear A270
     obtain ⟨⟨t725, t728, t731⟩, A280, H⟩ := Option.bind_eq_some_iff.mp H
     dsimp only at H
     have A28 := Aside0.mk A280
     clear A280
     by_cases c29 : t699 = true
     ·subst c29
      rw [if_pos rfl] at H
      by_cases c30 : t707 = true
      case neg =>
       replace c30 := Bool.eq_false_iff.mpr c30
       subst c30
       rw [iF] at H
       exact absurd ((Option.some.inj H).trans hr_.out) (by decide)
      subst c30
      rw [if_pos rfl] at H
      by_cases c31 : t712 = true
      case neg =>
       replace c31 := Bool.eq_false_iff.mpr c31
       subst c31
       rw [iF] at H
       exact absurd ((Option.some.inj H).trans hr_.out) (by decide)
      subst c31
      rw [if_pos rfl] at H
      by_cases c32 : t716 = true
      case neg =>
       replace c32 := Bool.eq_false_iff.mpr c32
       subst c32
       rw [iF] at H
       exact absurd ((Option.some.inj H).trans hr_.out) (by decide)
      subst c32
      rw [if_pos rfl] at H
      by_cases c33 : t723 = true
      case neg =>
       replace c33 := Bool.eq_false_iff.mpr c33
       subst c33
       rw [iF] at H
       exact absurd ((Option.some.inj H).trans hr_.out) (by decide)
      subst c33
      rw [if_pos rfl] at H
      by_cases c34 : t731 = true
      case neg =>
       replace c34 := Bool.eq_false_iff.mpr c34
       subst c34
       rw [iF] at H
       exact absurd ((Option.some.inj H).trans hr_.out) (by decide)
      subst c34
      rw [if_pos rfl] at H
      obtain ⟨t733, A350, H⟩ := Option.bind_eq_some_iff.mp H
      have A35 := Aside0.mk A350
      clear A350
      by_cases c36 : t733 = true
      case neg =>
       replace c36 := Bool.eq_false_iff.mpr c36
       subst c36
       rw [iF] at H
       exact absurd ((Option.some.inj H).trans hr_.out) (by decide)
      subst c36
      rw [if_pos rfl] at H
      obtain ⟨t734, A370, H⟩ := Option.bind_eq_some_iff.mp H
      have A37 := Aside0.mk A370
      clear A370
      by_cases c38 : t734 = true
      case neg =>
       replace c38 := Bool.eq_false_iff.mpr c38
       subst c38
       rw [iF] at H
       exact absurd ((Option.some.inj H).trans hr_.out) (by decide)
      subst c38
      rw [if_pos rfl] at H
      obtain ⟨t735, A390, H⟩ := Option.bind_eq_some_iff.mp H
      have A39 := Aside0.mk A390
      clear A390
      by_cases c40 : t735 = true
      case neg =>
       replace c40 := Bool.eq_false_iff.mpr c40
       subst c40
       rw [iF] at H
       exact absurd ((Option.some.inj H).trans hr_.out) (by decide)
      subst c40
      rw [if_pos rfl] at H
      obtain ⟨t736, A410, H⟩ := Option.bind_eq_some_iff.mp H
      have A41 := Aside0.mk A410
      clear A410
      by_cases c42 : t736 = true
      case neg =>
       replace c42 := Bool.eq_false_iff.mpr c42
       subst c42
       rw [iF] at H
       exact absurd ((Option.some.inj H).trans hr_.out) (by decide)
      subst c42
      rw [if_pos rfl] at H
      obtain ⟨t737, A430, H⟩ := Option.bind_eq_some_iff.mp H
      have A43 := Aside0.mk A430
      clear A430
      obtain ⟨t738, A440, H⟩ := Option.bind_eq_some_iff.mp H
      have A44 := Aside0.mk A440
      clear A440
      obtain rfl := Option.some.inj H
      have hnb45 := NB689_690.out
      have hnc45 := NB690_689.out
      have hcz46_0 := zc0 BK689
      have hcz46_1 := zc1 BK689
      have hfz46_0 := blk_frozen BK689.out 0
      have hfz46_1 := blk_frozen BK689.out 1
      try go_wp2_with (first | ((with_reducible refine gate_callee (f := 39) rfl ?_); refine gL (some 45) Try.func39 #[.agg #[.slice Ao10 t677.length co10, .slice Ao13 t680.length co13]] ?_; (with_reducible refine (impl_MapLeast.calls kj5 _ _ t677 _ _ t680 t693 t696 true _ ?side1 ?side2 ?side3 ?side4 A23.out).mono ?_); (case side1 => exact cP (Kd.Q_reads' HO_690000.out).2.2); (case side2 => exact (Kd.Q_reads' HO_690000.out).2.1); (case side3 => exact cP (Kd.R_reads' HO_690001.out).2.2); (case side4 => exact (Kd.R_reads' HO_690001.out).2.1); rintro e w47 ⟨v694, v697, rfl, ho0, ho1, hb⟩; refine ⟨_, rfl, ?_⟩; have HO695 := Aside0.mk (Kd.R_lower (Kd.R_new' (Kd.R_new' (Kd.R_new' (Kd.R_new' ho0 (Kd.Q_lt (qP HO_690000))) (Kd.R_lt (rP HO_690001))) (Kd.Q_lt (qP HO_691000))) (Kd.R_lt (rP HO_691001))) (below_size (bP HB))); have HO698 := Aside0.mk (Kd.R_lower (Kd.R_new' (Kd.R_new' (Kd.R_new' (Kd.R_new' ho1 (Kd.Q_lt (qP HO_690000))) (Kd.R_lt (rP HO_690001))) (Kd.Q_lt (qP HO_691000))) (Kd.R_lt (rP HO_691001))) (below_size (bP HB))); replace HO_690000 := Aside0.mk (Kd.Q_mono (Kd.Q_told (Kd.Q_told (Kd.Q_old (qP HO_690000) hb) (Kd.R_base ho0)) (Kd.R_base ho1)) (fun _ h_ => h_.1)); replace HO_690001 := Aside0.mk (Kd.R_mono (Kd.R_told (Kd.R_told (Kd.R_old (rP HO_690001) hb) (Kd.R_base ho0)) (Kd.R_base ho1)) (fun _ h_ => h_.1)); replace HO_691000 := Aside0.mk (Kd.Q_mono (Kd.Q_told (Kd.Q_told (Kd.Q_old (qP HO_691000) hb) (Kd.R_base ho0)) (Kd.R_base ho1)) (fun _ h_ => h_.1)); replace HO_691001 := Aside0.mk (Kd.R_mono (Kd.R_told (Kd.R_told (Kd.R_old (rP HO_691001) hb) (Kd.R_base ho0)) (Kd.R_base ho1)) (fun _ h_ => h_.1)); replace BK689 := kB BK689 hb; replace BK690 := kB BK690 hb; replace HB := bS HB hb; (try clear hb); (try clear hb2); (try clear hk); (try clear hi); (try clear ho0); (try clear ho1)) | ((with_reducible refine gate_dst (N := 7) rfl ?_); refine bE 7 #[.slice none 0 0, .slice none 0 0] 40 ?_; intro gb700 hg w48 hbox hb; replace HO_690000 := Aside0.mk (Kd.Q_below (qP HO_690000) hb); replace HO_690001 := rB HO_690001 hb; replace HO_691000 := Aside0.mk (Kd.Q_below (qP HO_691000) hb); replace HO_691001 := rB HO_691001 hb; replace HO695 := rB HO695 hb; replace HO698 := rB HO698 hb; have BK700 := Aside0.mk (hbox); have GW700 := gS HB hg; have GE700 := gS HB hg; replace HB := bS HB hb; have NB689_700 := nL BK689 hg; have NB700_689 := nG BK689 hg; replace BK689 := kB BK689 hb; have NB690_700 := nL BK690 hg; have NB700_690 := nG BK690 hg; replace BK690 := kB BK690 hb; clear hb hbox hg; obtain ⟨Ao49, co49, eo49⟩ := Kd.R_slice HO695.out; subst eo49; have hnb50 := NB700_689.out; have hnc50 := NB689_700.out; have hnb51 := NB700_690.out; have hnc51 := NB690_700.out; have hcz52_0 := zc0 BK700; have hcz52_1 := zc1 BK700; have hfz52_0 := blk_frozen BK700.out 0; have hfz52_1 := blk_frozen BK700.out 1; obtain ⟨Ao53, co53, eo53⟩ := Kd.R_slice HO698.out; subst eo53; have hcz54_0 := zc0 BK690; have hcz54_1 := zc1 BK690; have hfz54_0 := blk_frozen BK690.out 0; have hfz54_1 := blk_frozen BK690.out 1) | ((with_reducible refine gate_callee (f := 39) rfl ?_); refine gL (some 50) Try.func39 #[.agg #[.slice Ao14 t683.length co14, .slice Ao16 t686.length co16]] ?_; (with_reducible refine (impl_MapLeast.calls kj5 _ _ t683 _ _ t686 t701 t704 true _ ?side1 ?side2 ?side3 ?side4 A24.out).mono ?_); (case side1 => refine (Kd.Q_reads' (e := 3) (base := w.heap.size) (ok := fun k_ => (((oN k_ Ao10 t677 co10 ∧ (oN k_ Ao13 t680 co13 ∧ oN k_ Ao16 t686 co16)) ∧ oN k_ Ao49 t693 co49) ∧ oN k_ Ao53 t696 co53)) (n := t683.length) (c := co14) ?_).2.2; exact (qT (Kd.Q_mono (qF gb700 1 (qF gb700 0 (Kd.Q_types HO_691000.out BK700.out (by decide)) (.slice Ao49 t693.length co49)) (.slice Ao53 t696.length co53)) (fun _ h_ => h_.1)))); (case side2 => exact (Kd.Q_reads' HO_691000.out).2.1); (case side3 => refine (Kd.R_reads' (e := 3) (base := w.heap.size) (ok := fun k_ => (((oN k_ Ao10 t677 co10 ∧ (oN k_ Ao13 t680 co13 ∧ oN k_ Ao14 t683 co14)) ∧ oN k_ Ao49 t693 co49) ∧ oN k_ Ao53 t696 co53)) (n := t686.length) (c := co16) ?_).2.2; exact (rT (Kd.R_mono (rF gb700 1 (rF gb700 0 (rY HO_691001 BK700) (.slice Ao49 t693.length co49)) (.slice Ao53 t696.length co53)) (fun _ h_ => h_.1)))); (case side4 => exact (Kd.R_reads' HO_691001.out).2.1); rintro e w55 ⟨v702, v705, rfl, ho0, ho1, hb⟩; refine ⟨_, rfl, ?_⟩; have HO703 := Aside0.mk (Kd.R_lower (Kd.R_new' (Kd.R_new' (Kd.R_new' (Kd.R_new' (Kd.R_new' (Kd.R_new' ho0 (Kd.Q_lt (qT (Kd.Q_mono (qF gb700 1 (qF gb700 0 (Kd.Q_types HO_690000.out BK700.out (by decide)) (.slice Ao49 t693.length co49)) (.slice Ao53 t696.length co53)) (fun _ h_ => h_.1))))) (Kd.R_lt (rT (Kd.R_mono (rF gb700 1 (rF gb700 0 (rY HO_690001 BK700) (.slice Ao49 t693.length co49)) (.slice Ao53 t696.length co53)) (fun _ h_ => h_.1))))) (Kd.Q_lt (qT (Kd.Q_mono (qF gb700 1 (qF gb700 0 (Kd.Q_types HO_691000.out BK700.out (by decide)) (.slice Ao49 t693.length co49)) (.slice Ao53 t696.length co53)) (fun _ h_ => h_.1))))) (Kd.R_lt (rT (Kd.R_mono (rF gb700 1 (rF gb700 0 (rY HO_691001 BK700) (.slice Ao49 t693.length co49)) (.slice Ao53 t696.length co53)) (fun _ h_ => h_.1))))) (Kd.R_lt (rT (Kd.R_mono (rF gb700 1 (rF gb700 0 (rY HO695 BK700) (.slice Ao49 t693.length co49)) (.slice Ao53 t696.length co53)) (fun _ h_ => h_.1))))) (Kd.R_lt (rT (Kd.R_mono (rF gb700 1 (rF gb700 0 (rY HO698 BK700) (.slice Ao49 t693.length co49)) (.slice Ao53 t696.length co53)) (fun _ h_ => h_.1))))) (below_size (bP HB))); have HO706 := Aside0.mk (Kd.R_lower (Kd.R_new' (Kd.R_new' (Kd.R_new' (Kd.R_new' (Kd.R_new' (Kd.R_new' ho1 (Kd.Q_lt (qT (Kd.Q_mono (qF gb700 1 (qF gb700 0 (Kd.Q_types HO_690000.out BK700.out (by decide)) (.slice Ao49 t693.length co49)) (.slice Ao53 t696.length co53)) (fun _ h_ => h_.1))))) (Kd.R_lt (rT (Kd.R_mono (rF gb700 1 (rF gb700 0 (rY HO_690001 BK700) (.slice Ao49 t693.length co49)) (.slice Ao53 t696.length co53)) (fun _ h_ => h_.1))))) (Kd.Q_lt (qT (Kd.Q_mono (qF gb700 1 (qF gb700 0 (Kd.Q_types HO_691000.out BK700.out (by decide)) (.slice Ao49 t693.length co49)) (.slice Ao53 t696.length co53)) (fun _ h_ => h_.1))))) (Kd.R_lt (rT (Kd.R_mono (rF gb700 1 (rF gb700 0 (rY HO_691001 BK700) (.slice Ao49 t693.length co49)) (.slice Ao53 t696.length co53)) (fun _ h_ => h_.1))))) (Kd.R_lt (rT (Kd.R_mono (rF gb700 1 (rF gb700 0 (rY HO695 BK700) (.slice Ao49 t693.length co49)) (.slice Ao53 t696.length co53)) (fun _ h_ => h_.1))))) (Kd.R_lt (rT (Kd.R_mono (rF gb700 1 (rF gb700 0 (rY HO698 BK700) (.slice Ao49 t693.length co49)) (.slice Ao53 t696.length co53)) (fun _ h_ => h_.1))))) (below_size (bP HB))); replace HO_690000 := Aside0.mk (Kd.Q_mono (Kd.Q_told (Kd.Q_told (Kd.Q_old (qT (Kd.Q_mono (qF gb700 1 (qF gb700 0 (Kd.Q_types HO_690000.out BK700.out (by decide)) (.slice Ao49 t693.length co49)) (.slice Ao53 t696.length co53)) (fun _ h_ => h_.1))) hb) (Kd.R_base ho0)) (Kd.R_base ho1)) (fun _ h_ => h_.1)); replace HO_690001 := Aside0.mk (Kd.R_mono (Kd.R_told (Kd.R_told (Kd.R_old (rT (Kd.R_mono (rF gb700 1 (rF gb700 0 (rY HO_690001 BK700) (.slice Ao49 t693.length co49)) (.slice Ao53 t696.length co53)) (fun _ h_ => h_.1))) hb) (Kd.R_base ho0)) (Kd.R_base ho1)) (fun _ h_ => h_.1)); replace HO_691000 := Aside0.mk (Kd.Q_mono (Kd.Q_told (Kd.Q_told (Kd.Q_old (qT (Kd.Q_mono (qF gb700 1 (qF gb700 0 (Kd.Q_types HO_691000.out BK700.out (by decide)) (.slice Ao49 t693.length co49)) (.slice Ao53 t696.length co53)) (fun _ h_ => h_.1))) hb) (Kd.R_base ho0)) (Kd.R_base ho1)) (fun _ h_ => h_.1)); replace HO_691001 := Aside0.mk (Kd.R_mono (Kd.R_told (Kd.R_told (Kd.R_old (rT (Kd.R_mono (rF gb700 1 (rF gb700 0 (rY HO_691001 BK700) (.slice Ao49 t693.length co49)) (.slice Ao53 t696.length co53)) (fun _ h_ => h_.1))) hb) (Kd.R_base ho0)) (Kd.R_base ho1)) (fun _ h_ => h_.1)); replace HO695 := Aside0.mk (Kd.R_mono (Kd.R_told (Kd.R_told (Kd.R_old (rT (Kd.R_mono (rF gb700 1 (rF gb700 0 (rY HO695 BK700) (.slice Ao49 t693.length co49)) (.slice Ao53 t696.length co53)) (fun _ h_ => h_.1))) hb) (Kd.R_base ho0)) (Kd.R_base ho1)) (fun _ h_ => h_.1)); replace HO698 := Aside0.mk (Kd.R_mono (Kd.R_told (Kd.R_told (Kd.R_old (rT (Kd.R_mono (rF gb700 1 (rF gb700 0 (rY HO698 BK700) (.slice Ao49 t693.length co49)) (.slice Ao53 t696.length co53)) (fun _ h_ => h_.1))) hb) (Kd.R_base ho0)) (Kd.R_base ho1)) (fun _ h_ => h_.1)); replace BK689 := kG BK689 hb; replace BK690 := kG BK690 hb; replace BK700 := Aside0.mk (blk_below (g := gb700) (o := .cells #[.slice Ao49 t693.length co49, .slice Ao53 t696.length co53] 40 (0, 0)) (by (with_reducible repeat (first | refine blk_drewN ?_ _ | refine blk_drew ?_ | refine blk_alloc ?_ _)); refine blk_put (cs := #[.slice Ao49 t693.length co49, .slice none 0 0]) ?_ 1 _ rfl; (with_reducible repeat (first | refine blk_drewN ?_ _ | refine blk_drew ?_ | refine blk_alloc ?_ _)); refine blk_put (cs := #[.slice none 0 0, .slice none 0 0]) ?_ 0 _ rfl; (with_reducible repeat (first | refine blk_drewN ?_ _ | refine blk_drew ?_ | refine blk_alloc ?_ _)); exact BK700.out) hb); replace HB := bS HB hb; (try clear hb); (try clear hb2); (try clear hk); (try clear hi); (try clear ho0); (try clear ho1)) | ((with_reducible refine gate_dst (N := 9) rfl ?_); refine bE 9 #[.slice none 0 0, .slice none 0 0] 40 ?_; intro gb708 hg w56 hbox hb; replace HO_690000 := Aside0.mk (Kd.Q_below (qP HO_690000) hb); replace HO_690001 := rB HO_690001 hb; replace HO_691000 := Aside0.mk (Kd.Q_below (qP HO_691000) hb); replace HO_691001 := rB HO_691001 hb; replace HO695 := rB HO695 hb; replace HO698 := rB HO698 hb; replace HO703 := rB HO703 hb; replace HO706 := rB HO706 hb; have BK708 := Aside0.mk (hbox); have GW708 := gS HB hg; have GE708 := gS HB hg; replace HB := bS HB hb; have NB689_708 := nL BK689 hg; have NB708_689 := nG BK689 hg; replace BK689 := kB BK689 hb; have NB690_708 := nL BK690 hg; have NB708_690 := nG BK690 hg; replace BK690 := kB BK690 hb; have NB700_708 := nL BK700 hg; have NB708_700 := nG BK700 hg; replace BK700 := kB BK700 hb; clear hb hbox hg; obtain ⟨Ao57, co57, eo57⟩ := Kd.R_slice HO703.out; subst eo57; have hnb58 := NB708_689.out; have hnc58 := NB689_708.out; have hnb59 := NB708_690.out; have hnc59 := NB690_708.out; have hnb60 := NB708_700.out; have hnc60 := NB700_708.out; have hcz61_0 := zc0 BK708; have hcz61_1 := zc1 BK708; have hfz61_0 := blk_frozen BK708.out 0; have hfz61_1 := blk_frozen BK708.out 1; obtain ⟨Ao62, co62, eo62⟩ := Kd.R_slice HO706.out; subst eo62; have hcz63_0 := zc0 BK689; have hcz63_1 := zc1 BK689; have hfz63_0 := blk_frozen BK689.out 0; have hfz63_1 := blk_frozen BK689.out 1) | ((with_reducible refine gate_callee (f := 28) rfl ?_); refine gL (some 55) Try.func28 #[.agg #[.slice Ao10 t677.length co10, .slice Ao13 t680.length co13]] ?_; (with_reducible refine (impl_MapDegrees.calls kj5 _ _ t677 _ _ t680 t709 true _ ?side1 ?side2 ?side3 ?side4 A25.out).mono ?_); (case side1 => refine (Kd.Q_reads' (e := 3) (base := w.heap.size) (ok := fun k_ => (((((oN k_ Ao13 t680 co13 ∧ (oN k_ Ao14 t683 co14 ∧ oN k_ Ao16 t686 co16)) ∧ oN k_ Ao49 t693 co49) ∧ oN k_ Ao53 t696 co53) ∧ oN k_ Ao57 t701 co57) ∧ oN k_ Ao62 t704 co62)) (n := t677.length) (c := co10) ?_).2.2; exact (qT (Kd.Q_mono (qF gb708 1 (qF gb708 0 (Kd.Q_types HO_690000.out BK708.out (by decide)) (.slice Ao57 t701.length co57)) (.slice Ao62 t704.length co62)) (fun _ h_ => h_.1)))); (case side2 => exact (Kd.Q_reads' HO_690000.out).2.1); (case side3 => refine (Kd.R_reads' (e := 3) (base := w.heap.size) (ok := fun k_ => (((((oN k_ Ao10 t677 co10 ∧ (oN k_ Ao14 t683 co14 ∧ oN k_ Ao16 t686 co16)) ∧ oN k_ Ao49 t693 co49) ∧ oN k_ Ao53 t696 co53) ∧ oN k_ Ao57 t701 co57) ∧ oN k_ Ao62 t704 co62)) (n := t680.length) (c := co13) ?_).2.2; exact (rT (Kd.R_mono (rF gb708 1 (rF gb708 0 (rY HO_690001 BK708) (.slice Ao57 t701.length co57)) (.slice Ao62 t704.length co62)) (fun _ h_ => h_.1)))); (case side4 => exact (Kd.R_reads' HO_690001.out).2.1); rintro e w64 ⟨v710, rfl, ho0, hb⟩; refine ⟨_, rfl, ?_⟩; have HO711 := Aside0.mk (Kd.R_lower (Kd.R_new' (Kd.R_new' (Kd.R_new' (Kd.R_new' (Kd.R_new' (Kd.R_new' (Kd.R_new' (Kd.R_new' ho0 (Kd.Q_lt (qT (Kd.Q_mono (qF gb708 1 (qF gb708 0 (Kd.Q_types HO_690000.out BK708.out (by decide)) (.slice Ao57 t701.length co57)) (.slice Ao62 t704.length co62)) (fun _ h_ => h_.1))))) (Kd.R_lt (rT (Kd.R_mono (rF gb708 1 (rF gb708 0 (rY HO_690001 BK708) (.slice Ao57 t701.length co57)) (.slice Ao62 t704.length co62)) (fun _ h_ => h_.1))))) (Kd.Q_lt (qT (Kd.Q_mono (qF gb708 1 (qF gb708 0 (Kd.Q_types HO_691000.out BK708.out (by decide)) (.slice Ao57 t701.length co57)) (.slice Ao62 t704.length co62)) (fun _ h_ => h_.1))))) (Kd.R_lt (rT (Kd.R_mono (rF gb708 1 (rF gb708 0 (rY HO_691001 BK708) (.slice Ao57 t701.length co57)) (.slice Ao62 t704.length co62)) (fun _ h_ => h_.1))))) (Kd.R_lt (rT (Kd.R_mono (rF gb708 1 (rF gb708 0 (rY HO695 BK708) (.slice Ao57 t701.length co57)) (.slice Ao62 t704.length co62)) (fun _ h_ => h_.1))))) (Kd.R_lt (rT (Kd.R_mono (rF gb708 1 (rF gb708 0 (rY HO698 BK708) (.slice Ao57 t701.length co57)) (.slice Ao62 t704.length co62)) (fun _ h_ => h_.1))))) (Kd.R_lt (rT (Kd.R_mono (rF gb708 1 (rF gb708 0 (rY HO703 BK708) (.slice Ao57 t701.length co57)) (.slice Ao62 t704.length co62)) (fun _ h_ => h_.1))))) (Kd.R_lt (rT (Kd.R_mono (rF gb708 1 (rF gb708 0 (rY HO706 BK708) (.slice Ao57 t701.length co57)) (.slice Ao62 t704.length co62)) (fun _ h_ => h_.1))))) (below_size (bP HB))); replace HO_690000 := Aside0.mk (Kd.Q_elder' (qT (Kd.Q_mono (qF gb708 1 (qF gb708 0 (Kd.Q_types HO_690000.out BK708.out (by decide)) (.slice Ao57 t701.length co57)) (.slice Ao62 t704.length co62)) (fun _ h_ => h_.1))) (Kd.R_base ho0) hb); replace HO_690001 := Aside0.mk (Kd.R_elder' (rT (Kd.R_mono (rF gb708 1 (rF gb708 0 (rY HO_690001 BK708) (.slice Ao57 t701.length co57)) (.slice Ao62 t704.length co62)) (fun _ h_ => h_.1))) (Kd.R_base ho0) hb); replace HO_691000 := Aside0.mk (Kd.Q_elder' (qT (Kd.Q_mono (qF gb708 1 (qF gb708 0 (Kd.Q_types HO_691000.out BK708.out (by decide)) (.slice Ao57 t701.length co57)) (.slice Ao62 t704.length co62)) (fun _ h_ => h_.1))) (Kd.R_base ho0) hb); replace HO_691001 := Aside0.mk (Kd.R_elder' (rT (Kd.R_mono (rF gb708 1 (rF gb708 0 (rY HO_691001 BK708) (.slice Ao57 t701.length co57)) (.slice Ao62 t704.length co62)) (fun _ h_ => h_.1))) (Kd.R_base ho0) hb); replace HO695 := Aside0.mk (Kd.R_elder' (rT (Kd.R_mono (rF gb708 1 (rF gb708 0 (rY HO695 BK708) (.slice Ao57 t701.length co57)) (.slice Ao62 t704.length co62)) (fun _ h_ => h_.1))) (Kd.R_base ho0) hb); replace HO698 := Aside0.mk (Kd.R_elder' (rT (Kd.R_mono (rF gb708 1 (rF gb708 0 (rY HO698 BK708) (.slice Ao57 t701.length co57)) (.slice Ao62 t704.length co62)) (fun _ h_ => h_.1))) (Kd.R_base ho0) hb); replace HO703 := Aside0.mk (Kd.R_elder' (rT (Kd.R_mono (rF gb708 1 (rF gb708 0 (rY HO703 BK708) (.slice Ao57 t701.length co57)) (.slice Ao62 t704.length co62)) (fun _ h_ => h_.1))) (Kd.R_base ho0) hb); replace HO706 := Aside0.mk (Kd.R_elder' (rT (Kd.R_mono (rF gb708 1 (rF gb708 0 (rY HO706 BK708) (.slice Ao57 t701.length co57)) (.slice Ao62 t704.length co62)) (fun _ h_ => h_.1))) (Kd.R_base ho0) hb); replace BK689 := kG BK689 hb; replace BK690 := kG BK690 hb; replace BK700 := kG BK700 hb; replace BK708 := Aside0.mk (blk_below (g := gb708) (o := .cells #[.slice Ao57 t701.length co57, .slice Ao62 t704.length co62] 40 (0, 0)) (by (with_reducible repeat (first | refine blk_drewN ?_ _ | refine blk_drew ?_ | refine blk_alloc ?_ _)); refine blk_put (cs := #[.slice Ao57 t701.length co57, .slice none 0 0]) ?_ 1 _ rfl; (with_reducible repeat (first | refine blk_drewN ?_ _ | refine blk_drew ?_ | refine blk_alloc ?_ _)); refine blk_put (cs := #[.slice none 0 0, .slice none 0 0]) ?_ 0 _ rfl; (with_reducible repeat (first | refine blk_drewN ?_ _ | refine blk_drew ?_ | refine blk_alloc ?_ _)); exact BK708.out) hb); replace HB := bS HB hb; (try clear hb); (try clear hb2); (try clear hk); (try clear hi); (try clear ho0); have hcz65_0 := zc0 BK690; have hcz65_1 := zc1 BK690; have hfz65_0 := blk_frozen BK690.out 0; have hfz65_1 := blk_frozen BK690.out 1) | ((with_reducible refine gate_callee (f := 28) rfl ?_); refine gL (some 60) Try.func28 #[.agg #[.slice Ao14 t683.length co14, .slice Ao16 t686.length co16]] ?_; (with_reducible refine (impl_MapDegrees.calls kj5 _ _ t683 _ _ t686 t713 true _ ?side1 ?side2 ?side3 ?side4 A26.out).mono ?_); (case side1 => exact cP (Kd.Q_reads' HO_691000.out).2.2); (case side2 => exact (Kd.Q_reads' HO_691000.out).2.1); (case side3 => exact cP (Kd.R_reads' HO_691001.out).2.2); (case side4 => exact (Kd.R_reads' HO_691001.out).2.1); rintro e w66 ⟨v714, rfl, ho0, hb⟩; refine ⟨_, rfl, ?_⟩; have HO715 := Aside0.mk (Kd.R_lower (Kd.R_new' (Kd.R_new' (Kd.R_new' (Kd.R_new' (Kd.R_new' (Kd.R_new' (Kd.R_new' (Kd.R_new' (Kd.R_new' ho0 (Kd.Q_lt (qP HO_690000))) (Kd.R_lt (rP HO_690001))) (Kd.Q_lt (qP HO_691000))) (Kd.R_lt (rP HO_691001))) (Kd.R_lt (rP HO695))) (Kd.R_lt (rP HO698))) (Kd.R_lt (rP HO703))) (Kd.R_lt (rP HO706))) (Kd.R_lt (rP HO711))) (below_size (bP HB))); replace HO_690000 := Aside0.mk (Kd.Q_elder' (qP HO_690000) (Kd.R_base ho0) hb); replace HO_690001 := Aside0.mk (Kd.R_elder' (rP HO_690001) (Kd.R_base ho0) hb); replace HO_691000 := Aside0.mk (Kd.Q_elder' (qP HO_691000) (Kd.R_base ho0) hb); replace HO_691001 := Aside0.mk (Kd.R_elder' (rP HO_691001) (Kd.R_base ho0) hb); replace HO695 := Aside0.mk (Kd.R_elder' (rP HO695) (Kd.R_base ho0) hb); replace HO698 := Aside0.mk (Kd.R_elder' (rP HO698) (Kd.R_base ho0) hb); replace HO703 := Aside0.mk (Kd.R_elder' (rP HO703) (Kd.R_base ho0) hb); replace HO706 := Aside0.mk (Kd.R_elder' (rP HO706) (Kd.R_base ho0) hb); replace HO711 := Aside0.mk (Kd.R_elder' (rP HO711) (Kd.R_base ho0) hb); replace BK689 := kB BK689 hb; replace BK690 := kB BK690 hb; replace BK700 := kB BK700 hb; replace BK708 := kB BK708 hb; replace HB := bS HB hb; (try clear hb); (try clear hb2); (try clear hk); (try clear hi); (try clear ho0); have hcz67_0 := zc0 BK689; have hcz67_1 := zc1 BK689; have hfz67_0 := blk_frozen BK689.out 0; have hfz67_1 := blk_frozen BK689.out 1) | ((with_reducible refine gate_callee (f := 40) rfl ?_); refine gL (some 65) Try.func40 #[.agg #[.slice Ao10 t677.length co10, .slice Ao13 t680.length co13]] ?_; (with_reducible refine (impl_MapDual.calls kj5 _ _ t677 _ _ t680 t717 t720 true _ ?side1 ?side2 ?side3 ?side4 A27.out).mono ?_); (case side1 => exact cP (Kd.Q_reads' HO_690000.out).2.2); (case side2 => exact (Kd.Q_reads' HO_690000.out).2.1); (case side3 => exact cP (Kd.R_reads' HO_690001.out).2.2); (case side4 => exact (Kd.R_reads' HO_690001.out).2.1); rintro e w68 ⟨v718, v721, rfl, ho0, ho1, hb⟩; refine ⟨_, rfl, ?_⟩; have HO719 := Aside0.mk (Kd.R_lower (Kd.R_new' (Kd.R_new' (Kd.R_new' (Kd.R_new' (Kd.R_new' (Kd.R_new' (Kd.R_new' (Kd.R_new' (Kd.R_new' (Kd.R_new' ho0 (Kd.Q_lt (qP HO_690000))) (Kd.R_lt (rP HO_690001))) (Kd.Q_lt (qP HO_691000))) (Kd.R_lt (rP HO_691001))) (Kd.R_lt (rP HO695))) (Kd.R_lt (rP HO698))) (Kd.R_lt (rP HO703))) (Kd.R_lt (rP HO706))) (Kd.R_lt (rP HO711))) (Kd.R_lt (rP HO715))) (below_size (bP HB))); have HO722 := Aside0.mk (Kd.R_lower (Kd.R_new' (Kd.R_new' (Kd.R_new' (Kd.R_new' (Kd.R_new' (Kd.R_new' (Kd.R_new' (Kd.R_new' (Kd.R_new' (Kd.R_new' ho1 (Kd.Q_lt (qP HO_690000))) (Kd.R_lt (rP HO_690001))) (Kd.Q_lt (qP HO_691000))) (Kd.R_lt (rP HO_691001))) (Kd.R_lt (rP HO695))) (Kd.R_lt (rP HO698))) (Kd.R_lt (rP HO703))) (Kd.R_lt (rP HO706))) (Kd.R_lt (rP HO711))) (Kd.R_lt (rP HO715))) (below_size (bP HB))); replace HO_690000 := Aside0.mk (Kd.Q_mono (Kd.Q_told (Kd.Q_told (Kd.Q_old (qP HO_690000) hb) (Kd.R_base ho0)) (Kd.R_base ho1)) (fun _ h_ => h_.1)); replace HO_690001 := Aside0.mk (Kd.R_mono (Kd.R_told (Kd.R_told (Kd.R_old (rP HO_690001) hb) (Kd.R_base ho0)) (Kd.R_base ho1)) (fun _ h_ => h_.1)); replace HO_691000 := Aside0.mk (Kd.Q_mono (Kd.Q_told (Kd.Q_told (Kd.Q_old (qP HO_691000) hb) (Kd.R_base ho0)) (Kd.R_base ho1)) (fun _ h_ => h_.1)); replace HO_691001 := Aside0.mk (Kd.R_mono (Kd.R_told (Kd.R_told (Kd.R_old (rP HO_691001) hb) (Kd.R_base ho0)) (Kd.R_base ho1)) (fun _ h_ => h_.1)); replace HO695 := Aside0.mk (Kd.R_mono (Kd.R_told (Kd.R_told (Kd.R_old (rP HO695) hb) (Kd.R_base ho0)) (Kd.R_base ho1)) (fun _ h_ => h_.1)); replace HO698 := Aside0.mk (Kd.R_mono (Kd.R_told (Kd.R_told (Kd.R_old (rP HO698) hb) (Kd.R_base ho0)) (Kd.R_base ho1)) (fun _ h_ => h_.1)); replace HO703 := Aside0.mk (Kd.R_mono (Kd.R_told (Kd.R_told (Kd.R_old (rP HO703) hb) (Kd.R_base ho0)) (Kd.R_base ho1)) (fun _ h_ => h_.1)); replace HO706 := Aside0.mk (Kd.R_mono (Kd.R_told (Kd.R_told (Kd.R_old (rP HO706) hb) (Kd.R_base ho0)) (Kd.R_base ho1)) (fun _ h_ => h_.1)); replace HO711 := Aside0.mk (Kd.R_mono (Kd.R_told (Kd.R_told (Kd.R_old (rP HO711) hb) (Kd.R_base ho0)) (Kd.R_base ho1)) (fun _ h_ => h_.1)); replace HO715 := Aside0.mk (Kd.R_mono (Kd.R_told (Kd.R_told (Kd.R_old (rP HO715) hb) (Kd.R_base ho0)) (Kd.R_base ho1)) (fun _ h_ => h_.1)); replace BK689 := kB BK689 hb; replace BK690 := kB BK690 hb; replace BK700 := kB BK700 hb; replace BK708 := kB BK708 hb; replace HB := bS HB hb; (try clear hb); (try clear hb2); (try clear hk); (try clear hi); (try clear ho0); (try clear ho1)) | ((with_reducible refine gate_dst (N := 15) rfl ?_); refine bE 15 #[.slice none 0 0, .slice none 0 0] 40 ?_; intro gb724 hg w69 hbox hb; replace HO_690000 := Aside0.mk (Kd.Q_below (qP HO_690000) hb); replace HO_690001 := rB HO_690001 hb; replace HO_691000 := Aside0.mk (Kd.Q_below (qP HO_691000) hb); replace HO_691001 := rB HO_691001 hb; replace HO695 := rB HO695 hb; replace HO698 := rB HO698 hb; replace HO703 := rB HO703 hb; replace HO706 := rB HO706 hb; replace HO711 := rB HO711 hb; replace HO715 := rB HO715 hb; replace HO719 := rB HO719 hb; replace HO722 := rB HO722 hb; have BK724 := Aside0.mk (hbox); have GW724 := gS HB hg; have GE724 := gS HB hg; replace HB := bS HB hb; have NB689_724 := nL BK689 hg; have NB724_689 := nG BK689 hg; replace BK689 := kB BK689 hb; have NB690_724 := nL BK690 hg; have NB724_690 := nG BK690 hg; replace BK690 := kB BK690 hb; have NB700_724 := nL BK700 hg; have NB724_700 := nG BK700 hg; replace BK700 := kB BK700 hb; have NB708_724 := nL BK708 hg; have NB724_708 := nG BK708 hg; replace BK708 := kB BK708 hb; clear hb hbox hg; obtain ⟨Ao70, co70, eo70⟩ := Kd.R_slice HO719.out; subst eo70; have hnb71 := NB724_689.out; have hnc71 := NB689_724.out; have hnb72 := NB724_690.out; have hnc72 := NB690_724.out; have hnb73 := NB724_700.out; have hnc73 := NB700_724.out; have hnb74 := NB724_708.out; have hnc74 := NB708_724.out; have hcz75_0 := zc0 BK724; have hcz75_1 := zc1 BK724; have hfz75_0 := blk_frozen BK724.out 0; have hfz75_1 := blk_frozen BK724.out 1; obtain ⟨Ao76, co76, eo76⟩ := Kd.R_slice HO722.out; subst eo76; have hcz77_0 := zc0 BK690; have hcz77_1 := zc1 BK690; have hfz77_0 := blk_frozen BK690.out 0; have hfz77_1 := blk_frozen BK690.out 1) | ((with_reducible refine gate_callee (f := 40) rfl ?_); refine gL (some 70) Try.func40 #[.agg #[.slice Ao14 t683.length co14, .slice Ao16 t686.length co16]] ?_; (with_reducible refine (impl_MapDual.calls kj5 _ _ t683 _ _ t686 t725 t728 true _ ?side1 ?side2 ?side3 ?side4 A28.out).mono ?_); (case side1 => refine (Kd.Q_reads' (e := 3) (base := w.heap.size) (ok := fun k_ => (((((((((oN k_ Ao10 t677 co10 ∧ (oN k_ Ao13 t680 co13 ∧ oN k_ Ao16 t686 co16)) ∧ oN k_ Ao49 t693 co49) ∧ oN k_ Ao53 t696 co53) ∧ oN k_ Ao57 t701 co57) ∧ oN k_ Ao62 t704 co62) ∧ some k_ ≠ (v710 : Value).ownBlock) ∧ some k_ ≠ (v714 : Value).ownBlock) ∧ oN k_ Ao70 t717 co70) ∧ oN k_ Ao76 t720 co76)) (n := t683.length) (c := co14) ?_).2.2; exact (qT (Kd.Q_mono (qF gb724 1 (qF gb724 0 (Kd.Q_types HO_691000.out BK724.out (by decide)) (.slice Ao70 t717.length co70)) (.slice Ao76 t720.length co76)) (fun _ h_ => h_.1)))); (case side2 => exact (Kd.Q_reads' HO_691000.out).2.1); (case side3 => refine (Kd.R_reads' (e := 3) (base := w.heap.size) (ok := fun k_ => (((((((((oN k_ Ao10 t677 co10 ∧ (oN k_ Ao13 t680 co13 ∧ oN k_ Ao14 t683 co14)) ∧ oN k_ Ao49 t693 co49) ∧ oN k_ Ao53 t696 co53) ∧ oN k_ Ao57 t701 co57) ∧ oN k_ Ao62 t704 co62) ∧ some k_ ≠ (v710 : Value).ownBlock) ∧ some k_ ≠ (v714 : Value).ownBlock) ∧ oN k_ Ao70 t717 co70) ∧ oN k_ Ao76 t720 co76)) (n := t686.length) (c := co16) ?_).2.2; exact (rT (Kd.R_mono (rF gb724 1 (rF gb724 0 (rY HO_691001 BK724) (.slice Ao70 t717.length co70)) (.slice Ao76 t720.length co76)) (fun _ h_ => h_.1)))); (case side4 => exact (Kd.R_reads' HO_691001.out).2.1); rintro e w78 ⟨v726, v729, rfl, ho0, ho1, hb⟩; refine ⟨_, rfl, ?_⟩; have HO727 := Aside0.mk (Kd.R_lower (Kd.R_new' (Kd.R_new' (Kd.R_new' (Kd.R_new' (Kd.R_new' (Kd.R_new' (Kd.R_new' (Kd.R_new' (Kd.R_new' (Kd.R_new' (Kd.R_new' (Kd.R_new' ho0 (Kd.Q_lt (qT (Kd.Q_mono (qF gb724 1 (qF gb724 0 (Kd.Q_types HO_690000.out BK724.out (by decide)) (.slice Ao70 t717.length co70)) (.slice Ao76 t720.length co76)) (fun _ h_ => h_.1))))) (Kd.R_lt (rT (Kd.R_mono (rF gb724 1 (rF gb724 0 (rY HO_690001 BK724) (.slice Ao70 t717.length co70)) (.slice Ao76 t720.length co76)) (fun _ h_ => h_.1))))) (Kd.Q_lt (qT (Kd.Q_mono (qF gb724 1 (qF gb724 0 (Kd.Q_types HO_691000.out BK724.out (by decide)) (.slice Ao70 t717.length co70)) (.slice Ao76 t720.length co76)) (fun _ h_ => h_.1))))) (Kd.R_lt (rT (Kd.R_mono (rF gb724 1 (rF gb724 0 (rY HO_691001 BK724) (.slice Ao70 t717.length co70)) (.slice Ao76 t720.length co76)) (fun _ h_ => h_.1))))) (Kd.R_lt (rT (Kd.R_mono (rF gb724 1 (rF gb724 0 (rY HO695 BK724) (.slice Ao70 t717.length co70)) (.slice Ao76 t720.length co76)) (fun _ h_ => h_.1))))) (Kd.R_lt (rT (Kd.R_mono (rF gb724 1 (rF gb724 0 (rY HO698 BK724) (.slice Ao70 t717.length co70)) (.slice Ao76 t720.length co76)) (fun _ h_ => h_.1))))) (Kd.R_lt (rT (Kd.R_mono (rF gb724 1 (rF gb724 0 (rY HO703 BK724) (.slice Ao70 t717.length co70)) (.slice Ao76 t720.length co76)) (fun _ h_ => h_.1))))) (Kd.R_lt (rT (Kd.R_mono (rF gb724 1 (rF gb724 0 (rY HO706 BK724) (.slice Ao70 t717.length co70)) (.slice Ao76 t720.length co76)) (fun _ h_ => h_.1))))) (Kd.R_lt (rT (Kd.R_mono (rF gb724 1 (rF gb724 0 (rY HO711 BK724) (.slice Ao70 t717.length co70)) (.slice Ao76 t720.length co76)) (fun _ h_ => h_.1))))) (Kd.R_lt (rT (Kd.R_mono (rF gb724 1 (rF gb724 0 (rY HO715 BK724) (.slice Ao70 t717.length co70)) (.slice Ao76 t720.length co76)) (fun _ h_ => h_.1))))) (Kd.R_lt (rT (Kd.R_mono (rF gb724 1 (rF gb724 0 (rY HO719 BK724) (.slice Ao70 t717.length co70)) (.slice Ao76 t720.length co76)) (fun _ h_ => h_.1))))) (Kd.R_lt (rT (Kd.R_mono (rF gb724 1 (rF gb724 0 (rY HO722 BK724) (.slice Ao70 t717.length co70)) (.slice Ao76 t720.length co76)) (fun _ h_ => h_.1))))) (below_size (bP HB))); have HO730 := Aside0.mk (Kd.R_lower (Kd.R_new' (Kd.R_new' (Kd.R_new' (Kd.R_new' (Kd.R_new' (Kd.R_new' (Kd.R_new' (Kd.R_new' (Kd.R_new' (Kd.R_new' (Kd.R_new' (Kd.R_new' ho1 (Kd.Q_lt (qT (Kd.Q_mono (qF gb724 1 (qF gb724 0 (Kd.Q_types HO_690000.out BK724.out (by decide)) (.slice Ao70 t717.length co70)) (.slice Ao76 t720.length co76)) (fun _ h_ => h_.1))))) (Kd.R_lt (rT (Kd.R_mono (rF gb724 1 (rF gb724 0 (rY HO_690001 BK724) (.slice Ao70 t717.length co70)) (.slice Ao76 t720.length co76)) (fun _ h_ => h_.1))))) (Kd.Q_lt (qT (Kd.Q_mono (qF gb724 1 (qF gb724 0 (Kd.Q_types HO_691000.out BK724.out (by decide)) (.slice Ao70 t717.length co70)) (.slice Ao76 t720.length co76)) (fun _ h_ => h_.1))))) (Kd.R_lt (rT (Kd.R_mono (rF gb724 1 (rF gb724 0 (rY HO_691001 BK724) (.slice Ao70 t717.length co70)) (.slice Ao76 t720.length co76)) (fun _ h_ => h_.1))))) (Kd.R_lt (rT (Kd.R_mono (rF gb724 1 (rF gb724 0 (rY HO695 BK724) (.slice Ao70 t717.length co70)) (.slice Ao76 t720.length co76)) (fun _ h_ => h_.1))))) (Kd.R_lt (rT (Kd.R_mono (rF gb724 1 (rF gb724 0 (rY HO698 BK724) (.slice Ao70 t717.length co70)) (.slice Ao76 t720.length co76)) (fun _ h_ => h_.1))))) (Kd.R_lt (rT (Kd.R_mono (rF gb724 1 (rF gb724 0 (rY HO703 BK724) (.slice Ao70 t717.length co70)) (.slice Ao76 t720.length co76)) (fun _ h_ => h_.1))))) (Kd.R_lt (rT (Kd.R_mono (rF gb724 1 (rF gb724 0 (rY HO706 BK724) (.slice Ao70 t717.length co70)) (.slice Ao76 t720.length co76)) (fun _ h_ => h_.1))))) (Kd.R_lt (rT (Kd.R_mono (rF gb724 1 (rF gb724 0 (rY HO711 BK724) (.slice Ao70 t717.length co70)) (.slice Ao76 t720.length co76)) (fun _ h_ => h_.1))))) (Kd.R_lt (rT (Kd.R_mono (rF gb724 1 (rF gb724 0 (rY HO715 BK724) (.slice Ao70 t717.length co70)) (.slice Ao76 t720.length co76)) (fun _ h_ => h_.1))))) (Kd.R_lt (rT (Kd.R_mono (rF gb724 1 (rF gb724 0 (rY HO719 BK724) (.slice Ao70 t717.length co70)) (.slice Ao76 t720.length co76)) (fun _ h_ => h_.1))))) (Kd.R_lt (rT (Kd.R_mono (rF gb724 1 (rF gb724 0 (rY HO722 BK724) (.slice Ao70 t717.length co70)) (.slice Ao76 t720.length co76)) (fun _ h_ => h_.1))))) (below_size (bP HB))); replace HO_690000 := Aside0.mk (Kd.Q_mono (Kd.Q_told (Kd.Q_told (Kd.Q_old (qT (Kd.Q_mono (qF gb724 1 (qF gb724 0 (Kd.Q_types HO_690000.out BK724.out (by decide)) (.slice Ao70 t717.length co70)) (.slice Ao76 t720.length co76)) (fun _ h_ => h_.1))) hb) (Kd.R_base ho0)) (Kd.R_base ho1)) (fun _ h_ => h_.1)); replace HO_690001 := Aside0.mk (Kd.R_mono (Kd.R_told (Kd.R_told (Kd.R_old (rT (Kd.R_mono (rF gb724 1 (rF gb724 0 (rY HO_690001 BK724) (.slice Ao70 t717.length co70)) (.slice Ao76 t720.length co76)) (fun _ h_ => h_.1))) hb) (Kd.R_base ho0)) (Kd.R_base ho1)) (fun _ h_ => h_.1)); replace HO_691000 := Aside0.mk (Kd.Q_mono (Kd.Q_told (Kd.Q_told (Kd.Q_old (qT (Kd.Q_mono (qF gb724 1 (qF gb724 0 (Kd.Q_types HO_691000.out BK724.out (by decide)) (.slice Ao70 t717.length co70)) (.slice Ao76 t720.length co76)) (fun _ h_ => h_.1))) hb) (Kd.R_base ho0)) (Kd.R_base ho1)) (fun _ h_ => h_.1)); replace HO_691001 := Aside0.mk (Kd.R_mono (Kd.R_told (Kd.R_told (Kd.R_old (rT (Kd.R_mono (rF gb724 1 (rF gb724 0 (rY HO_691001 BK724) (.slice Ao70 t717.length co70)) (.slice Ao76 t720.length co76)) (fun _ h_ => h_.1))) hb) (Kd.R_base ho0)) (Kd.R_base ho1)) (fun _ h_ => h_.1)); replace HO695 := Aside0.mk (Kd.R_mono (Kd.R_told (Kd.R_told (Kd.R_old (rT (Kd.R_mono (rF gb724 1 (rF gb724 0 (rY HO695 BK724) (.slice Ao70 t717.length co70)) (.slice Ao76 t720.length co76)) (fun _ h_ => h_.1))) hb) (Kd.R_base ho0)) (Kd.R_base ho1)) (fun _ h_ => h_.1)); replace HO698 := Aside0.mk (Kd.R_mono (Kd.R_told (Kd.R_told (Kd.R_old (rT (Kd.R_mono (rF gb724 1 (rF gb724 0 (rY HO698 BK724) (.slice Ao70 t717.length co70)) (.slice Ao76 t720.length co76)) (fun _ h_ => h_.1))) hb) (Kd.R_base ho0)) (Kd.R_base ho1)) (fun _ h_ => h_.1)); replace HO703 := Aside0.mk (Kd.R_mono (Kd.R_told (Kd.R_told (Kd.R_old (rT (Kd.R_mono (rF gb724 1 (rF gb724 0 (rY HO703 BK724) (.slice Ao70 t717.length co70)) (.slice Ao76 t720.length co76)) (fun _ h_ => h_.1))) hb) (Kd.R_base ho0)) (Kd.R_base ho1)) (fun _ h_ => h_.1)); replace HO706 := Aside0.mk (Kd.R_mono (Kd.R_told (Kd.R_told (Kd.R_old (rT (Kd.R_mono (rF gb724 1 (rF gb724 0 (rY HO706 BK724) (.slice Ao70 t717.length co70)) (.slice Ao76 t720.length co76)) (fun _ h_ => h_.1))) hb) (Kd.R_base ho0)) (Kd.R_base ho1)) (fun _ h_ => h_.1)); replace HO711 := Aside0.mk (Kd.R_mono (Kd.R_told (Kd.R_told (Kd.R_old (rT (Kd.R_mono (rF gb724 1 (rF gb724 0 (rY HO711 BK724) (.slice Ao70 t717.length co70)) (.slice Ao76 t720.length co76)) (fun _ h_ => h_.1))) hb) (Kd.R_base ho0)) (Kd.R_base ho1)) (fun _ h_ => h_.1)); replace HO715 := Aside0.mk (Kd.R_mono (Kd.R_told (Kd.R_told (Kd.R_old (rT (Kd.R_mono (rF gb724 1 (rF gb724 0 (rY HO715 BK724) (.slice Ao70 t717.length co70)) (.slice Ao76 t720.length co76)) (fun _ h_ => h_.1))) hb) (Kd.R_base ho0)) (Kd.R_base ho1)) (fun _ h_ => h_.1)); replace HO719 := Aside0.mk (Kd.R_mono (Kd.R_told (Kd.R_told (Kd.R_old (rT (Kd.R_mono (rF gb724 1 (rF gb724 0 (rY HO719 BK724) (.slice Ao70 t717.length co70)) (.slice Ao76 t720.length co76)) (fun _ h_ => h_.1))) hb) (Kd.R_base ho0)) (Kd.R_base ho1)) (fun _ h_ => h_.1)); replace HO722 := Aside0.mk (Kd.R_mono (Kd.R_told (Kd.R_told (Kd.R_old (rT (Kd.R_mono (rF gb724 1 (rF gb724 0 (rY HO722 BK724) (.slice Ao70 t717.length co70)) (.slice Ao76 t720.length co76)) (fun _ h_ => h_.1))) hb) (Kd.R_base ho0)) (Kd.R_base ho1)) (fun _ h_ => h_.1)); replace BK689 := kG BK689 hb; replace BK690 := kG BK690 hb; replace BK700 := kG BK700 hb; replace BK708 := kG BK708 hb; replace BK724 := Aside0.mk (blk_below (g := gb724) (o := .cells #[.slice Ao70 t717.length co70, .slice Ao76 t720.length co76] 40 (0, 0)) (by (with_reducible repeat (first | refine blk_drewN ?_ _ | refine blk_drew ?_ | refine blk_alloc ?_ _)); refine blk_put (cs := #[.slice Ao70 t717.length co70, .slice none 0 0]) ?_ 1 _ rfl; (with_reducible repeat (first | refine blk_drewN ?_ _ | refine blk_drew ?_ | refine blk_alloc ?_ _)); refine blk_put (cs := #[.slice none 0 0, .slice none 0 0]) ?_ 0 _ rfl; (with_reducible repeat (first | refine blk_drewN ?_ _ | refine blk_drew ?_ | refine blk_alloc ?_ _)); exact BK724.out) hb); replace HB := bS HB hb; (try clear hb); (try clear hb2); (try clear hk); (try clear hi); (try clear ho0); (try clear ho1)) | ((with_reducible refine gate_dst (N := 17) rfl ?_); refine bE 17 #[.slice none 0 0, .slice none 0 0] 40 ?_; intro gb732 hg w79 hbox hb; replace HO_690000 := Aside0.mk (Kd.Q_below (qP HO_690000) hb); replace HO_690001 := rB HO_690001 hb; replace HO_691000 := Aside0.mk (Kd.Q_below (qP HO_691000) hb); replace HO_691001 := rB HO_691001 hb; replace HO695 := rB HO695 hb; replace HO698 := rB HO698 hb; replace HO703 := rB HO703 hb; replace HO706 := rB HO706 hb; replace HO711 := rB HO711 hb; replace HO715 := rB HO715 hb; replace HO719 := rB HO719 hb; replace HO722 := rB HO722 hb; replace HO727 := rB HO727 hb; replace HO730 := rB HO730 hb; have BK732 := Aside0.mk (hbox); have GW732 := gS HB hg; have GE732 := gS HB hg; replace HB := bS HB hb; have NB689_732 := nL BK689 hg; have NB732_689 := nG BK689 hg; replace BK689 := kB BK689 hb; have NB690_732 := nL BK690 hg; have NB732_690 := nG BK690 hg; replace BK690 := kB BK690 hb; have NB700_732 := nL BK700 hg; have NB732_700 := nG BK700 hg; replace BK700 := kB BK700 hb; have NB708_732 := nL BK708 hg; have NB732_708 := nG BK708 hg; replace BK708 := kB BK708 hb; have NB724_732 := nL BK724 hg; have NB732_724 := nG BK724 hg; replace BK724 := kB BK724 hb; clear hb hbox hg; obtain ⟨Ao80, co80, eo80⟩ := Kd.R_slice HO727.out; subst eo80; have hnb81 := NB732_689.out; have hnc81 := NB689_732.out; have hnb82 := NB732_690.out; have hnc82 := NB690_732.out; have hnb83 := NB732_700.out; have hnc83 := NB700_732.out; have hnb84 := NB732_708.out; have hnc84 := NB708_732.out; have hnb85 := NB732_724.out; have hnc85 := NB724_732.out; have hcz86_0 := zc0 BK732; have hcz86_1 := zc1 BK732; have hfz86_0 := blk_frozen BK732.out 0; have hfz86_1 := blk_frozen BK732.out 1; obtain ⟨Ao87, co87, eo87⟩ := Kd.R_slice HO730.out; subst eo87))
      have n0_ : Aside0 (Kd.Q (Kd.int .i64) 3 ((w79.setCell ⟨gb732, 0, none⟩ (.slice Ao80 t725.length co80)).setCell ⟨gb732, 1, none⟩ (.slice Ao87 t728.length co87)) w.heap.size (fun k_ => oN k_ Ao13 t680 co13 ∧ oN k_ Ao14 t683 co14 ∧ oN k_ Ao16 t686 co16 ∧ oN k_ Ao49 t693 co49 ∧ oN k_ Ao53 t696 co53 ∧ oN k_ Ao57 t701 co57 ∧ oN k_ Ao62 t704 co62 ∧ some k_ ≠ (v710 : Value).ownBlock ∧ some k_ ≠ (v714 : Value).ownBlock ∧ oN k_ Ao70 t717 co70 ∧ oN k_ Ao76 t720 co76 ∧ oN k_ Ao80 t725 co80 ∧ oN k_ Ao87 t728 co87) (.slice Ao10 t677.length co10) t677) := ⟨qT (Kd.Q_mono (qF gb732 1 (qF gb732 0 (Kd.Q_types HO_690000.out BK732.out (by decide)) (.slice Ao80 t725.length co80)) (.slice Ao87 t728.length co87)) (fun _ hk => ⟨hk.1.1.1.1.1.1.1.1.1.1.1.1, ⟨hk.1.1.1.1.1.1.1.1.1.1.1.2.1, ⟨hk.1.1.1.1.1.1.1.1.1.1.1.2.2, ⟨hk.1.1.1.1.1.1.1.1.1.1.2, ⟨hk.1.1.1.1.1.1.1.1.1.2, ⟨hk.1.1.1.1.1.1.1.1.2, ⟨hk.1.1.1.1.1.1.1.2, ⟨hk.1.1.1.1.1.1.2, ⟨hk.1.1.1.1.1.2, ⟨hk.1.1.1.1.2, ⟨hk.1.1.1.2, ⟨hk.1.1.2, hk.1.2⟩⟩⟩⟩⟩⟩⟩⟩⟩⟩⟩⟩))⟩
      have n1_ : Aside0 (Kd.R (Kd.int .i64) 3 ((w79.setCell ⟨gb732, 0, none⟩ (.slice Ao80 t725.length co80)).setCell ⟨gb732, 1, none⟩ (.slice Ao87 t728.length co87)) w.heap.size (fun k_ => oN k_ Ao10 t677 co10 ∧ oN k_ Ao14 t683 co14 ∧ oN k_ Ao16 t686 co16 ∧ oN k_ Ao49 t693 co49 ∧ oN k_ Ao53 t696 co53 ∧ oN k_ Ao57 t701 co57 ∧ oN k_ Ao62 t704 co62 ∧ some k_ ≠ (v710 : Value).ownBlock ∧ some k_ ≠ (v714 : Value).ownBlock ∧ oN k_ Ao70 t717 co70 ∧ oN k_ Ao76 t720 co76 ∧ oN k_ Ao80 t725 co80 ∧ oN k_ Ao87 t728 co87) (.slice Ao13 t680.length co13) t680) := ⟨rT (Kd.R_mono (rF gb732 1 (rF gb732 0 (rY HO_690001 BK732) (.slice Ao80 t725.length co80)) (.slice Ao87 t728.length co87)) (fun _ hk => ⟨hk.1.1.1.1.1.1.1.1.1.1.1.1, ⟨hk.1.1.1.1.1.1.1.1.1.1.1.2.1, ⟨hk.1.1.1.1.1.1.1.1.1.1.1.2.2, ⟨hk.1.1.1.1.1.1.1.1.1.1.2, ⟨hk.1.1.1.1.1.1.1.1.1.2, ⟨hk.1.1.1.1.1.1.1.1.2, ⟨hk.1.1.1.1.1.1.1.2, ⟨hk.1.1.1.1.1.1.2, ⟨hk.1.1.1.1.1.2, ⟨hk.1.1.1.1.2, ⟨hk.1.1.1.2, ⟨hk.1.1.2, hk.1.2⟩⟩⟩⟩⟩⟩⟩⟩⟩⟩⟩⟩))⟩
      have n2_ : Aside0 (Kd.Q (Kd.int .i64) 3 ((w79.setCell ⟨gb732, 0, none⟩ (.slice Ao80 t725.length co80)).setCell ⟨gb732, 1, none⟩ (.slice Ao87 t728.length co87)) w.heap.size (fun k_ => oN k_ Ao10 t677 co10 ∧ oN k_ Ao13 t680 co13 ∧ oN k_ Ao16 t686 co16 ∧ oN k_ Ao49 t693 co49 ∧ oN k_ Ao53 t696 co53 ∧ oN k_ Ao57 t701 co57 ∧ oN k_ Ao62 t704 co62 ∧ some k_ ≠ (v710 : Value).ownBlock ∧ some k_ ≠ (v714 : Value).ownBlock ∧ oN k_ Ao70 t717 co70 ∧ oN k_ Ao76 t720 co76 ∧ oN k_ Ao80 t725 co80 ∧ oN k_ Ao87 t728 co87) (.slice Ao14 t683.length co14) t683) := ⟨qT (Kd.Q_mono (qF gb732 1 (qF gb732 0 (Kd.Q_types HO_691000.out BK732.out (by decide)) (.slice Ao80 t725.length co80)) (.slice Ao87 t728.length co87)) (fun _ hk => ⟨hk.1.1.1.1.1.1.1.1.1.1.1.1, ⟨hk.1.1.1.1.1.1.1.1.1.1.1.2.1, ⟨hk.1.1.1.1.1.1.1.1.1.1.1.2.2, ⟨hk.1.1.1.1.1.1.1.1.1.1.2, ⟨hk.1.1.1.1.1.1.1.1.1.2, ⟨hk.1.1.1.1.1.1.1.1.2, ⟨hk.1.1.1.1.1.1.1.2, ⟨hk.1.1.1.1.1.1.2, ⟨hk.1.1.1.1.1.2, ⟨hk.1.1.1.1.2, ⟨hk.1.1.1.2, ⟨hk.1.1.2, hk.1.2⟩⟩⟩⟩⟩⟩⟩⟩⟩⟩⟩⟩))⟩
      have n3_ : Aside0 (Kd.R (Kd.int .i64) 3 ((w79.setCell ⟨gb732, 0, none⟩ (.slice Ao80 t725.length co80)).setCell ⟨gb732, 1, none⟩ (.slice Ao87 t728.length co87)) w.heap.size (fun k_ => oN k_ Ao10 t677 co10 ∧ oN k_ Ao13 t680 co13 ∧ oN k_ Ao14 t683 co14 ∧ oN k_ Ao49 t693 co49 ∧ oN k_ Ao53 t696 co53 ∧ oN k_ Ao57 t701 co57 ∧ oN k_ Ao62 t704 co62 ∧ some k_ ≠ (v710 : Value).ownBlock ∧ some k_ ≠ (v714 : Value).ownBlock ∧ oN k_ Ao70 t717 co70 ∧ oN k_ Ao76 t720 co76 ∧ oN k_ Ao80 t725 co80 ∧ oN k_ Ao87 t728 co87) (.slice Ao16 t686.length co16) t686) := ⟨rT (Kd.R_mono (rF gb732 1 (rF gb732 0 (rY HO_691001 BK732) (.slice Ao80 t725.length co80)) (.slice Ao87 t728.length co87)) (fun _ hk => ⟨hk.1.1.1.1.1.1.1.1.1.1.1.1, ⟨hk.1.1.1.1.1.1.1.1.1.1.1.2.1, ⟨hk.1.1.1.1.1.1.1.1.1.1.1.2.2, ⟨hk.1.1.1.1.1.1.1.1.1.1.2, ⟨hk.1.1.1.1.1.1.1.1.1.2, ⟨hk.1.1.1.1.1.1.1.1.2, ⟨hk.1.1.1.1.1.1.1.2, ⟨hk.1.1.1.1.1.1.2, ⟨hk.1.1.1.1.1.2, ⟨hk.1.1.1.1.2, ⟨hk.1.1.1.2, ⟨hk.1.1.2, hk.1.2⟩⟩⟩⟩⟩⟩⟩⟩⟩⟩⟩⟩))⟩
      have n4_ : Aside0 (Kd.R (Kd.int .i64) 3 ((w79.setCell ⟨gb732, 0, none⟩ (.slice Ao80 t725.length co80)).setCell ⟨gb732, 1, none⟩ (.slice Ao87 t728.length co87)) w.heap.size (fun k_ => oN k_ Ao10 t677 co10 ∧ oN k_ Ao13 t680 co13 ∧ oN k_ Ao14 t683 co14 ∧ oN k_ Ao16 t686 co16 ∧ oN k_ Ao53 t696 co53 ∧ oN k_ Ao57 t701 co57 ∧ oN k_ Ao62 t704 co62 ∧ some k_ ≠ (v710 : Value).ownBlock ∧ some k_ ≠ (v714 : Value).ownBlock ∧ oN k_ Ao70 t717 co70 ∧ oN k_ Ao76 t720 co76 ∧ oN k_ Ao80 t725 co80 ∧ oN k_ Ao87 t728 co87) (.slice Ao49 t693.length co49) t693) := ⟨rT (Kd.R_mono (rF gb732 1 (rF gb732 0 (rY HO695 BK732) (.slice Ao80 t725.length co80)) (.slice Ao87 t728.length co87)) (fun _ hk => ⟨hk.1.1.1.1.1.1.1.1.1.1.1.1.2, ⟨hk.1.1.1.1.1.1.1.1.1.1.1.2, ⟨hk.1.1.1.1.1.1.1.1.1.1.2, ⟨hk.1.1.1.1.1.1.1.1.1.2, ⟨hk.1.1.1.1.1.1.1.1.1.1.1.1.1, ⟨hk.1.1.1.1.1.1.1.1.2, ⟨hk.1.1.1.1.1.1.1.2, ⟨hk.1.1.1.1.1.1.2, ⟨hk.1.1.1.1.1.2, ⟨hk.1.1.1.1.2, ⟨hk.1.1.1.2, ⟨hk.1.1.2, hk.1.2⟩⟩⟩⟩⟩⟩⟩⟩⟩⟩⟩⟩))⟩
      have n5_ : Aside0 (Kd.R (Kd.int .i64) 3 ((w79.setCell ⟨gb732, 0, none⟩ (.slice Ao80 t725.length co80)).setCell ⟨gb732, 1, none⟩ (.slice Ao87 t728.length co87)) w.heap.size (fun k_ => oN k_ Ao10 t677 co10 ∧ oN k_ Ao13 t680 co13 ∧ oN k_ Ao14 t683 co14 ∧ oN k_ Ao16 t686 co16 ∧ oN k_ Ao49 t693 co49 ∧ oN k_ Ao57 t701 co57 ∧ oN k_ Ao62 t704 co62 ∧ some k_ ≠ (v710 : Value).ownBlock ∧ some k_ ≠ (v714 : Value).ownBlock ∧ oN k_ Ao70 t717 co70 ∧ oN k_ Ao76 t720 co76 ∧ oN k_ Ao80 t725 co80 ∧ oN k_ Ao87 t728 co87) (.slice Ao53 t696.length co53) t696) := ⟨rT (Kd.R_mono (rF gb732 1 (rF gb732 0 (rY HO698 BK732) (.slice Ao80 t725.length co80)) (.slice Ao87 t728.length co87)) (fun _ hk => ⟨hk.1.1.1.1.1.1.1.1.1.1.1.1.2, ⟨hk.1.1.1.1.1.1.1.1.1.1.1.2, ⟨hk.1.1.1.1.1.1.1.1.1.1.2, ⟨hk.1.1.1.1.1.1.1.1.1.2, ⟨hk.1.1.1.1.1.1.1.1.1.1.1.1.1, ⟨hk.1.1.1.1.1.1.1.1.2, ⟨hk.1.1.1.1.1.1.1.2, ⟨hk.1.1.1.1.1.1.2, ⟨hk.1.1.1.1.1.2, ⟨hk.1.1.1.1.2, ⟨hk.1.1.1.2, ⟨hk.1.1.2, hk.1.2⟩⟩⟩⟩⟩⟩⟩⟩⟩⟩⟩⟩))⟩
      have n6_ : Aside0 (Kd.R (Kd.int .i64) 3 ((w79.setCell ⟨gb732, 0, none⟩ (.slice Ao80 t725.length co80)).setCell ⟨gb732, 1, none⟩ (.slice Ao87 t728.length co87)) w.heap.size (fun k_ => oN k_ Ao10 t677 co10 ∧ oN k_ Ao13 t680 co13 ∧ oN k_ Ao14 t683 co14 ∧ oN k_ Ao16 t686 co16 ∧ oN k_ Ao49 t693 co49 ∧ oN k_ Ao53 t696 co53 ∧ oN k_ Ao62 t704 co62 ∧ some k_ ≠ (v710 : Value).ownBlock ∧ some k_ ≠ (v714 : Value).ownBlock ∧ oN k_ Ao70 t717 co70 ∧ oN k_ Ao76 t720 co76 ∧ oN k_ Ao80 t725 co80 ∧ oN k_ Ao87 t728 co87) (.slice Ao57 t701.length co57) t701) := ⟨rT (Kd.R_mono (rF gb732 1 (rF gb732 0 (rY HO703 BK732) (.slice Ao80 t725.length co80)) (.slice Ao87 t728.length co87)) (fun _ hk => ⟨hk.1.1.1.1.1.1.1.1.1.1.1.1.2, ⟨hk.1.1.1.1.1.1.1.1.1.1.1.2, ⟨hk.1.1.1.1.1.1.1.1.1.1.2, ⟨hk.1.1.1.1.1.1.1.1.1.2, ⟨hk.1.1.1.1.1.1.1.1.2, ⟨hk.1.1.1.1.1.1.1.2, ⟨hk.1.1.1.1.1.1.1.1.1.1.1.1.1, ⟨hk.1.1.1.1.1.1.2, ⟨hk.1.1.1.1.1.2, ⟨hk.1.1.1.1.2, ⟨hk.1.1.1.2, ⟨hk.1.1.2, hk.1.2⟩⟩⟩⟩⟩⟩⟩⟩⟩⟩⟩⟩))⟩
      have n7_ : Aside0 (Kd.R (Kd.int .i64) 3 ((w79.setCell ⟨gb732, 0, none⟩ (.slice Ao80 t725.length co80)).setCell ⟨gb732, 1, none⟩ (.slice Ao87 t728.length co87)) w.heap.size (fun k_ => oN k_ Ao10 t677 co10 ∧ oN k_ Ao13 t680 co13 ∧ oN k_ Ao14 t683 co14 ∧ oN k_ Ao16 t686 co16 ∧ oN k_ Ao49 t693 co49 ∧ oN k_ Ao53 t696 co53 ∧ oN k_ Ao57 t701 co57 ∧ some k_ ≠ (v710 : Value).ownBlock ∧ some k_ ≠ (v714 : Value).ownBlock ∧ oN k_ Ao70 t717 co70 ∧ oN k_ Ao76 t720 co76 ∧ oN k_ Ao80 t725 co80 ∧ oN k_ Ao87 t728 co87) (.slice Ao62 t704.length co62) t704) := ⟨rT (Kd.R_mono (rF gb732 1 (rF gb732 0 (rY HO706 BK732) (.slice Ao80 t725.length co80)) (.slice Ao87 t728.length co87)) (fun _ hk => ⟨hk.1.1.1.1.1.1.1.1.1.1.1.1.2, ⟨hk.1.1.1.1.1.1.1.1.1.1.1.2, ⟨hk.1.1.1.1.1.1.1.1.1.1.2, ⟨hk.1.1.1.1.1.1.1.1.1.2, ⟨hk.1.1.1.1.1.1.1.1.2, ⟨hk.1.1.1.1.1.1.1.2, ⟨hk.1.1.1.1.1.1.1.1.1.1.1.1.1, ⟨hk.1.1.1.1.1.1.2, ⟨hk.1.1.1.1.1.2, ⟨hk.1.1.1.1.2, ⟨hk.1.1.1.2, ⟨hk.1.1.2, hk.1.2⟩⟩⟩⟩⟩⟩⟩⟩⟩⟩⟩⟩))⟩
      have n8_ : Aside0 (Kd.R (Kd.int .i64) 3 ((w79.setCell ⟨gb732, 0, none⟩ (.slice Ao80 t725.length co80)).setCell ⟨gb732, 1, none⟩ (.slice Ao87 t728.length co87)) w.heap.size (fun k_ => oN k_ Ao10 t677 co10 ∧ oN k_ Ao13 t680 co13 ∧ oN k_ Ao14 t683 co14 ∧ oN k_ Ao16 t686 co16 ∧ oN k_ Ao49 t693 co49 ∧ oN k_ Ao53 t696 co53 ∧ oN k_ Ao57 t701 co57 ∧ oN k_ Ao62 t704 co62 ∧ some k_ ≠ (v714 : Value).ownBlock ∧ oN k_ Ao70 t717 co70 ∧ oN k_ Ao76 t720 co76 ∧ oN k_ Ao80 t725 co80 ∧ oN k_ Ao87 t728 co87) v710 t709) := ⟨rT (Kd.R_mono (rF gb732 1 (rF gb732 0 (rY HO711 BK732) (.slice Ao80 t725.length co80)) (.slice Ao87 t728.length co87)) (fun _ hk => ⟨hk.1.1.1.1.1.1.1.1.1.1.1.1.1.2, ⟨hk.1.1.1.1.1.1.1.1.1.1.1.1.2, ⟨hk.1.1.1.1.1.1.1.1.1.1.1.2, ⟨hk.1.1.1.1.1.1.1.1.1.1.2, ⟨hk.1.1.1.1.1.1.1.1.1.2, ⟨hk.1.1.1.1.1.1.1.1.2, ⟨hk.1.1.1.1.1.1.1.2, ⟨hk.1.1.1.1.1.1.2, ⟨hk.1.1.1.1.1.2, ⟨hk.1.1.1.1.2, ⟨hk.1.1.1.2, ⟨hk.1.1.2, hk.1.2⟩⟩⟩⟩⟩⟩⟩⟩⟩⟩⟩⟩))⟩
      have n9_ : Aside0 (Kd.R (Kd.int .i64) 3 ((w79.setCell ⟨gb732, 0, none⟩ (.slice Ao80 t725.length co80)).setCell ⟨gb732, 1, none⟩ (.slice Ao87 t728.length co87)) w.heap.size (fun k_ => oN k_ Ao10 t677 co10 ∧ oN k_ Ao13 t680 co13 ∧ oN k_ Ao14 t683 co14 ∧ oN k_ Ao16 t686 co16 ∧ oN k_ Ao49 t693 co49 ∧ oN k_ Ao53 t696 co53 ∧ oN k_ Ao57 t701 co57 ∧ oN k_ Ao62 t704 co62 ∧ some k_ ≠ (v710 : Value).ownBlock ∧ oN k_ Ao70 t717 co70 ∧ oN k_ Ao76 t720 co76 ∧ oN k_ Ao80 t725 co80 ∧ oN k_ Ao87 t728 co87) v714 t713) := ⟨rT (Kd.R_mono (rF gb732 1 (rF gb732 0 (rY HO715 BK732) (.slice Ao80 t725.length co80)) (.slice Ao87 t728.length co87)) (fun _ hk => ⟨hk.1.1.1.1.1.1.1.1.1.1.1.1.1.2, ⟨hk.1.1.1.1.1.1.1.1.1.1.1.1.2, ⟨hk.1.1.1.1.1.1.1.1.1.1.1.2, ⟨hk.1.1.1.1.1.1.1.1.1.1.2, ⟨hk.1.1.1.1.1.1.1.1.1.2, ⟨hk.1.1.1.1.1.1.1.1.2, ⟨hk.1.1.1.1.1.1.1.2, ⟨hk.1.1.1.1.1.1.2, ⟨hk.1.1.1.1.1.2, ⟨hk.1.1.1.1.2, ⟨hk.1.1.1.2, ⟨hk.1.1.2, hk.1.2⟩⟩⟩⟩⟩⟩⟩⟩⟩⟩⟩⟩))⟩
      have n10_ : Aside0 (Kd.R (Kd.int .i64) 3 ((w79.setCell ⟨gb732, 0, none⟩ (.slice Ao80 t725.length co80)).setCell ⟨gb732, 1, none⟩ (.slice Ao87 t728.length co87)) w.heap.size (fun k_ => oN k_ Ao10 t677 co10 ∧ oN k_ Ao13 t680 co13 ∧ oN k_ Ao14 t683 co14 ∧ oN k_ Ao16 t686 co16 ∧ oN k_ Ao49 t693 co49 ∧ oN k_ Ao53 t696 co53 ∧ oN k_ Ao57 t701 co57 ∧ oN k_ Ao62 t704 co62 ∧ some k_ ≠ (v710 : Value).ownBlock ∧ some k_ ≠ (v714 : Value).ownBlock ∧ oN k_ Ao76 t720 co76 ∧ oN k_ Ao80 t725 co80 ∧ oN k_ Ao87 t728 co87) (.slice Ao70 t717.length co70) t717) := ⟨rT (Kd.R_mono (rF gb732 1 (rF gb732 0 (rY HO719 BK732) (.slice Ao80 t725.length co80)) (.slice Ao87 t728.length co87)) (fun _ hk => ⟨hk.1.1.1.1.1.1.1.1.1.1.1.1.2, ⟨hk.1.1.1.1.1.1.1.1.1.1.1.2, ⟨hk.1.1.1.1.1.1.1.1.1.1.2, ⟨hk.1.1.1.1.1.1.1.1.1.2, ⟨hk.1.1.1.1.1.1.1.1.2, ⟨hk.1.1.1.1.1.1.1.2, ⟨hk.1.1.1.1.1.1.2, ⟨hk.1.1.1.1.1.2, ⟨hk.1.1.1.1.2, ⟨hk.1.1.1.2, ⟨hk.1.1.1.1.1.1.1.1.1.1.1.1.1, ⟨hk.1.1.2, hk.1.2⟩⟩⟩⟩⟩⟩⟩⟩⟩⟩⟩⟩))⟩
      have n11_ : Aside0 (Kd.R (Kd.int .i64) 3 ((w79.setCell ⟨gb732, 0, none⟩ (.slice Ao80 t725.length co80)).setCell ⟨gb732, 1, none⟩ (.slice Ao87 t728.length co87)) w.heap.size (fun k_ => oN k_ Ao10 t677 co10 ∧ oN k_ Ao13 t680 co13 ∧ oN k_ Ao14 t683 co14 ∧ oN k_ Ao16 t686 co16 ∧ oN k_ Ao49 t693 co49 ∧ oN k_ Ao53 t696 co53 ∧ oN k_ Ao57 t701 co57 ∧ oN k_ Ao62 t704 co62 ∧ some k_ ≠ (v710 : Value).ownBlock ∧ some k_ ≠ (v714 : Value).ownBlock ∧ oN k_ Ao70 t717 co70 ∧ oN k_ Ao80 t725 co80 ∧ oN k_ Ao87 t728 co87) (.slice Ao76 t720.length co76) t720) := ⟨rT (Kd.R_mono (rF gb732 1 (rF gb732 0 (rY HO722 BK732) (.slice Ao80 t725.length co80)) (.slice Ao87 t728.length co87)) (fun _ hk => ⟨hk.1.1.1.1.1.1.1.1.1.1.1.1.2, ⟨hk.1.1.1.1.1.1.1.1.1.1.1.2, ⟨hk.1.1.1.1.1.1.1.1.1.1.2, ⟨hk.1.1.1.1.1.1.1.1.1.2, ⟨hk.1.1.1.1.1.1.1.1.2, ⟨hk.1.1.1.1.1.1.1.2, ⟨hk.1.1.1.1.1.1.2, ⟨hk.1.1.1.1.1.2, ⟨hk.1.1.1.1.2, ⟨hk.1.1.1.2, ⟨hk.1.1.1.1.1.1.1.1.1.1.1.1.1, ⟨hk.1.1.2, hk.1.2⟩⟩⟩⟩⟩⟩⟩⟩⟩⟩⟩⟩))⟩
      have n12_ : Aside0 (Kd.R (Kd.int .i64) 3 ((w79.setCell ⟨gb732, 0, none⟩ (.slice Ao80 t725.length co80)).setCell ⟨gb732, 1, none⟩ (.slice Ao87 t728.length co87)) w.heap.size (fun k_ => oN k_ Ao10 t677 co10 ∧ oN k_ Ao13 t680 co13 ∧ oN k_ Ao14 t683 co14 ∧ oN k_ Ao16 t686 co16 ∧ oN k_ Ao49 t693 co49 ∧ oN k_ Ao53 t696 co53 ∧ oN k_ Ao57 t701 co57 ∧ oN k_ Ao62 t704 co62 ∧ some k_ ≠ (v710 : Value).ownBlock ∧ some k_ ≠ (v714 : Value).ownBlock ∧ oN k_ Ao70 t717 co70 ∧ oN k_ Ao76 t720 co76 ∧ oN k_ Ao87 t728 co87) (.slice Ao80 t725.length co80) t725) := ⟨rT (Kd.R_mono (rF gb732 1 (rF gb732 0 (rY HO727 BK732) (.slice Ao80 t725.length co80)) (.slice Ao87 t728.length co87)) (fun _ hk => ⟨hk.1.1.1.1.1.1.1.1.1.1.1.1.2, ⟨hk.1.1.1.1.1.1.1.1.1.1.1.2, ⟨hk.1.1.1.1.1.1.1.1.1.1.2, ⟨hk.1.1.1.1.1.1.1.1.1.2, ⟨hk.1.1.1.1.1.1.1.1.2, ⟨hk.1.1.1.1.1.1.1.2, ⟨hk.1.1.1.1.1.1.2, ⟨hk.1.1.1.1.1.2, ⟨hk.1.1.1.1.2, ⟨hk.1.1.1.2, ⟨hk.1.1.2, ⟨hk.1.2, hk.1.1.1.1.1.1.1.1.1.1.1.1.1⟩⟩⟩⟩⟩⟩⟩⟩⟩⟩⟩⟩))⟩
      have n13_ : Aside0 (Kd.R (Kd.int .i64) 3 ((w79.setCell ⟨gb732, 0, none⟩ (.slice Ao80 t725.length co80)).setCell ⟨gb732, 1, none⟩ (.slice Ao87 t728.length co87)) w.heap.size (fun k_ => oN k_ Ao10 t677 co10 ∧ oN k_ Ao13 t680 co13 ∧ oN k_ Ao14 t683 co14 ∧ oN k_ Ao16 t686 co16 ∧ oN k_ Ao49 t693 co49 ∧ oN k_ Ao53 t696 co53 ∧ oN k_ Ao57 t701 co57 ∧ oN k_ Ao62 t704 co62 ∧ some k_ ≠ (v710 : Value).ownBlock ∧ some k_ ≠ (v714 : Value).ownBlock ∧ oN k_ Ao70 t717 co70 ∧ oN k_ Ao76 t720 co76 ∧ oN k_ Ao80 t725 co80) (.slice Ao87 t728.length co87) t728) := ⟨rT (Kd.R_mono (rF gb732 1 (rF gb732 0 (rY HO730 BK732) (.slice Ao80 t725.length co80)) (.slice Ao87 t728.length co87)) (fun _ hk => ⟨hk.1.1.1.1.1.1.1.1.1.1.1.1.2, ⟨hk.1.1.1.1.1.1.1.1.1.1.1.2, ⟨hk.1.1.1.1.1.1.1.1.1.1.2, ⟨hk.1.1.1.1.1.1.1.1.1.2, ⟨hk.1.1.1.1.1.1.1.1.2, ⟨hk.1.1.1.1.1.1.1.2, ⟨hk.1.1.1.1.1.1.2, ⟨hk.1.1.1.1.1.2, ⟨hk.1.1.1.1.2, ⟨hk.1.1.1.2, ⟨hk.1.1.2, ⟨hk.1.2, hk.1.1.1.1.1.1.1.1.1.1.1.1.1⟩⟩⟩⟩⟩⟩⟩⟩⟩⟩⟩⟩))⟩
      have n14_ : Aside0 (((w79.setCell ⟨gb732, 0, none⟩ (.slice Ao80 t725.length co80)).setCell ⟨gb732, 1, none⟩ (.slice Ao87 t728.length co87)).heap[gb689]? = some (.cells #[.slice Ao10 t677.length co10, .slice Ao13 t680.length co13] 40 (0, 0))) := ⟨kF BK689⟩
      have n15_ : Aside0 (((w79.setCell ⟨gb732, 0, none⟩ (.slice Ao80 t725.length co80)).setCell ⟨gb732, 1, none⟩ (.slice Ao87 t728.length co87)).heap[gb690]? = some (.cells #[.slice Ao14 t683.length co14, .slice Ao16 t686.length co16] 40 (0, 0))) := ⟨kF BK690⟩
      have n16_ : Aside0 (((w79.setCell ⟨gb732, 0, none⟩ (.slice Ao80 t725.length co80)).setCell ⟨gb732, 1, none⟩ (.slice Ao87 t728.length co87)).heap[gb700]? = some (.cells #[.slice Ao49 t693.length co49, .slice Ao53 t696.length co53] 40 (0, 0))) := ⟨kF BK700⟩
      have n17_ : Aside0 (((w79.setCell ⟨gb732, 0, none⟩ (.slice Ao80 t725.length co80)).setCell ⟨gb732, 1, none⟩ (.slice Ao87 t728.length co87)).heap[gb708]? = some (.cells #[.slice Ao57 t701.length co57, .slice Ao62 t704.length co62] 40 (0, 0))) := ⟨kF BK708⟩
      have n18_ : Aside0 (((w79.setCell ⟨gb732, 0, none⟩ (.slice Ao80 t725.length co80)).setCell ⟨gb732, 1, none⟩ (.slice Ao87 t728.length co87)).heap[gb724]? = some (.cells #[.slice Ao70 t717.length co70, .slice Ao76 t720.length co76] 40 (0, 0))) := ⟨kF BK724⟩
      have n19_ : Aside0 (((w79.setCell ⟨gb732, 0, none⟩ (.slice Ao80 t725.length co80)).setCell ⟨gb732, 1, none⟩ (.slice Ao87 t728.length co87)).heap[gb732]? = some (.cells #[.slice Ao80 t725.length co80, .slice Ao87 t728.length co87] 40 (0, 0))) := ⟨by (with_reducible repeat (first | refine blk_drewN ?_ _ | refine blk_drew ?_ | refine blk_alloc ?_ _)); refine blk_put (cs := #[.slice Ao80 t725.length co80, .slice none 0 0]) ?_ 1 _ rfl; (with_reducible repeat (first | refine blk_drewN ?_ _ | refine blk_drew ?_ | refine blk_alloc ?_ _)); refine blk_put (cs := #[.slice none 0 0, .slice none 0 0]) ?_ 0 _ rfl; (with_reducible repeat (first | refine blk_drewN ?_ _ | refine blk_drew ?_ | refine blk_alloc ?_ _)); exact BK732.out⟩
      have n20_ : Aside0 (Below w.heap.size w ((w79.setCell ⟨gb732, 0, none⟩ (.slice Ao80 t725.length co80)).setCell ⟨gb732, 1, none⟩ (.slice Ao87 t728.length co87))) := ⟨bP HB⟩
      (try clear HO_690000)
      (try clear HO_690001)
      (try clear HO_691000)
      (try clear HO_691001)
      (try clear HO695)
      (try clear HO698)
      (try clear HO703)
      (try clear HO706)
      (try clear HO711)
      (try clear HO715)
      (try clear HO719)
      (try clear HO722)
      (try clear HO727)
      (try clear HO730)
      (try clear BK689)
      (try clear BK690)
      (try clear BK700)
      (try clear BK708)
      (try clear BK724)
      (try clear BK732)
      (try clear HB)
      generalize ((w79.setCell ⟨gb732, 0, none⟩ (.slice Ao80 t725.length co80)).setCell ⟨gb732, 1, none⟩ (.slice Ao87 t728.length co87)) = w88 at n0_ n1_ n2_ n3_ n4_ n5_ n6_ n7_ n8_ n9_ n10_ n11_ n12_ n13_ n14_ n15_ n16_ n17_ n18_ n19_ n20_ ⊢
      have HO_690000 := n0_
      have HO_690001 := n1_
      have HO_691000 := n2_
      have HO_691001 := n3_
      have HO695 := n4_
      have HO698 := n5_
      have HO703 := n6_
      have HO706 := n7_
      have HO711 := n8_
      have HO715 := n9_
      have HO719 := n10_
      have HO722 := n11_
      have HO727 := n12_
      have HO730 := n13_
      have BK689 := n14_
      have BK690 := n15_
      have BK700 := n16_
      have BK708 := n17_
      have BK724 := n18_
      have BK732 := n19_
      have HB := n20_
      clear n0_ n1_ n2_ n3_ n4_ n5_ n6_ n7_ n8_ n9_ n10_ n11_ n12_ n13_ n14_ n15_ n16_ n17_ n18_ n19_ n20_
      replace HO_690000 := Aside0.mk (Kd.Q_drew HO_690000.out)
      replace HO_690001 := Aside0.mk (Kd.R_drew HO_690001.out)
      replace HO_691000 := Aside0.mk (Kd.Q_drew HO_691000.out)
      replace HO_691001 := Aside0.mk (Kd.R_drew HO_691001.out)
      replace HO695 := Aside0.mk (Kd.R_drew HO695.out)
      replace HO698 := Aside0.mk (Kd.R_drew HO698.out)
      replace HO703 := Aside0.mk (Kd.R_drew HO703.out)
      replace HO706 := Aside0.mk (Kd.R_drew HO706.out)
      replace HO711 := Aside0.mk (Kd.R_drew HO711.out)
      replace HO715 := Aside0.mk (Kd.R_drew HO715.out)
      replace HO719 := Aside0.mk (Kd.R_drew HO719.out)
      replace HO722 := Aside0.mk (Kd.R_drew HO722.out)
      replace HO727 := Aside0.mk (Kd.R_drew HO727.out)
      replace HO730 := Aside0.mk (Kd.R_drew HO730.out)
      replace BK689 := Aside0.mk (blk_drew BK689.out)
      replace BK690 := Aside0.mk (blk_drew BK690.out)
      replace BK700 := Aside0.mk (blk_drew BK700.out)
      replace BK708 := Aside0.mk (blk_drew BK708.out)
      replace BK724 := Aside0.mk (blk_drew BK724.out)
      replace BK732 := Aside0.mk (blk_drew BK732.out)
      replace HB := Aside0.mk (below_drew1 HB.out)
      refine start_ (n := 44) (S := fun w' => w'.cell? ⟨gb700, 0, none⟩ = some (.slice Ao49 t693.length co49) ∧ w'.cell? ⟨gb700, 1, none⟩ = some (.slice Ao53 t696.length co53) ∧ w'.cell? ⟨gb708, 0, none⟩ = some (.slice Ao57 t701.length co57) ∧ w'.cell? ⟨gb708, 1, none⟩ = some (.slice Ao62 t704.length co62) ∧ w'.cell? ⟨gb690, 0, none⟩ = some (.slice Ao14 t683.length co14) ∧ w'.cell? ⟨gb690, 1, none⟩ = some (.slice Ao16 t686.length co16) ∧ w'.cell? ⟨gb689, 0, none⟩ = some (.slice Ao10 t677.length co10) ∧ w'.cell? ⟨gb689, 1, none⟩ = some (.slice Ao13 t680.length co13) ∧ w'.cell? ⟨gb724, 0, none⟩ = some (.slice Ao70 t717.length co70) ∧ w'.cell? ⟨gb724, 1, none⟩ = some (.slice Ao76 t720.length co76) ∧ w'.cell? ⟨gb732, 0, none⟩ = some (.slice Ao80 t725.length co80) ∧ w'.cell? ⟨gb732, 1, none⟩ = some (.slice Ao87 t728.length co87)) (ds := []) (tf 0 44) (by kernel_rfl) rfl rfl ⟨(blk_cell BK700.out 0).trans rfl, (blk_cell BK700.out 1).trans rfl, (blk_cell BK708.out 0).trans rfl, (blk_cell BK708.out 1).trans rfl, (blk_cell BK690.out 0).trans rfl, (blk_cell BK690.out 1).trans rfl, (blk_cell BK689.out 0).trans rfl, (blk_cell BK689.out 1).trans rfl, (blk_cell BK724.out 0).trans rfl, (blk_cell BK724.out 1).trans rfl, (blk_cell BK732.out 0).trans rfl, (blk_cell BK732.out 1).trans rfl⟩ (fun hHeld => ?_); refine with_tabW laws_FnSame.tab14 laws_FnSame.bits14 (fun HT_ HW_ => ?_)
      generalize w88.drew = w89 at HO_690000 HO_690001 HO_691000 HO_691001 HO695 HO698 HO703 HO706 HO711 HO715 HO719 HO722 HO727 HO730 BK689 BK690 BK700 BK708 BK724 BK732 HB hHeld ⊢
      refine pV 0 73 (tf 1 43) HT_ ?_
      refine pV 1 74 (tf 2 42) HT_ ?_
      refine pV 2 75 (tf 3 41) HT_ ?_
      refine pV 3 76 (tf 4 40) HT_ ?_
      refine pV 4 77 (tf 5 39) HT_ ?_
      refine pV 5 78 (tf 6 38) HT_ ?_
      refine pV 6 79 (tf 7 37) HT_ ?_
      refine pV 7 80 (tf 8 36) HT_ ?_
      refine pV 8 81 (tf 9 35) HT_ ?_
      refine pV 9 82 (tf 10 34) HT_ ?_
      refine pV 10 83 (tf 11 33) HT_ ?_
      refine pV 11 84 (tf 12 32) HT_ ?_
      refine pV 12 85 (tf 13 31) HT_ ?_
      refine pV 13 86 (tf 14 30) HT_ ?_
      refine pV 14 87 (tf 15 29) HT_ ?_
      refine pV 15 88 (tf 16 28) HT_ ?_
      refine pV 16 89 (tf 17 27) HT_ ?_
      refine tV 17 90 (tf 18 26) HT_ HW_ hHeld ?_
      refine tV 18 91 (tf 19 25) HT_ HW_ hHeld ?_
      refine eN 19 (some 92) (tf 20 24) HT_ (fun K hK => ?_)
      refine goes_ Try.func34 (by kernel_rfl) rfl #[.agg #[.slice Ao49 t693.length co49, .slice Ao53 t696.length co53], .agg #[.slice Ao57 t701.length co57, .slice Ao62 t704.length co62]] (by rfl) rfl rfl (by (try simp only [List.map_toArray, List.map_cons, List.map_nil]); first | done | rfl | (simp only [List.length_drop, List.length_take]; rfl)) ?_
      with_reducible refine (laws_sameMap.calls kj5 _ _ t693 _ _ t696 _ _ t701 _ _ t704 true _ ?side1 ?side2 ?side3 ?side4 ?side5 ?side6 ?side7 ?side8 A35.out).mono ?_
      (case side1 => exact cP (Kd.R_reads' HO695.out).2.2)
      (case side2 => exact (Kd.R_reads' HO695.out).2.1)
      (case side3 => exact cP (Kd.R_reads' HO698.out).2.2)
      (case side4 => exact (Kd.R_reads' HO698.out).2.1)
      (case side5 => exact cP (Kd.R_reads' HO703.out).2.2)
      (case side6 => exact (Kd.R_reads' HO703.out).2.1)
      (case side7 => exact cP (Kd.R_reads' HO706.out).2.2)
      (case side8 => exact (Kd.R_reads' HO706.out).2.1)
      rintro e w90 ⟨rfl, hb⟩
      refine ⟨_, rfl, ?_⟩
      replace HO_690000 := Aside0.mk (Kd.Q_below (qP HO_690000) hb)
      replace HO_690001 := rB HO_690001 hb
      replace HO_691000 := Aside0.mk (Kd.Q_below (qP HO_691000) hb)
      replace HO_691001 := rB HO_691001 hb
      replace HO695 := rB HO695 hb
      replace HO698 := rB HO698 hb
      replace HO703 := rB HO703 hb
      replace HO706 := rB HO706 hb
      replace HO711 := rB HO711 hb
      replace HO715 := rB HO715 hb
      replace HO719 := rB HO719 hb
      replace HO722 := rB HO722 hb
      replace HO727 := rB HO727 hb
      replace HO730 := rB HO730 hb
      replace BK689 := kB BK689 hb
      replace BK690 := kB BK690 hb
      replace BK700 := kB BK700 hb
      replace BK708 := kB BK708 hb
      replace BK724 := kB BK724 hb
      replace BK732 := kB BK732 hb
      replace HB := bS HB hb
      (try clear hb)
      (try clear hb2)
      (try clear hk)
      (try clear hi)
      obtain ⟨Ao91, co91, eo91⟩ := Kd.R_slice HO711.out
      (first | subst eo91 | (injection eo91 with f1_ f2_ f3_; have f4_ := f1_.symm; have f5_ := f3_.symm; clear f1_ f2_ f3_; subst f4_; subst f5_))
      obtain ⟨Ao92, co92, eo92⟩ := Kd.R_slice HO715.out
      (first | subst eo92 | (injection eo92 with f1_ f2_ f3_; have f4_ := f1_.symm; have f5_ := f3_.symm; clear f1_ f2_ f3_; subst f4_; subst f5_))
      refine hK.out _ _ ⟨(blk_cell BK700.out 0).trans rfl, (blk_cell BK700.out 1).trans rfl, (blk_cell BK708.out 0).trans rfl, (blk_cell BK708.out 1).trans rfl, (blk_cell BK690.out 0).trans rfl, (blk_cell BK690.out 1).trans rfl, (blk_cell BK689.out 0).trans rfl, (blk_cell BK689.out 1).trans rfl, (blk_cell BK724.out 0).trans rfl, (blk_cell BK724.out 1).trans rfl, (blk_cell BK732.out 0).trans rfl, (blk_cell BK732.out 1).trans rfl⟩ (fun hHeld => ?_)
      clear hK K
      refine norm_ (a' := ?_) ?_ ?_
      rotate_left
      ·show Act.put _ (some 92) _ = _
       simp only [Act.put, List.setIfInBounds_toArray, List.set_cons_zero, List.set_cons_succ, i64_w, i32_w]
       rfl
      refine pV 20 93 (tf 21 23) HT_ ?_
      refine pV 21 94 (tf 22 22) HT_ ?_
      refine pV 22 95 (tf 23 21) HT_ ?_
      refine pV 23 96 (tf 24 20) HT_ ?_
      refine eN 24 (some 97) (tf 25 19) HT_ (fun K hK => ?_)
      refine goes_ Try.func18 (by kernel_rfl) rfl #[.slice Ao91 t709.length co91, .slice Ao92 t713.length co92] (by rfl) rfl rfl (by (try simp only [List.map_toArray, List.map_cons, List.map_nil]); first | done | rfl | (simp only [List.length_drop, List.length_take]; rfl)) ?_
      with_reducible refine (laws_sameInts.calls kj5 _ _ t709 _ _ t713 true _ ?side1 ?side2 ?side3 ?side4 A37.out).mono ?_
      (case side1 => exact cP (Kd.R_reads' HO711.out).2.2)
      (case side2 => exact (Kd.R_reads' HO711.out).2.1)
      (case side3 => exact cP (Kd.R_reads' HO715.out).2.2)
      (case side4 => exact (Kd.R_reads' HO715.out).2.1)
      rintro e w' ⟨rfl, ⟨nd, rfl⟩⟩
      refine ⟨_, rfl, ?_⟩
      refine hK.out _ _ ⟨(blk_cell BK700.out 0).trans rfl, (blk_cell BK700.out 1).trans rfl, (blk_cell BK708.out 0).trans rfl, (blk_cell BK708.out 1).trans rfl, (blk_cell BK690.out 0).trans rfl, (blk_cell BK690.out 1).trans rfl, (blk_cell BK689.out 0).trans rfl, (blk_cell BK689.out 1).trans rfl, (blk_cell BK724.out 0).trans rfl, (blk_cell BK724.out 1).trans rfl, (blk_cell BK732.out 0).trans rfl, (blk_cell BK732.out 1).trans rfl⟩ (fun hHeld => ?_)
      clear hK K
      refine norm_ (a' := ?_) ?_ ?_
      rotate_left
      ·show Act.put _ (some 97) _ = _
       simp only [Act.put, List.setIfInBounds_toArray, List.set_cons_zero, List.set_cons_succ, i64_w, i32_w]
       rfl
      refine pV 25 98 (tf 26 18) HT_ ?_
      refine pV 26 99 (tf 27 17) HT_ ?_
      refine tV 27 100 (tf 28 16) HT_ HW_ hHeld ?_
      refine tV 28 101 (tf 29 15) HT_ HW_ hHeld ?_
      refine eN 29 (some 102) (tf 30 14) HT_ (fun K hK => ?_)
      refine goes_ Try.func37 (by kernel_rfl) rfl #[.agg #[.slice Ao14 t683.length co14, .slice Ao16 t686.length co16], .agg #[.slice Ao10 t677.length co10, .slice Ao13 t680.length co13]] (by rfl) rfl rfl (by (try simp only [List.map_toArray, List.map_cons, List.map_nil]); first | done | rfl | (simp only [List.length_drop, List.length_take]; rfl)) ?_
      with_reducible refine (impl_MapSame.calls kj5 _ _ t683 _ _ t686 _ _ t677 _ _ t680 true _ ?side1 ?side2 ?side3 ?side4 ?side5 ?side6 ?side7 ?side8 A39.out).mono ?_
      (case side1 => exact cP (Kd.Q_reads' HO_691000.out).2.2)
      (case side2 => exact (Kd.Q_reads' HO_691000.out).2.1)
      (case side3 => exact cP (Kd.R_reads' HO_691001.out).2.2)
      (case side4 => exact (Kd.R_reads' HO_691001.out).2.1)
      (case side5 => exact cP (Kd.Q_reads' HO_690000.out).2.2)
      (case side6 => exact (Kd.Q_reads' HO_690000.out).2.1)
      (case side7 => exact cP (Kd.R_reads' HO_690001.out).2.2)
      (case side8 => exact (Kd.R_reads' HO_690001.out).2.1)
      rintro e w93 ⟨rfl, hb⟩
      refine ⟨_, rfl, ?_⟩
      replace HO_690000 := Aside0.mk (Kd.Q_below (qP HO_690000) hb)
      replace HO_690001 := rB HO_690001 hb
      replace HO_691000 := Aside0.mk (Kd.Q_below (qP HO_691000) hb)
      replace HO_691001 := rB HO_691001 hb
      replace HO695 := rB HO695 hb
      replace HO698 := rB HO698 hb
      replace HO703 := rB HO703 hb
      replace HO706 := rB HO706 hb
      replace HO711 := rB HO711 hb
      replace HO715 := rB HO715 hb
      replace HO719 := rB HO719 hb
      replace HO722 := rB HO722 hb
      replace HO727 := rB HO727 hb
      replace HO730 := rB HO730 hb
      replace BK689 := kB BK689 hb
      replace BK690 := kB BK690 hb
      replace BK700 := kB BK700 hb
      replace BK708 := kB BK708 hb
      replace BK724 := kB BK724 hb
      replace BK732 := kB BK732 hb
      replace HB := bS HB hb
      (try clear hb)
      (try clear hb2)
      (try clear hk)
      (try clear hi)
      refine hK.out _ _ ⟨(blk_cell BK700.out 0).trans rfl, (blk_cell BK700.out 1).trans rfl, (blk_cell BK708.out 0).trans rfl, (blk_cell BK708.out 1).trans rfl, (blk_cell BK690.out 0).trans rfl, (blk_cell BK690.out 1).trans rfl, (blk_cell BK689.out 0).trans rfl, (blk_cell BK689.out 1).trans rfl, (blk_cell BK724.out 0).trans rfl, (blk_cell BK724.out 1).trans rfl, (blk_cell BK732.out 0).trans rfl, (blk_cell BK732.out 1).trans rfl⟩ (fun hHeld => ?_)
      clear hK K
      refine norm_ (a' := ?_) ?_ ?_
      rotate_left
      ·show Act.put _ (some 102) _ = _
       simp only [Act.put, List.setIfInBounds_toArray, List.set_cons_zero, List.set_cons_succ, i64_w, i32_w]
       rfl
      refine pV 30 103 (tf 31 13) HT_ ?_
      refine pV 31 104 (tf 32 12) HT_ ?_
      refine tV 32 105 (tf 33 11) HT_ HW_ hHeld ?_
      refine tV 33 106 (tf 34 10) HT_ HW_ hHeld ?_
      refine eN 34 (some 107) (tf 35 9) HT_ (fun K hK => ?_)
      refine goes_ Try.func37 (by kernel_rfl) rfl #[.agg #[.slice Ao70 t717.length co70, .slice Ao76 t720.length co76], .agg #[.slice Ao80 t725.length co80, .slice Ao87 t728.length co87]] (by rfl) rfl rfl (by (try simp only [List.map_toArray, List.map_cons, List.map_nil]); first | done | rfl | (simp only [List.length_drop, List.length_take]; rfl)) ?_
      with_reducible refine (impl_MapSame.calls kj5 _ _ t717 _ _ t720 _ _ t725 _ _ t728 true _ ?side1 ?side2 ?side3 ?side4 ?side5 ?side6 ?side7 ?side8 A41.out).mono ?_
      (case side1 => exact cP (Kd.R_reads' HO719.out).2.2)
      (case side2 => exact (Kd.R_reads' HO719.out).2.1)
      (case side3 => exact cP (Kd.R_reads' HO722.out).2.2)
      (case side4 => exact (Kd.R_reads' HO722.out).2.1)
      (case side5 => exact cP (Kd.R_reads' HO727.out).2.2)
      (case side6 => exact (Kd.R_reads' HO727.out).2.1)
      (case side7 => exact cP (Kd.R_reads' HO730.out).2.2)
      (case side8 => exact (Kd.R_reads' HO730.out).2.1)
      rintro e w94 ⟨rfl, hb⟩
      refine ⟨_, rfl, ?_⟩
      replace HO_690000 := Aside0.mk (Kd.Q_below (qP HO_690000) hb)
      replace HO_690001 := rB HO_690001 hb
      replace HO_691000 := Aside0.mk (Kd.Q_below (qP HO_691000) hb)
      replace HO_691001 := rB HO_691001 hb
      replace HO695 := rB HO695 hb
      replace HO698 := rB HO698 hb
      replace HO703 := rB HO703 hb
      replace HO706 := rB HO706 hb
      replace HO711 := rB HO711 hb
      replace HO715 := rB HO715 hb
      replace HO719 := rB HO719 hb
      replace HO722 := rB HO722 hb
      replace HO727 := rB HO727 hb
      replace HO730 := rB HO730 hb
      replace BK689 := kB BK689 hb
      replace BK690 := kB BK690 hb
      replace BK700 := kB BK700 hb
      replace BK708 := kB BK708 hb
      replace BK724 := kB BK724 hb
      replace BK732 := kB BK732 hb
      replace HB := bS HB hb
      (try clear hb)
      (try clear hb2)
      (try clear hk)
      (try clear hi)
      refine hK.out _ _ ⟨(blk_cell BK700.out 0).trans rfl, (blk_cell BK700.out 1).trans rfl, (blk_cell BK708.out 0).trans rfl, (blk_cell BK708.out 1).trans rfl, (blk_cell BK690.out 0).trans rfl, (blk_cell BK690.out 1).trans rfl, (blk_cell BK689.out 0).trans rfl, (blk_cell BK689.out 1).trans rfl, (blk_cell BK724.out 0).trans rfl, (blk_cell BK724.out 1).trans rfl, (blk_cell BK732.out 0).trans rfl, (blk_cell BK732.out 1).trans rfl⟩ (fun hHeld => ?_)
      clear hK K
      refine norm_ (a' := ?_) ?_ ?_
      rotate_left
      ·show Act.put _ (some 107) _ = _
       simp only [Act.put, List.setIfInBounds_toArray, List.set_cons_zero, List.set_cons_succ, i64_w, i32_w]
       rfl
      refine pV 35 108 (tf 36 8) HT_ ?_
      refine pV 36 109 (tf 37 7) HT_ ?_
      refine tV 37 110 (tf 38 6) HT_ HW_ hHeld ?_
      refine tV 39 112 (tB 44 824633720831) HT_ HW_ hHeld ?_
      refine eN 38 (some 111) (tf 40 4) HT_ (fun K hK => ?_)
      refine goes_ Try.func41 (by kernel_rfl) rfl #[.agg #[.slice Ao10 t677.length co10, .slice Ao13 t680.length co13]] (by rfl) rfl rfl (by (try simp only [List.map_toArray, List.map_cons, List.map_nil]); first | done | rfl | (simp only [List.length_drop, List.length_take]; rfl)) ?_
      with_reducible refine (impl_MapTurns.calls kj5 _ _ t677 _ _ t680 t737 _ ?side1 ?side2 ?side3 ?side4 A43.out).mono ?_
      (case side1 => exact cP (Kd.Q_reads' HO_690000.out).2.2)
      (case side2 => exact (Kd.Q_reads' HO_690000.out).2.1)
      (case side3 => exact cP (Kd.R_reads' HO_690001.out).2.2)
      (case side4 => exact (Kd.R_reads' HO_690001.out).2.1)
      rintro e w95 ⟨rfl, hb⟩
      refine ⟨_, rfl, ?_⟩
      replace HO_690000 := Aside0.mk (Kd.Q_below (qP HO_690000) hb)
      replace HO_690001 := rB HO_690001 hb
      replace HO_691000 := Aside0.mk (Kd.Q_below (qP HO_691000) hb)
      replace HO_691001 := rB HO_691001 hb
      replace HO695 := rB HO695 hb
      replace HO698 := rB HO698 hb
      replace HO703 := rB HO703 hb
      replace HO706 := rB HO706 hb
      replace HO711 := rB HO711 hb
      replace HO715 := rB HO715 hb
      replace HO719 := rB HO719 hb
      replace HO722 := rB HO722 hb
      replace HO727 := rB HO727 hb
      replace HO730 := rB HO730 hb
      replace BK689 := kB BK689 hb
      replace BK690 := kB BK690 hb
      replace BK700 := kB BK700 hb
      replace BK708 := kB BK708 hb
      replace BK724 := kB BK724 hb
      replace BK732 := kB BK732 hb
      replace HB := bS HB hb
      (try clear hb)
      (try clear hb2)
      (try clear hk)
      (try clear hi)
      refine hK.out _ _ ⟨(blk_cell BK700.out 0).trans rfl, (blk_cell BK700.out 1).trans rfl, (blk_cell BK708.out 0).trans rfl, (blk_cell BK708.out 1).trans rfl, (blk_cell BK690.out 0).trans rfl, (blk_cell BK690.out 1).trans rfl, (blk_cell BK689.out 0).trans rfl, (blk_cell BK689.out 1).trans rfl, (blk_cell BK724.out 0).trans rfl, (blk_cell BK724.out 1).trans rfl, (blk_cell BK732.out 0).trans rfl, (blk_cell BK732.out 1).trans rfl⟩ (fun hHeld => ?_)
      clear hK K
      refine norm_ (a' := ?_) ?_ ?_
      rotate_left
      ·show Act.put _ (some 111) _ = _
       simp only [Act.put, List.setIfInBounds_toArray, List.set_cons_zero, List.set_cons_succ, i64_w, i32_w]
       rfl
      refine eN 40 (some 113) (tf 41 3) HT_ (fun K hK => ?_)
      refine goes_ Try.func41 (by kernel_rfl) rfl #[.agg #[.slice Ao14 t683.length co14, .slice Ao16 t686.length co16]] (by rfl) rfl rfl (by (try simp only [List.map_toArray, List.map_cons, List.map_nil]); first | done | rfl | (simp only [List.length_drop, List.length_take]; rfl)) ?_
      with_reducible refine (impl_MapTurns.calls kj5 _ _ t683 _ _ t686 t738 _ ?side1 ?side2 ?side3 ?side4 A44.out).mono ?_
      (case side1 => exact cP (Kd.Q_reads' HO_691000.out).2.2)
      (case side2 => exact (Kd.Q_reads' HO_691000.out).2.1)
      (case side3 => exact cP (Kd.R_reads' HO_691001.out).2.2)
      (case side4 => exact (Kd.R_reads' HO_691001.out).2.1)
      rintro e w96 ⟨rfl, hb⟩
      refine ⟨_, rfl, ?_⟩
      replace HO_690000 := Aside0.mk (Kd.Q_below (qP HO_690000) hb)
      replace HO_690001 := rB HO_690001 hb
      replace HO_691000 := Aside0.mk (Kd.Q_below (qP HO_691000) hb)
      replace HO_691001 := rB HO_691001 hb
      replace HO695 := rB HO695 hb
      replace HO698 := rB HO698 hb
      replace HO703 := rB HO703 hb
      replace HO706 := rB HO706 hb
      replace HO711 := rB HO711 hb
      replace HO715 := rB HO715 hb
      replace HO719 := rB HO719 hb
      replace HO722 := rB HO722 hb
      replace HO727 := rB HO727 hb
      replace HO730 := rB HO730 hb
      replace BK689 := kB BK689 hb
      replace BK690 := kB BK690 hb
      replace BK700 := kB BK700 hb
      replace BK708 := kB BK708 hb
      replace BK724 := kB BK724 hb
      replace BK732 := kB BK732 hb
      replace HB := bS HB hb
      (try clear hb)
      (try clear hb2)
      (try clear hk)
      (try clear hi)
      refine hK.out _ _ ⟨(blk_cell BK700.out 0).trans rfl, (blk_cell BK700.out 1).trans rfl, (blk_cell BK708.out 0).trans rfl, (blk_cell BK708.out 1).trans rfl, (blk_cell BK690.out 0).trans rfl, (blk_cell BK690.out 1).trans rfl, (blk_cell BK689.out 0).trans rfl, (blk_cell BK689.out 1).trans rfl, (blk_cell BK724.out 0).trans rfl, (blk_cell BK724.out 1).trans rfl, (blk_cell BK732.out 0).trans rfl, (blk_cell BK732.out 1).trans rfl⟩ (fun hHeld => ?_)
      clear hK K
      refine norm_ (a' := ?_) ?_ ?_
      rotate_left
      ·show Act.put _ (some 113) _ = _
       simp only [Act.put, List.setIfInBounds_toArray, List.set_cons_zero, List.set_cons_succ, i64_w, i32_w]
       rfl
      refine pV 41 114 (tf 42 2) HT_ ?_
      refine pV 42 115 (tf 43 1) HT_ ?_
      refine pV 43 2 (tf 44 0) HT_ ?_
      refine done_ (done_of HT_.out (by kernel_rfl)) ?_
      try go_wp2
      go_ret
      exact ⟨eR, bP HB⟩
     ·replace c29 := Bool.eq_false_iff.mpr c29
      subst c29
      rw [iF] at H
      exact absurd ((Option.some.inj H).trans hr_.out) (by decide)

/-- THE ONE PURE STATEMENT of laws_FnSame: yours. -/
def laws_FnSame.Pure : Prop := ∀ (l0 : List Int), l0.length ≤ maxLen → l0.length * 1 ≤ 140737488351232 → (∀ x ∈ l0, (Lit.int .u8 x).wf = true) → ∃ k, laws_FnSame.f k l0 = some true
theorem laws_FnSame.walk (P : laws_FnSame.Pure) (a0 : Option Addr) (len0 cap0 : Nat) (z0 : List Int) (w : World) (w0 : (a0 = none ∧ len0 = 0 ∧ cap0 = 0 ∧ z0 = []) ∨ ∃ x, a0 = some x ∧ len0 ≤ cap0 ∧ cap0 ≤ maxLen ∧ z0.length = cap0 ∧ (∀ i, i < z0.length → w.cell? (x.add i) = some (.int .u8 (z0.getD i 0))) ∧ ∀ n ∈ z0, (Lit.int .u8 n).wf = true) (y0 : len0 * 1 ≤ 140737488351232) :
 Calls Try.prog 8 #[.slice a0 len0 cap0] w fun e w' => e = .returned (.bool true) ∧ Below w.heap.size w w' := by
 obtain ⟨l0, rfl, hr0, hm0, hw0, hc0⟩ := ReadsInt.ofRowC w0
 obtain ⟨k, h⟩ := P l0 hm0 y0 hw0
 refine (laws_FnSame.calls k _ _ l0 true w (Kd.C_of_reads (d := (0 : Int)) (h1 := fun _ => rfl) hr0) hc0 ⟨rfl⟩ h).mono ?_
 rintro e w' ⟨rfl, hd⟩
 exact ⟨rfl, hd⟩

end Go.Proofs.Yteffimfifgnleaa.F
